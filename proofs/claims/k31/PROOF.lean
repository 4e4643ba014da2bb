import PyProof.Rows.All
import Wide.All
import OpenK.AllK
import Wide.FinOn
import KE.KStateDown
import KE.KDictKeyed
import KE.KDictWalk
import HandS.ForMost
import HandS.ForExc
import HandS.Flow
import HandS.Style
import HandS.IsInst
import HandS.Wide
import HandS.WideBits
import HandS.TupAny
import HandS.Defaults
import HandS.ExcField
import HandS.ExcIs
import HandS.ExcInit
import HandS.ExcSuper
import HandS.CallSlots
import HandS.EndBits
import HandS.HeadEnd
import HandS.HeadHook1
import HandS.HeadHook2
import HandS.Head2
import HandS.NoneIn
import HandS.FStr
import HandS.Text
import HandS.MapJoin
import HandS.TupMul
import HandS.SortInts
import KE.OsSort
import PySem.Challenge.RW_everyworth_k31_only_written_forms_are_re
set_option Elab.async false
set_option linter.all false
set_option maxRecDepth 100000
/-! M layer 1: pure values, the store, the monad, the operations. -/
namespace EW
open PySem

inductive D where
  | non | bl (b : Bool) | int (i : Int) | str (x : List Nat) | tup (xs : List D) | ref (n : Nat)
  deriving Inhabited

namespace D
mutual
def beq : D → D → Bool
  | .non, .non => true
  | .bl a, .bl b => a == b
  | .int a, .int b => a == b
  | .str a, .str b => a == b
  | .tup a, .tup b => beqs a b
  | .ref a, .ref b => a == b
  | _, _ => false
def beqs : List D → List D → Bool
  | [], [] => true
  | a :: as, b :: bs => beq a b && beqs as bs
  | _, _ => false
end
mutual
theorem beq_self : ∀ a : D, beq a a = true
  | .non => rfl
  | .bl a => by simp [beq]
  | .int a => by simp [beq]
  | .str a => by simp [beq]
  | .tup a => by rw [beq]; exact beqs_self a
  | .ref a => by simp [beq]
theorem beqs_self : ∀ a : List D, beqs a a = true
  | [] => rfl
  | a :: as => by rw [beqs, beq_self a, beqs_self as]; rfl
end
mutual
theorem eq_of_beq : ∀ a b : D, beq a b = true → a = b
  | .non, b, h => by cases b <;> first | rfl | cases h
  | .bl a, b, h => by cases b <;> first | (simp only [beq, beq_iff_eq] at h; rw [h]) | cases h
  | .int a, b, h => by cases b <;> first | (simp only [beq, beq_iff_eq] at h; rw [h]) | cases h
  | .str a, b, h => by cases b <;> first | (simp only [beq, beq_iff_eq] at h; rw [h]) | cases h
  | .tup a, b, h => by cases b <;> first | (rw [beq] at h; rw [eqs_of_beqs a _ h]) | cases h
  | .ref a, b, h => by cases b <;> first | (simp only [beq, beq_iff_eq] at h; rw [h]) | cases h
theorem eqs_of_beqs : ∀ a b : List D, beqs a b = true → a = b
  | [], b, h => by cases b <;> first | rfl | cases h
  | a :: as, b, h => by
    cases b with
    | nil => cases h
    | cons b bs =>
      rw [beqs, Bool.and_eq_true] at h
      rw [eq_of_beq a b h.1, eqs_of_beqs as bs h.2]
end
instance : DecidableEq D := fun a b => if h : beq a b = true then Decidable.isTrue (eq_of_beq a b h) else Decidable.isFalse fun e => h (e ▸ beq_self a)
end D

/-- a text by its signs -/
def S (s : String) : List Nat := (Str.ofString s).cps.toList
theorem S_inj {a b : String} : S a = S b ↔ a = b := by
  constructor
  · intro h
    unfold S at h
    rw [Str.ofString_eq_toList, Str.ofString_eq_toList] at h
    simp only at h
    have hm : ∀ (xs ys : List Char), xs.map Char.toNat = ys.map Char.toNat → xs = ys := by
      intro xs
      induction xs with
      | nil => intro ys e; cases ys with
        | nil => rfl
        | cons y ys => cases e
      | cons x xs ih => intro ys e; cases ys with
        | nil => cases e
        | cons y ys =>
          injection e with e1 e2
          rw [ih ys e2, Char.ext (UInt32.toNat_inj.mp e1)]
    exact String.toList_inj.mp (hm _ _ h)
  · intro h; rw [h]

inductive Ob where
  | lst (xs : List D) | rol (xs : List D) | dic (kvs : List (D × D)) | ins (c : Nat) (fs : List (Nat × D))
  deriving Inhabited

abbrev Sto := List Ob
structure Exn where
  c : Nat
  fs : List (Nat × D) := []
inductive Res (α : Type) where
  | ok (a : α) (s : Sto) | exc (x : Exn) (s : Sto) | no
def M (α : Type) : Type := Sto → Res α
namespace M
def pure {α : Type} (a : α) : M α := fun s => .ok a s
def bind {α β : Type} (x : M α) (f : α → M β) : M β := fun s => match x s with
  | .ok a s' => f a s'
  | .exc e s' => .exc e s'
  | .no => .no
instance : Monad M where
  pure := M.pure
  bind := M.bind
/-- no result is claimed -/
def stuck {α : Type} : M α := fun _ => .no
def raise {α : Type} (x : Exn) : M α := fun s => .exc x s
@[simp] theorem bind_ok {α β : Type} (x : M α) (f : α → M β) (s s' : Sto) (a : α) (h : x s = .ok a s') : (x >>= f) s = f a s' := by
  show M.bind x f s = _
  unfold M.bind; rw [h]
end M

/-! ### the store -/
def getO (n : Nat) : M Ob := fun s => match s[n]? with
  | some o => .ok o s
  | none => .no
def setO (n : Nat) (o : Ob) : M Unit := fun s => .ok () (s.set n o)
def newO (o : Ob) : M D := fun s => .ok (.ref s.length) (s ++ [o])

/-! ### the texts -/
def strOf (x : List Nat) : Str := ⟨x.toArray⟩

/-! ### truth -/
def tru (d : D) : M Bool := fun s => match d with
  | .non => .ok false s
  | .bl b => .ok b s
  | .int i => .ok (i != 0) s
  | .str x => if x.length ≤ sizeLine then .ok (!x.isEmpty) s else .no
  | .tup xs => .ok (!xs.isEmpty) s
  | .ref n => match s[n]? with
    | some (.lst xs) => .ok (!xs.isEmpty) s
    | some (.rol xs) => .ok (!xs.isEmpty) s
    | some (.dic kvs) => .ok (!kvs.isEmpty) s
    | _ => .no

/-! ### operators -/
inductive BO where
  | add | sub | mul | fdiv | mod | pow | and | or | xor | shl | shr
  deriving DecidableEq
def mulOk (i j : Int) : Bool := decide ((Builtin.Int.intBits i : Int) + (Builtin.Int.intBits j : Int) ≤ 134217728)
def bin (op : BO) (a b : D) : M D := fun s => match op, a, b with
  | .add, .int i, .int j => .ok (.int (i + j)) s
  | .sub, .int i, .int j => .ok (.int (i - j)) s
  | .mul, .int i, .int j => if mulOk i j then .ok (.int (i * j)) s else .no
  | .fdiv, .int i, .int j => if 0 < j ∧ j.natAbs.log2 < 9000 then .ok (.int (i / j)) s else .no
  | .mod, .int i, .int j => if 0 < j then .ok (.int (i % j)) s else .no
  | .pow, .int i, .int j => if 0 ≤ j ∧ j ≤ 1000000 ∧ i.natAbs < 2 ^ 64 then .ok (.int (i ^ j.toNat)) s else .no
  | .and, .int i, .int j => .ok (.int (Builtin.bitAnd i j)) s
  | .or, .int i, .int j => .ok (.int (Builtin.bitOr i j)) s
  | .xor, .int i, .int j => .ok (.int (Builtin.bitXor i j)) s
  | .shl, .int i, .int j => if 0 ≤ j ∧ (Builtin.Int.intBits i : Int) + j ≤ 2 ^ 27 then .ok (.int (i * 2 ^ j.toNat)) s else .no
  | .shr, .int i, .int j => if 0 ≤ j then .ok (.int (i / 2 ^ j.toNat)) s else .no
  | .add, .str x, .str y => if x.length + y.length ≤ sizeLine then .ok (.str (x ++ y)) s else .no
  | .add, .tup x, .tup y => if x.length + y.length ≤ sizeLine then .ok (.tup (x ++ y)) s else .no
  | .add, .ref m, .ref n => match s[m]?, s[n]? with
    | some (.lst x), some (.lst y) => if x.length + y.length ≤ sizeLine then .ok (.ref s.length) (s ++ [.lst (x ++ y)]) else .no
    | _, _ => .no
  | .mul, .str x, .int j => if 0 ≤ j ∧ j ≤ sizeLine ∧ x.length * j.toNat ≤ sizeLine then .ok (.str (List.replicate j.toNat x).flatten) s else .no
  | .mul, .tup x, .int j => if x ≠ [] ∧ 1 ≤ j ∧ j ≤ 1000 ∧ x.length ≤ 1000 then .ok (.tup (List.replicate j.toNat x).flatten) s else .no
  | _, _, _ => .no

/-! ### comparisons -/
def omap {α β : Type} (f : α → Option β) : List α → Option (List β)
  | [] => some []
  | x :: xs => match f x with
    | none => none
    | some y => match omap f xs with
      | none => none
      | some ys => some (y :: ys)
/-- the data that a value is, at most n deep -/
def toPd (s : Sto) : Nat → D → Option PyData
  | _, .non => some .none
  | _, .bl b => some (.bool b)
  | _, .int i => some (.int i)
  | _, .str x => some (.str (strOf x))
  | 0, _ => none
  | n + 1, .tup xs => (omap (toPd s n) xs).map .tuple
  | n + 1, .ref i => match s[i]? with
    | some (.lst xs) => (omap (toPd s n) xs).map .list
    | some (.rol xs) => (omap (toPd s n) xs).map .list
    | _ => none
/-- a == b -/
def peq (s : Sto) (a b : D) : Option Bool := match toPd s 64 a, toPd s 64 b with
  | some x, some y => if SeqAt.shaped x && SeqAt.shaped y then some (PyData.eqv x y) else none
  | _, _ => none
inductive CO where
  | eq | ne | lt | le | gt | ge | is | isnot | isin | notin
  deriving DecidableEq
def cmpI : CO → Int → Int → Option Bool
  | .lt, i, j => some (decide (i < j))
  | .le, i, j => some (decide (i ≤ j))
  | .gt, i, j => some (decide (j < i))
  | .ge, i, j => some (decide (j ≤ i))
  | _, _, _ => none
/-! the key that a value is in a dict: ints and texts; nested tuples of these and None -/
mutual
def nk : D → Option NestedKey
  | .non => some .none
  | .int i => some (.num i)
  | .str x => some (.text (strOf x))
  | .tup xs => match nks xs with
    | some ks => some (.tup ks)
    | none => none
  | _ => none
def nks : List D → Option (List NestedKey)
  | [] => some []
  | x :: xs => match nk x, nks xs with
    | some k, some ks => some (k :: ks)
    | _, _ => none
end
def keyT : D → Bool
  | .tup _ => true
  | _ => false
/-- k may be asked for in a dict with these keys -/
def keyOk (kvs : List (D × D)) (k : D) : Bool := (match k with
    | .int _ => true
    | .str _ => true
    | .tup _ => (match nk k with
      | some x => decide (x.depth ≤ 8)
      | none => false)
    | _ => false) && kvs.all fun p => keyT p.1 == keyT k
def dget (kvs : List (D × D)) (k : D) : Option D := (kvs.find? fun p => decide (p.1 = k)).map (·.2)
def dput (kvs : List (D × D)) (k v : D) : List (D × D) :=
  if (kvs.any fun p => decide (p.1 = k)) = true then kvs.map (fun p => if p.1 = k then (p.1, v) else p) else kvs ++ [(k, v)]
def ddel (kvs : List (D × D)) (k : D) : List (D × D) := kvs.filter fun p => decide (p.1 ≠ k)

/-- values without parts, and their == -/
def flatD : D → Bool
  | .non => true
  | .bl _ => true
  | .int _ => true
  | .str _ => true
  | _ => false
def eqF : D → D → Bool
  | .non, .non => true
  | .bl a, .bl b => a == b
  | .bl a, .int b => (if a then 1 else 0) == b
  | .int a, .bl b => a == (if b then 1 else 0)
  | .int a, .int b => a == b
  | .str a, .str b => decide (a = b)
  | _, _ => false
/-- the items of a list or tuple -/
def seqOf (s : Sto) (d : D) : Option (List D) := match d with
  | .tup xs => some xs
  | .ref m => match s[m]? with
    | some (.lst xs) => some xs
    | some (.rol xs) => some xs
    | _ => none
  | _ => none
/-- one sign in a text -/
def inS (a b : D) : Option Bool := match a, b with
  | .str [c], .str z => some (decide (c ∈ z))
  | _, _ => none
def inD (a b : D) (s : Sto) : Option Bool := match seqOf s b with
  | some xs => if flatD a && xs.all flatD then some (xs.any fun y => eqF y a) else none
  | none => inS a b
def cmp (op : CO) (a b : D) : M D := fun s => match op with
  | .eq => match peq s a b with
    | some k => .ok (.bl k) s
    | none => .no
  | .ne => match peq s a b with
    | some k => .ok (.bl (!k)) s
    | none => .no
  | .is => match b with
    | .non => .ok (.bl (decide (a = .non))) s
    | .bl y => match a with
      | .bl x => .ok (.bl (decide (x = y))) s
      | _ => .no
    | _ => .no
  | .isnot => match b with
    | .non => .ok (.bl (!decide (a = .non))) s
    | .bl y => match a with
      | .bl x => .ok (.bl (!decide (x = y))) s
      | _ => .no
    | _ => .no
  | .isin => match inD a b s with
    | some k => .ok (.bl k) s
    | none => .no
  | .notin => match inD a b s with
    | some k => .ok (.bl (!k)) s
    | none => .no
  | o => match a, b with
    | .int i, .int j => match cmpI o i j with
      | some k => .ok (.bl k) s
      | none => .no
    | _, _ => .no
end EW

set_option Elab.async false
set_option linter.all false
set_option maxRecDepth 100000
/-! M layer 2: the small syntax and what it means. -/
namespace EW
open PySem

inductive Slot where
  | non | val (d : D) | exc (x : Exn)
  deriving Inhabited
abbrev Env := List Slot
inductive Ty where
  | int | bool | str | tup | lst | dic | cls (c : Nat)
  deriving DecidableEq
inductive IK where
  | plain | range1 | range2 | enum | items | values | zip
  deriving DecidableEq
inductive BI where
  | len | abs | int | str | min2 | max2 | minl | maxl | sum | all | any | sorted | tup | lst | dict | repr | gcd | fmt | fstr
  deriving DecidableEq
inductive BM where
  | append | extend | get1 | get2 | index | pop0 | pop1 | setdefault | update | split | join
  deriving DecidableEq
inductive Tg where
  | nm (i : Nat) | tp (is : List Nat) | tp2 (i : Nat) (js : List Nat)
  deriving DecidableEq

mutual
inductive CE where
  | var (i : Nat) | non | bl (b : Bool) | int (i : Int) | str (x : List Nat) | con (g : Nat)
  | bin (op : BO) (a b : CE) | neg (a : CE) | nt (a : CE) | andl (es : CEs) | orl (es : CEs)
  | cmp (op : CO) (a b : CE) | chn (op op2 : CO) (a b c : CE) | ife (t a b : CE)
  | fld (o : CE) (f : Nat) | ix (o i : CE) | slc (o lo hi : CE) | nope
  | tup (es : CEs) | lst (es : CEs) | dct (ks vs : CEs)
  | lc (own : List Nat) (tg : Tg) (k : IK) (src : CEs) (cond : CEs) (elt : CE)
  | lc2 (own : List Nat) (tg : Tg) (k : IK) (src : CEs) (cond : CEs) (own1 : List Nat) (tg1 : Tg) (k1 : IK) (src1 : CEs) (cond1 : CEs) (elt : CE)
  | call (f : Nat) (es : CEs) | make (c : Nat) (es : CEs) | meth (m : Nat) (o : CE) (es : CEs)
  | bi (b : BI) (es : CEs) | bm (b : BM) (o : CE) (es : CEs)
  | isi (e : CE) (ts : List Ty) | isx (i c : Nat) | xfl (i f : Nat)
inductive CEs where
  | nil | cons (e : CE) (r : CEs)
end
mutual
inductive CS where
  | expr (e : CE) | asg (t : Tg) (e : CE) | setf (o : CE) (f : Nat) (e : CE) | seti (o i e : CE) | deli (o i : CE)
  | ret (e : CE) | retn | ite (c : CE) (a b : CSs) | forS (t : Tg) (k : IK) (src : CEs) (b : CSs) | whl (c : CE) (b : CSs)
  | tryS (b : CSs) (c : Nat) (nm : Option Nat) (h : CSs) | raise (c : Nat) | raiseC (c f : Nat) (e : CE) | nop
inductive CSs where
  | nil | cons (s : CS) (r : CSs)
end
structure Fn where
  np : Nat
  ns : Nat
  body : CSs
/-- the program's tables: defs, methods by class, __init__ by class, subclasses of exceptions, constants, defaults -/
structure Prg where
  fns : List Fn
  meth : Nat → Nat → Option Nat
  init : Nat → Option Nat
  plain : Nat → Bool
  sub : Nat → Nat → Option Bool
  xr : Nat → Bool
  con : Nat → D
  dfl : Nat → Nat → List D
  np : Nat → Nat
  can : Nat → Nat → Bool
  flds : Nat → Nat → Bool
structure Cal where
  P : Prg
  L : Nat
  call : Nat → List D → M D

/-! ### iteration -/
structure Itr where
  n : Nat
  at_ : Nat → Sto → Option D
  fin : Sto → Bool
def lstAt (s : Sto) (m : Nat) : Option (List D) := match s[m]? with
  | some (.lst xs) => some xs
  | some (.rol xs) => some xs
  | _ => none
def itTup (xs : List D) : Itr := ⟨xs.length, fun i _ => xs[i]?, fun _ => true⟩
def itLst (m n : Nat) : Itr := ⟨n, fun i s => (lstAt s m).bind fun xs => xs[i]?, fun s => match lstAt s m with
  | some xs => decide (xs.length ≤ n)
  | none => false⟩
def itRng (lo : Int) (n : Nat) : Itr := ⟨n, fun i _ => some (.int (lo + i)), fun _ => true⟩
def b1 {α : Type} (f : D → M α) (vs : List D) : M α := fun s => match vs with
  | [d] => f d s
  | _ => .no
def b2 {α : Type} (f : D → D → M α) (vs : List D) : M α := fun s => match vs with
  | [d, e] => f d e s
  | _ => .no
def itPlain (d : D) : M Itr := fun s => match d with
  | .tup xs => .ok (itTup xs) s
  | .ref m => match lstAt s m with
    | some xs => .ok (itLst m xs.length) s
    | none => .no
  | _ => .no
def itR1 (d : D) : M Itr := fun s => match d with
  | .int j => if -(2 ^ 62) ≤ j ∧ j ≤ sizeLine then .ok (itRng 0 j.toNat) s else .no
  | _ => .no
def itR2 (d e : D) : M Itr := fun s => match d, e with
  | .int i, .int j => if -(2 ^ 62) ≤ i ∧ i < 2 ^ 62 ∧ -(2 ^ 62) ≤ j ∧ j < 2 ^ 62 ∧ j - i ≤ sizeLine then .ok (itRng i (j - i).toNat) s else .no
  | _, _ => .no
def mkIt (k : IK) : List D → M Itr := match k with
  | .plain => b1 itPlain
  | .range1 => b1 itR1
  | .range2 => b2 itR2
  | _ => fun _ => M.stuck
def setAll : List Nat → List D → Env → Env
  | i :: is, d :: ds, r => setAll is ds (r.set i (.val d))
  | _, _, r => r
def bindT : Tg → D → Env → M Env
  | .nm i, d, r => M.pure (r.set i (.val d))
  | .tp is, .tup ds, r => if is.length = ds.length then M.pure (setAll is ds r) else M.stuck
  | .tp is, .ref m, r => fun s => match lstAt s m with
    | some ds => if is.length = ds.length then .ok (setAll is ds r) s else .no
    | none => .no
  | .tp2 i js, .tup [d, .tup ds], r => if js.length = ds.length then M.pure (setAll js ds (r.set i (.val d))) else M.stuck
  | _, _, _ => M.stuck
def wipeE : Env → List Nat → Env
  | r, [] => r
  | r, v :: vs => (wipeE r vs).set v .non
def lcGo (it : Itr) (body : D → M (Option D)) : Nat → Nat → List D → M (List D)
  | 0, _, acc => fun s => if it.fin s then .ok acc s else .no
  | n + 1, i, acc => fun s => match it.at_ i s with
    | none => .no
    | some x => match body x s with
      | .ok r s1 => lcGo it body n (i + 1) (acc ++ r.toList) s1
      | _ => .no

def lcBody (tg : Tg) (fc : Env → M Bool) (fe : Env → M D) (r0 : Env) : D → M (Option D) := fun x => M.bind (bindT tg x r0) fun r1 => M.bind (fc r1) fun b => if b = true then M.bind (fe r1) fun y => M.pure (some y) else M.pure none
/-- the inner for: what it adds -/
def lcIn (fs1 : Env → M (List D)) (k1 : IK) (tg1 : Tg) (fc1 : Env → M Bool) (fe : Env → M D) (vs1 : List Nat) (r : Env) : List D → M (List D) := fun acc => M.bind (fs1 r) fun xs => M.bind (mkIt k1 xs) fun it => lcGo it (lcBody tg1 fc1 fe (wipeE r vs1)) it.n 0 acc
/-- the outer for -/
def lcOut (it : Itr) (tg : Tg) (fc : Env → M Bool) (inn : Env → List D → M (List D)) (r0 : Env) : Nat → Nat → List D → M (List D)
  | 0, _, acc => fun s => if it.fin s then .ok acc s else .no
  | n + 1, i, acc => fun s => match it.at_ i s with
    | none => .no
    | some x => match bindT tg x r0 s with
      | .ok r1 s1 => (match fc r1 s1 with
        | .ok b s2 => if b = true then (match inn r1 acc s2 with
            | .ok acc2 s3 => if acc2.length ≤ sizeLine then lcOut it tg fc inn r0 n (i + 1) acc2 s3 else .no
            | _ => .no) else lcOut it tg fc inn r0 n (i + 1) acc s2
        | _ => .no)
      | _ => .no

/-! ### operations by name -/
def ixN (n : Nat) (i : Int) : Option Nat := L2.ixN n i
def item (o i : D) : M D := fun s => match o, i with
  | .tup xs, .int j => match L2.atI xs j with
    | some d => .ok d s
    | none => .no
  | .str x, .int j => if x.length ≤ sizeLine then (match L2.atI x j with
    | some c => .ok (.str [c]) s
    | none => .no) else .no
  | .ref m, k => match s[m]? with
    | some (.lst xs) => (match k with
      | .int j => (match L2.atI xs j with
        | some d => .ok d s
        | none => .no)
      | _ => .no)
    | some (.rol xs) => (match k with
      | .int j => (match L2.atI xs j with
        | some d => .ok d s
        | none => .no)
      | _ => .no)
    | _ => .no
  | _, _ => .no
def cutL {α : Type} (xs : List α) (lo hi : Option Int) : List α := (xs.drop (HT.sIx xs.length 0 lo)).take (HT.sIx xs.length xs.length hi - HT.sIx xs.length 0 lo)
def intO (d : D) : M (Option Int) := fun s => match d with
  | .int i => .ok (some i) s
  | _ => .no
def sliceD (o : D) (lo hi : Option Int) : M D := fun s => match o with
  | .str x => if x.length ≤ sizeLine then .ok (.str (cutL x lo hi)) s else .no
  | .tup xs => .ok (.tup (cutL xs lo hi)) s
  | .ref m => match lstAt s m with
    | some xs => .ok (.ref s.length) (s ++ [.lst (cutL xs lo hi)])
    | none => .no
  | _ => .no
/-- a slice's part that is left out -/
def CE.isNope : CE → Bool
  | .nope => true
  | _ => false
def setI (o i v : D) : M Unit := fun s => match o, i with
  | .ref m, .int j => match s[m]? with
    | some (.lst xs) => (match L2.ixN xs.length j with
      | some k => .ok () (s.set m (.lst (xs.set k v)))
      | none => .no)
    | _ => .no
  | _, _ => .no
def getF (P : Prg) (o : D) (f : Nat) : M D := fun s => match o with
  | .ref m => match s[m]? with
    | some (.ins c fs) => if P.flds c f then (match fs.lookup f with
      | some d => .ok d s
      | none => .no) else .no
    | _ => .no
  | _ => .no
def putA (f : Nat) (v : D) : List (Nat × D) → List (Nat × D)
  | [] => [(f, v)]
  | p :: r => if p.1 = f then (f, v) :: r else p :: putA f v r
def setF (P : Prg) (o : D) (f : Nat) (v : D) : M Unit := fun s => match o with
  | .ref m => match s[m]? with
    | some (.ins c fs) => if P.flds c f && decide (fs.length < 1000) then .ok () (s.set m (.ins c (putA f v fs))) else .no
    | _ => .no
  | _ => .no
/-- the def that o.m is -/
def methOf (P : Prg) (o : D) (m n : Nat) : M Nat := fun s => match o with
  | .ref i => match s[i]? with
    | some (.ins c _) => match P.meth c m with
      | some f => if P.can f n = true then .ok f s else .no
      | none => .no
    | _ => .no
  | _ => .no
def lenD (d : D) : M D := fun s => match d with
  | .tup xs => .ok (.int xs.length) s
  | .str x => if x.length ≤ sizeLine then .ok (.int x.length) s else .no
  | .ref m => match lstAt s m with
    | some xs => .ok (.int xs.length) s
    | none => .no
  | _ => .no
def absD (d : D) : M D := fun s => match d with
  | .int i => .ok (.int (if i < 0 then -i else i)) s
  | _ => .no
def intD (d : D) : M D := fun s => match d with
  | .int i => .ok (.int i) s
  | .bl b => .ok (.int (if b = true then 1 else 0)) s
  | .str x => match intText? (strOf x) with
    | some n => if x.length ≤ 640 then .ok (.int n) s else .no
    | none => .no
  | _ => .no
/-- the signs of a whole number -/
def sInt (i : Int) : List Nat := if i < 0 then 45 :: TL.numL i.natAbs else TL.numL i.natAbs
def strD (d : D) : M D := fun s => match d with
  | .int i => if i.natAbs.log2 < 1920 then .ok (.str (sInt i)) s else .no
  | _ => .no
def fmtD (d : D) : M D := fun s => match d with
  | .str x => if x.length ≤ sizeLine then .ok (.str x) s else .no
  | .int i => if i.natAbs.log2 < 1920 then .ok (.str (sInt i)) s else .no
  | _ => .no
def txtOf : D → Option (List Nat)
  | .str x => some x
  | _ => none
def fstrA (acc : List Nat) (vs : List D) : M D := fun s => match omap txtOf vs with
  | some xs => if (acc ++ xs.flatten).length ≤ sizeLine then .ok (.str (acc ++ xs.flatten)) s else .no
  | none => .no
def joinD (o d : D) : M D := fun s => match o with
  | .str a => match seqOf s d with
    | some xs => match omap txtOf xs with
      | some ys => if (ys.map (·.length)).sum + ys.length * a.length ≤ 16777216 then .ok (.str (TL.joinL a ys)) s else .no
      | none => .no
    | none => .no
  | _ => .no
def minD (a b : D) : M D := fun s => match a, b with
  | .int i, .int j => .ok (.int (if j < i then j else i)) s
  | _, _ => .no
def maxD (a b : D) : M D := fun s => match a, b with
  | .int i, .int j => .ok (.int (if j > i then j else i)) s
  | _, _ => .no
def blOf : D → Option Bool
  | .bl b => some b
  | _ => none
def allD (d : D) : M D := fun s => match d with
  | .ref m => match lstAt s m with
    | some xs => match omap blOf xs with
      | some bs => .ok (.bl (bs.all id)) s
      | none => .no
    | none => .no
  | _ => .no
def anyD (d : D) : M D := fun s => match d with
  | .ref m => match lstAt s m with
    | some xs => match omap blOf xs with
      | some bs => .ok (.bl (bs.any id)) s
      | none => .no
    | none => .no
  | _ => .no
def lstD (d : D) : M D := fun s => match d with
  | .ref m => match lstAt s m with
    | some xs => .ok (.ref s.length) (s ++ [.lst xs])
    | none => .no
  | .tup xs => .ok (.ref s.length) (s ++ [.lst xs])
  | _ => .no
def tupD (d : D) : M D := fun s => match d with
  | .ref m => match lstAt s m with
    | some xs => .ok (.tup xs) s
    | none => .no
  | .tup xs => .ok (.tup xs) s
  | _ => .no
def intOf : D → Option Int
  | .int i => some i
  | _ => none
def sortI (ns : List Int) : List Int := ns.mergeSort fun a b => decide (a ≤ b)
/-- sorted of ints -/
def sortedD (d : D) : M D := fun s => match d with
  | .tup xs => match omap intOf xs with
    | some ns => .ok (.ref s.length) (s ++ [.lst ((sortI ns).map .int)])
    | none => .no
  | .ref m => match lstAt s m with
    | some xs => match omap intOf xs with
      | some ns => .ok (.ref s.length) (s ++ [.lst ((sortI ns).map .int)])
      | none => .no
    | none => .no
  | _ => .no
def bis (b : BI) : List D → M D := match b with
  | .sorted => b1 sortedD
  | .len => b1 lenD
  | .abs => b1 absD
  | .int => b1 intD
  | .min2 => b2 minD
  | .max2 => b2 maxD
  | .all => b1 allD
  | .any => b1 anyD
  | .lst => b1 lstD
  | .tup => b1 tupD
  | .str => b1 strD
  | .fmt => b1 fmtD
  | .fstr => fstrA []
  | _ => fun _ => M.stuck
def appD (o v : D) : M D := fun s => match o with
  | .ref m => match s[m]? with
    | some (.lst xs) => if xs.length < sizeLine then .ok .non (s.set m (.lst (xs ++ [v]))) else .no
    | _ => .no
  | _ => .no
/-- what a method's receiver must be -/
def bmT : BM → Ty
  | .append | .extend | .index | .pop0 | .pop1 => .lst
  | .get1 | .get2 | .setdefault | .update => .dic
  | .split | .join => .str
def chkB (b : BM) (o : D) : M Unit := fun s => match bmT b, o with
  | .lst, .ref m => match s[m]? with
    | some (.lst _) => .ok () s
    | _ => .no
  | .dic, .ref m => match s[m]? with
    | some (.dic _) => .ok () s
    | _ => .no
  | .str, .str _ => .ok () s
  | _, _ => .no
def bms (b : BM) (o : D) (vs : List D) : M D := match b with
  | .append => b1 (appD o) vs
  | .join => b1 (joinD o) vs
  | _ => M.stuck
def tyIs (s : Sto) (d : D) (t : Ty) : Option Bool := match d with
  | .non => some false
  | .bl _ => some (t == .bool || t == .int)
  | .int _ => some (t == .int)
  | .str _ => some (t == .str)
  | .tup _ => some (t == .tup)
  | .ref m => match s[m]? with
    | some (.lst _) => some (t == .lst)
    | some (.dic _) => some (t == .dic)
    | _ => none
def isiD (d : D) (ts : List Ty) : M D := fun s => match ts with
  | [t] => match tyIs s d t with
    | some b => .ok (.bl b) s
    | none => .no
  | _ => .no
def slotV (r : Env) (i : Nat) : M D := fun s => match r[i]? with
  | some (.val d) => .ok d s
  | _ => .no
def slotX (r : Env) (i : Nat) : M Exn := fun s => match r[i]? with
  | some (.exc x) => .ok x s
  | _ => .no
def neg (d : D) : M D := match d with
  | .int i => M.pure (.int (-i))
  | _ => M.stuck

def isxD (P : Prg) (x : Exn) (c : Nat) : M D := fun s => if x.fs = [] then (match P.sub x.c c with
    | some b => .ok (.bl b) s
    | none => .no) else .no
def CEs.len : CEs → Nat
  | .nil => 0
  | .cons _ r => r.len + 1
/-- a call: so many arguments are written, the defaults fill up -/
def callN (C : Cal) (f n : Nat) (vs : List D) : M D := if (vs ++ C.P.dfl f n).length = C.P.np f then C.call f (vs ++ C.P.dfl f n) else M.stuck
/-! ### the meaning -/
mutual
def den (C : Cal) (r : Env) : CE → M D
  | .var i => slotV r i
  | .non => M.pure .non
  | .bl b => M.pure (.bl b)
  | .int i => M.pure (.int i)
  | .str x => M.pure (.str x)
  | .con g => M.pure (C.P.con g)
  | .bin op a b => M.bind (den C r a) fun x => M.bind (den C r b) fun y => bin op x y
  | .neg a => M.bind (den C r a) neg
  | .nt a => M.bind (den C r a) fun x => M.bind (tru x) fun b => M.pure (.bl (!b))
  | .andl es => denAnd C r es
  | .orl es => denOr C r es
  | .cmp op a b => M.bind (den C r a) fun x => M.bind (den C r b) fun y => cmp op x y
  | .chn op op2 a b c => M.bind (den C r a) fun x => M.bind (den C r b) fun y => M.bind (cmp op x y) fun k => match k with
    | .bl true => M.bind (den C r c) fun z => cmp op2 y z
    | .bl false => M.pure (.bl false)
    | _ => M.stuck
  | .ife t a b => M.bind (den C r t) fun x => M.bind (tru x) fun k => if k = true then den C r a else den C r b
  | .fld o f => M.bind (den C r o) fun x => getF C.P x f
  | .ix o i => M.bind (den C r o) fun x => M.bind (den C r i) fun y => item x y
  | .slc o lo hi => M.bind (den C r o) fun x => M.bind (if lo.isNope = true then M.pure none else M.bind (den C r lo) intO) fun l => M.bind (if hi.isNope = true then M.pure none else M.bind (den C r hi) intO) fun h => sliceD x l h
  | .nope => M.stuck
  | .tup es => M.bind (dens C r es) fun xs => M.pure (.tup xs)
  | .lst es => M.bind (dens C r es) fun xs => newO (.lst xs)
  | .dct ks vs => M.stuck
  | .lc own tg k src cond elt => M.bind (dens C r src) fun vs => M.bind (mkIt k vs) fun it =>
      M.bind (lcGo it (fun x => M.bind (bindT tg x (wipeE r own)) fun r1 => M.bind (denC C r1 cond) fun b => if b = true then M.bind (den C r1 elt) fun y => M.pure (some y) else M.pure none) it.n 0 []) fun acc => newO (.lst acc)
  | .lc2 own tg k src cond own1 tg1 k1 src1 cond1 elt => M.bind (dens C r src) fun vs => M.bind (mkIt k vs) fun it =>
      M.bind (lcOut it tg (fun r => denC C r cond) (lcIn (fun r => dens C r src1) k1 tg1 (fun r => denC C r cond1) (fun r => den C r elt) own1) (wipeE r own) it.n 0 []) fun acc => newO (.lst acc)
  | .call f es => M.bind (dens C r es) fun xs => callN C f es.len xs
  | .make c es => M.bind (dens C r es) fun xs => match C.P.init c with
    | some f => M.bind (newO (.ins c [])) fun o => M.bind (callN C f (es.len + 1) (o :: xs)) fun v => if v = .non then M.pure o else M.stuck
    | none => if C.P.plain c = true ∧ xs = [] then newO (.ins c []) else M.stuck
  | .meth m o es => M.bind (den C r o) fun x => M.bind (methOf C.P x m (es.len + 1)) fun f => M.bind (dens C r es) fun xs => callN C f (es.len + 1) (x :: xs)
  | .bi b es => M.bind (dens C r es) fun xs => bis b xs
  | .bm b o es => M.bind (den C r o) fun x => M.bind (chkB b x) fun _ => M.bind (dens C r es) fun xs => bms b x xs
  | .isi e ts => M.bind (den C r e) fun x => isiD x ts
  | .isx i c => M.bind (slotX r i) fun x => isxD C.P x c
  | .xfl i f => M.bind (slotX r i) fun x => match x.fs.lookup f with
    | some d => M.pure d
    | none => M.stuck
def dens (C : Cal) (r : Env) : CEs → M (List D)
  | .nil => M.pure []
  | .cons e es => M.bind (den C r e) fun x => M.bind (dens C r es) fun xs => M.pure (x :: xs)
def denAnd (C : Cal) (r : Env) : CEs → M D
  | .nil => M.stuck
  | .cons e .nil => den C r e
  | .cons e (.cons e2 es) => M.bind (den C r e) fun x => M.bind (tru x) fun b => if b = true then denAnd C r (.cons e2 es) else M.pure x
def denOr (C : Cal) (r : Env) : CEs → M D
  | .nil => M.stuck
  | .cons e .nil => den C r e
  | .cons e (.cons e2 es) => M.bind (den C r e) fun x => M.bind (tru x) fun b => if b = true then M.pure x else denOr C r (.cons e2 es)
/-- a comprehension's tests: none, or one -/
def denC (C : Cal) (r : Env) : CEs → M Bool
  | .nil => M.pure true
  | .cons e .nil => M.bind (den C r e) tru
  | _ => M.stuck
end

/-! ### statements -/
inductive SRes where
  | nx (r : Env) (s : Sto) | rt (d : D) (s : Sto) | ex (x : Exn) (r : Env) (s : Sto) | no
def lift {α : Type} (m : M α) (r : Env) (k : α → Sto → SRes) : Sto → SRes := fun s => match m s with
  | .ok a s' => k a s'
  | .exc x s' => .ex x r s'
  | .no => .no
def forGo (it : Itr) (tg : Tg) (body : Env → Sto → SRes) : Nat → Nat → Env → Sto → SRes
  | 0, _, r, s => if it.fin s then .nx r s else .no
  | n + 1, i, r, s => match it.at_ i s with
    | none => .no
    | some x => match bindT tg x r s with
      | .ok r1 s1 => match body r1 s1 with
        | .nx r2 s2 => forGo it tg body n (i + 1) r2 s2
        | q => q
      | _ => .no
def whGo (c : Env → M Bool) (body : Env → Sto → SRes) : Nat → Env → Sto → SRes
  | 0, _, _ => .no
  | n + 1, r, s => match c r s with
    | .ok true s1 => match body r s1 with
      | .nx r2 s2 => whGo c body n r2 s2
      | q => q
    | .ok false s1 => .nx r s1
    | .exc x s1 => .ex x r s1
    | .no => .no
def setN (r : Env) (o : Option Nat) (v : Slot) : Env := match o with
  | some i => r.set i v
  | none => r
/-- no exception is held any more -/
def clrX (r : Env) : Env := r.map fun z => match z with
  | .exc _ => .non
  | z => z
mutual
def sem (C : Cal) (r : Env) (s : Sto) : CS → SRes
  | .expr e => lift (den C r e) r (fun _ s1 => .nx r s1) s
  | .asg t e => lift (M.bind (den C r e) fun x => bindT t x r) r (fun r1 s1 => .nx r1 s1) s
  | .setf o f e => lift (M.bind (den C r e) fun v => M.bind (den C r o) fun x => setF C.P x f v) r (fun _ s1 => .nx r s1) s
  | .seti o i e => lift (M.bind (den C r e) fun v => M.bind (den C r o) fun x => M.bind (den C r i) fun y => setI x y v) r (fun _ s1 => .nx r s1) s
  | .deli o i => .no
  | .ret e => lift (den C r e) r (fun v s1 => .rt v s1) s
  | .retn => .rt .non s
  | .ite c a b => match M.bind (den C r c) tru s with
    | .ok k s1 => if k = true then sems C r s1 a else sems C r s1 b
    | .exc x s1 => .ex x r s1
    | .no => .no
  | .forS t k src b => match M.bind (dens C r src) (mkIt k) s with
    | .ok it s1 => forGo it t (fun r s => sems C r s b) it.n 0 r s1
    | .exc x s1 => .ex x r s1
    | .no => .no
  | .whl c b => whGo (fun r => M.bind (den C r c) tru) (fun r s => sems C r s b) C.L r s
  | .tryS b c nm h => match sems C r s b with
    | .ex x r1 s1 => match C.P.sub x.c c with
      | some true => (match sems C (setN r1 nm (.exc x)) s1 h with
        | .nx r2 s2 => .nx (setN (clrX r2) nm .non) s2
        | .rt d s2 => .rt d s2
        | _ => .no)
      | some false => .ex x r1 s1
      | none => .no
    | q => q
  | .raise c => if C.P.xr c = true then .ex ⟨c, []⟩ r s else .no
  | .raiseC c f e => lift (den C r e) r (fun v s1 => .ex ⟨c, [(f, v)]⟩ r s1) s
  | .nop => .nx r s
def sems (C : Cal) (r : Env) (s : Sto) : CSs → SRes
  | .nil => .nx r s
  | .cons a b => match sem C r s a with
    | .nx r1 s1 => sems C r1 s1 b
    | q => q
end
def start (n : Nat) (vs : List D) : Env := vs.map Slot.val ++ List.replicate (n - vs.length) Slot.non
def endOf : SRes → Res D
  | .nx _ s => .ok .non s
  | .rt d s => .ok d s
  | .ex x _ s => .exc x s
  | .no => .no
/-- the def f, at most n calls deep -/
def run (P : Prg) (L : Nat) : Nat → Nat → List D → M D
  | 0, _, _ => M.stuck
  | n + 1, f, vs => fun s => match P.fns[f]? with
    | some q => if vs.length = q.np then endOf (sems ⟨P, L, run P L n⟩ (start q.ns vs) s q.body) else .no
    | none => .no
end EW

set_option Elab.async false
set_option linter.all false
set_option maxRecDepth 100000
/-! M layer 3: how the store lies in the abstract heap. -/
namespace EW
open PySem PySem.Spec PyProof.Rows L2

structure Gb where
  P : Program
  w : World
  K : PySem.W.Frag
  mg : Str → Option Value
  Q : Prg
  cA : Nat → Addr
  xA : Nat → Addr
  fN : Nat → Str

def isRol : Ob → Bool
  | .rol _ => true
  | _ => false
mutual
def RV (m : Nat → Addr) (n : Nat) (H : Hp) : V → D → Prop
  | v, .non => v = .non
  | v, .bl b => v = .bl b
  | v, .int i => v = .int i
  | v, .str x => v = .str (strOf x)
  | v, .tup ds => ∃ a vs, v = .ref a ∧ H a = some (.tup vs) ∧ vs.length ≤ sizeLine ∧ RVs m n H vs ds
  | v, .ref i => i < n ∧ v = .ref (m i)
def RVs (m : Nat → Addr) (n : Nat) (H : Hp) : List V → List D → Prop
  | vs, [] => vs = []
  | vs, d :: ds => ∃ v r, vs = v :: r ∧ RV m n H v d ∧ RVs m n H r ds
end
def FR (fN : Nat → Str) (m : Nat → Addr) (n : Nat) (H : Hp) : List (Str × V) → List (Nat × D) → Prop
  | vs, [] => vs = []
  | vs, p :: ds => ∃ v r, vs = (fN p.1, v) :: r ∧ RV m n H v p.2 ∧ FR fN m n H r ds
/-- a key of a dict of ints and texts -/
def keyD : Key → D
  | .inl i => .int i
  | .inr x => .str x.cps.toList
def KR (m : Nat → Addr) (n : Nat) (H : Hp) : List (Key × V) → List (D × D) → Prop
  | vs, [] => vs = []
  | vs, p :: ds => ∃ k v r, vs = (k, v) :: r ∧ p.1 = keyD k ∧ RV m n H v p.2 ∧ KR m n H r ds

def OR (G : Gb) (m : Nat → Addr) (n : Nat) (H : Hp) (a : Addr) : Ob → Prop
  | .lst ds => ds.length ≤ sizeLine ∧ ∃ vs, H a = some (.lst vs) ∧ RVs m n H vs ds
  | .rol ds => ds.length ≤ sizeLine ∧ ∃ vs, ((∃ o, H a = some (.frz o (.lst vs))) ∨ ∀ H', SqL G.K H' a vs) ∧ RVs m n H vs ds
  | .dic kvs => kvs.length ≤ sizeLine ∧ ∃ vs, H a = some (.dK vs) ∧ KR m n H vs kvs
  | .ins c fs => (∀ p ∈ fs, G.Q.flds c p.1 = true) ∧ ∃ dx vs, H a = some (.ins (G.cA c) dx vs) ∧ FR G.fN m n H vs fs

structure Rel (G : Gb) (m : Nat → Addr) (s : Sto) (H : Hp) : Prop where
  inj : ∀ (i j : Nat) (o o' : Ob), s[i]? = some o → s[j]? = some o' → isRol o = false → isRol o' = false → m i = m j → i = j
  obs : ∀ (i : Nat) (o : Ob), s[i]? = some o → OR G m s.length H (m i) o

/-- what a run leaves of the store and of the heap -/
structure Ext (m : Nat → Addr) (s : Sto) (H : Hp) (m' : Nat → Addr) (s' : Sto) (H' : Hp) : Prop where
  len : s.length ≤ s'.length
  mu : ∀ i : Nat, i < s.length → m' i = m i
  rol : ∀ (i : Nat) (o : Ob), s[i]? = some o → ∃ o', s'[i]? = some o' ∧ isRol o' = isRol o ∧ (isRol o = true → o' = o)
  fr : ∀ (a : Addr) (o : HO), H a = some o → (∀ (i : Nat) (u : Ob), s[i]? = some u → isRol u = false → m i ≠ a) → H' a = some o
  dm : ∀ (a : Addr) (o : HO), H a = some o → ∃ o', H' a = some o'
  nw : ∀ i : Nat, s.length ≤ i → i < s'.length → H (m' i) = none

section
variable {G : Gb} {m m' m'' : Nat → Addr} {s s' s'' : Sto} {H H' H'' : Hp} {n n' : Nat}
theorem Ext.refl : Ext m s H m s H := ⟨Nat.le_refl _, fun _ _ => rfl, fun _ o h => ⟨o, h, rfl, fun _ => rfl⟩, fun _ _ h _ => h, fun _ o h => ⟨o, h⟩, fun _ h1 h2 => absurd (Nat.lt_of_lt_of_le h2 h1) (Nat.lt_irrefl _)⟩
theorem Ext.trans (a : Ext m s H m' s' H') (b : Ext m' s' H' m'' s'' H'') : Ext m s H m'' s'' H'' where
  len := Nat.le_trans a.len b.len
  mu := fun i hi => (b.mu i (Nat.lt_of_lt_of_le hi a.len)).trans (a.mu i hi)
  rol := fun i o h => by
    obtain ⟨o1, h1, e1, r1⟩ := a.rol i o h
    obtain ⟨o2, h2, e2, r2⟩ := b.rol i o1 h1
    refine ⟨o2, h2, e2.trans e1, fun q => ?_⟩
    rw [r2 (e1.trans q), r1 q]
  fr := fun x o h hn => by
    refine b.fr x o (a.fr x o h hn) fun i u h1 h2 e => ?_
    by_cases hi : i < s.length
    · obtain ⟨o0, h0⟩ : ∃ o0, s[i]? = some o0 := ⟨s[i], by simp [hi]⟩
      obtain ⟨o', q1, q2, _⟩ := a.rol i o0 h0
      rw [h1] at q1; cases q1
      exact hn i o0 h0 (q2.symm.trans h2) ((a.mu i hi).symm.trans e)
    · have hi' : i < s'.length := (List.getElem?_eq_some_iff.mp h1).1
      have z := a.nw i (Nat.le_of_not_lt hi) hi'
      rw [e, h] at z; cases z
  dm := fun x o h => by
    obtain ⟨o1, h1⟩ := a.dm x o h
    exact b.dm x o1 h1
  nw := fun i h1 h2 => by
    by_cases hi : i < s'.length
    · rw [b.mu i hi]; exact a.nw i h1 hi
    · have z := b.nw i (Nat.le_of_not_lt hi) h2
      cases q : H (m'' i) with
      | none => rfl
      | some o =>
        obtain ⟨o1, z1⟩ := a.dm _ o q
        rw [z] at z1; cases z1

/-! ### what represents stays -/
/-- tuples stay, places stay -/
structure Stay (m : Nat → Addr) (n : Nat) (H : Hp) (m' : Nat → Addr) (n' : Nat) (H' : Hp) : Prop where
  le : n ≤ n'
  mu : ∀ i, i < n → m' i = m i
  tup : ∀ a vs, H a = some (.tup vs) → H' a = some (.tup vs)
mutual
theorem RV.mono (st : Stay m n H m' n' H') : ∀ (d : D) (v : V), RV m n H v d → RV m' n' H' v d
  | .non, _, h => h
  | .bl _, _, h => h
  | .int _, _, h => h
  | .str _, _, h => h
  | .tup ds, v, h => by
    unfold RV at h ⊢
    obtain ⟨a, vs, e, h1, h2, h3⟩ := h
    exact ⟨a, vs, e, st.tup _ _ h1, h2, RVs.mono st ds vs h3⟩
  | .ref i, v, h => by
    unfold RV at h ⊢
    exact ⟨Nat.lt_of_lt_of_le h.1 st.le, by rw [st.mu i h.1]; exact h.2⟩
theorem RVs.mono (st : Stay m n H m' n' H') : ∀ (ds : List D) (vs : List V), RVs m n H vs ds → RVs m' n' H' vs ds
  | [], _, h => h
  | d :: ds, vs, h => by
    unfold RVs at h ⊢
    obtain ⟨v, r, e, h1, h2⟩ := h
    exact ⟨v, r, e, RV.mono st d v h1, RVs.mono st ds r h2⟩
end
theorem FR.mono {fN : Nat → Str} (st : Stay m n H m' n' H') : ∀ (ds : List (Nat × D)) (vs : List (Str × V)), FR fN m n H vs ds → FR fN m' n' H' vs ds
  | [], _, h => h
  | p :: ds, vs, h => by
    unfold FR at h ⊢
    obtain ⟨v, r, e, h1, h2⟩ := h
    exact ⟨v, r, e, RV.mono st _ v h1, FR.mono st ds r h2⟩
theorem KR.mono (st : Stay m n H m' n' H') : ∀ (ds : List (D × D)) (vs : List (Key × V)), KR m n H vs ds → KR m' n' H' vs ds
  | [], _, h => h
  | p :: ds, vs, h => by
    unfold KR at h ⊢
    obtain ⟨k, v, r, e, hk, h1, h2⟩ := h
    exact ⟨k, v, r, e, hk, RV.mono st _ v h1, KR.mono st ds r h2⟩
theorem OR.mono {a : Addr} (st : Stay m n H m' n' H') : ∀ {o : Ob}, OR G m n H a o → (isRol o = false → H' a = H a) → (isRol o = true → ∀ ob u, H a = some (.frz ob u) → H' a = some (.frz ob u)) → OR G m' n' H' a o
  | .lst ds, ⟨z, vs, h1, h2⟩, k, _ => ⟨z, vs, by rw [k rfl]; exact h1, RVs.mono st ds vs h2⟩
  | .rol ds, ⟨z, vs, h1, h2⟩, _, k => ⟨z, vs, h1.elim (fun ⟨o, q⟩ => .inl ⟨o, k rfl _ _ q⟩) .inr, RVs.mono st ds vs h2⟩
  | .dic kvs, ⟨z, vs, h1, h2⟩, k, _ => ⟨z, vs, by rw [k rfl]; exact h1, KR.mono st kvs vs h2⟩
  | .ins c fs, ⟨z, dx, vs, h1, h2⟩, k, _ => ⟨z, dx, vs, by rw [k rfl]; exact h1, FR.mono st fs vs h2⟩
/-- what stands at an object of our own -/
theorem OR.own {a : Addr} {o : Ob} (h : OR G m n H a o) (ho : isRol o = false) : ∃ u, H a = some u ∧ (∀ vs, u ≠ .tup vs) ∧ ∀ ob w, u ≠ .frz ob w := by
  cases o with
  | lst ds =>
    obtain ⟨_, vs, h1, _⟩ := h
    exact ⟨_, h1, fun _ e => HO.noConfusion e, fun _ _ e => HO.noConfusion e⟩
  | rol ds => cases ho
  | dic kvs =>
    obtain ⟨_, vs, h1, _⟩ := h
    exact ⟨_, h1, fun _ e => HO.noConfusion e, fun _ _ e => HO.noConfusion e⟩
  | ins c fs =>
    obtain ⟨_, dx, vs, h1, _⟩ := h
    exact ⟨_, h1, fun _ e => HO.noConfusion e, fun _ _ e => HO.noConfusion e⟩
theorem Ext.stay (r : Rel G m s H) (e : Ext m s H m' s' H') : Stay m s.length H m' s'.length H' :=
  ⟨e.len, e.mu, fun a vs h => e.fr a _ h fun i u h1 h2 q => by
    obtain ⟨w, h3, h4, _⟩ := OR.own (r.obs i u h1) h2
    rw [q, h] at h3
    cases h3
    exact h4 vs rfl⟩
theorem Rel.lt (r : Rel G m s H) {i : Nat} {o : Ob} (h : s[i]? = some o) : i < s.length := (List.getElem?_eq_some_iff.mp h).1

/-! ### steps of the store -/
/-- nothing of ours changes -/
theorem Rel.same (r : Rel G m s H) (st : ∀ a o, H a = some o → H' a = some o) : Rel G m s H' ∧ Ext m s H m s H' := by
  refine ⟨⟨r.inj, fun i o h => ?_⟩, ⟨Nat.le_refl _, fun _ _ => rfl, fun _ o h => ⟨o, h, rfl, fun _ => rfl⟩, fun a o h _ => st a o h, fun a o h => ⟨o, st a o h⟩, fun _ h1 h2 => absurd (Nat.lt_of_lt_of_le h2 h1) (Nat.lt_irrefl _)⟩⟩
  refine OR.mono ⟨Nat.le_refl _, fun _ _ => rfl, fun a vs q => st a _ q⟩ (r.obs i o h) (fun q => ?_) fun _ ob u q => st _ _ q
  obtain ⟨u, h1, _⟩ := OR.own (r.obs i o h) q
  rw [h1, st _ _ h1]
theorem upd_keep {p : Addr} {o : HO} (hp : H p = none) : ∀ a u, H a = some u → upd H p o a = some u := fun a u h => by
  rw [upd_ne (ne_of_none h hp)]; exact h
/-- a new object -/
theorem Rel.new (r : Rel G m s H) {p : Addr} {o : Ob} (hp : H p = none) (st : ∀ a u, H a = some u → H' a = some u) (ho : isRol o = false) (hH : ∃ u, H' p = some u)
    (new : ∀ m' n', Stay m s.length H m' n' H' → OR G m' n' H' p o) :
    ∃ m', m' s.length = p ∧ Rel G m' (s ++ [o]) H' ∧ Ext m s H m' (s ++ [o]) H' := by
  refine ⟨fun i => if i = s.length then p else m i, by simp, ?_, ?_⟩
  · have S : Stay m s.length H (fun i => if i = s.length then p else m i) (s ++ [o]).length H' :=
      ⟨by simp, fun i hi => by simp [Nat.ne_of_lt hi], fun a vs q => st a _ q⟩
    refine ⟨fun i j u v h1 h2 h3 h4 e => ?_, fun i u h => ?_⟩
    · have key : ∀ k w, (s ++ [o])[k]? = some w → isRol w = false → k ≠ s.length → (if k = s.length then p else m k) ≠ p ∧ s[k]? = some w := fun k w hk hw hne => by
        have hl : k < s.length := by
          have := (List.getElem?_eq_some_iff.mp hk).1
          simp at this; omega
        rw [List.getElem?_append_left hl] at hk
        refine ⟨?_, hk⟩
        rw [if_neg hne]
        obtain ⟨x, hx, _⟩ := OR.own (r.obs k w hk) hw
        intro q; rw [q, hp] at hx; cases hx
      by_cases hi : i = s.length
      · by_cases hj : j = s.length
        · rw [hi, hj]
        · obtain ⟨n1, _⟩ := key j v h2 h4 hj
          simp only [hi, if_true] at e
          exact absurd e.symm n1
      · by_cases hj : j = s.length
        · obtain ⟨n1, _⟩ := key i u h1 h3 hi
          simp only [hj, if_true] at e
          exact absurd e n1
        · obtain ⟨_, q1⟩ := key i u h1 h3 hi
          obtain ⟨_, q2⟩ := key j v h2 h4 hj
          simp only [if_neg hi, if_neg hj] at e
          exact r.inj i j u v q1 q2 h3 h4 e
    · by_cases hi : i = s.length
      · subst hi
        simp at h
        subst h
        simp only [if_true]
        exact new _ _ S
      · have hl : i < s.length := by
          have := (List.getElem?_eq_some_iff.mp h).1
          simp at this; omega
        rw [List.getElem?_append_left hl] at h
        simp only [if_neg hi]
        refine OR.mono S (r.obs i u h) (fun q => ?_) fun _ ob w q => st _ _ q
        obtain ⟨x, h1, _⟩ := OR.own (r.obs i u h) q
        rw [h1, st _ _ h1]
  · refine ⟨by simp, fun i hi => by simp [Nat.ne_of_lt hi], fun i u h => ⟨u, ?_, rfl, fun _ => rfl⟩, fun a u h _ => st a u h, fun a u h => ⟨u, st a u h⟩, fun i h1 h2 => ?_⟩
    · rw [List.getElem?_append_left (List.getElem?_eq_some_iff.mp h).1]; exact h
    · have e : i = s.length := by simp at h2; omega
      simp only [e, if_true]; exact hp
/-- an object changed -/
theorem Rel.put (r : Rel G m s H) {i : Nat} {o o' : Ob} {u : HO} (h : s[i]? = some o) (ho : isRol o = false) (ho' : isRol o' = false) 
    (nt : ∀ vs, u ≠ .tup vs) (new : OR G m s.length (upd H (m i) u) (m i) o') : Rel G m (s.set i o') (upd H (m i) u) ∧ Ext m s H m (s.set i o') (upd H (m i) u) := by
  have hl := r.lt h
  obtain ⟨x, hx, hx1, hx2⟩ := OR.own (r.obs i o h) ho
  have tupK : ∀ a vs, H a = some (.tup vs) → upd H (m i) u a = some (.tup vs) := fun a vs q => by
    rw [upd_ne]; exact q
    intro e; rw [e, hx] at q; cases q; exact hx1 vs rfl
  refine ⟨⟨fun j k a b h1 h2 h3 h4 e => ?_, fun j a hj => ?_⟩, ⟨by simp, fun _ _ => rfl, fun j a hj => ?_, fun a w q hn => ?_, fun a w q => ?_, fun j h1 h2 => ?_⟩⟩
  · have key : ∀ j a, (s.set i o')[j]? = some a → isRol a = false → ∃ b, s[j]? = some b ∧ isRol b = false := fun j a hj ha => by
      by_cases hji : i = j
      · subst hji; exact ⟨o, h, ho⟩
      · rw [List.getElem?_set_ne hji] at hj; exact ⟨a, hj, ha⟩
    obtain ⟨a', q1, q2⟩ := key j a h1 h3
    obtain ⟨b', q3, q4⟩ := key k b h2 h4
    exact r.inj j k a' b' q1 q3 q2 q4 e
  · rw [List.length_set]
    by_cases hji : i = j
    · subst hji
      rw [List.getElem?_set_self hl] at hj; cases hj
      exact new
    · rw [List.getElem?_set_ne hji] at hj
      refine OR.mono ⟨Nat.le_refl _, fun _ _ => rfl, tupK⟩ (r.obs j a hj) (fun q => ?_) fun _ ob w q => ?_
      · exact upd_ne fun e => hji (r.inj j i a o hj h q ho e).symm
      · rw [upd_ne]; exact q
        intro e; rw [e, hx] at q; cases q; exact hx2 ob w rfl
  · by_cases hji : i = j
    · subst hji
      rw [h] at hj; cases hj
      exact ⟨o', by rw [List.getElem?_set_self hl], by rw [ho, ho'], fun q => by rw [ho] at q; cases q⟩
    · exact ⟨a, by rw [List.getElem?_set_ne hji]; exact hj, rfl, fun _ => rfl⟩
  · rw [upd_ne (fun e => hn i o h ho e.symm)]; exact q
  · by_cases e : a = m i
    · exact ⟨u, by rw [e, upd_same]⟩
    · exact ⟨w, by rw [upd_ne e]; exact q⟩
  · rw [List.length_set] at h2; omega
end

section
variable {G : Gb} {m : Nat → Addr} {s : Sto} {H H' : Hp} {n : Nat}
theorem RVs.len : ∀ {ds : List D} {vs : List V}, RVs m n H vs ds → vs.length = ds.length
  | [], vs, h => by unfold RVs at h; rw [h]; rfl
  | d :: ds, vs, h => by
    unfold RVs at h
    obtain ⟨v, r, e, _, h2⟩ := h
    rw [e, List.length_cons, List.length_cons, RVs.len h2]
theorem RVs.app : ∀ {ds es : List D} {vs ws : List V}, RVs m n H vs ds → RVs m n H ws es → RVs m n H (vs ++ ws) (ds ++ es)
  | [], es, vs, ws, h, k => by unfold RVs at h; rw [h]; exact k
  | d :: ds, es, vs, ws, h, k => by
    unfold RVs at h
    obtain ⟨v, r, e, h1, h2⟩ := h
    rw [e]
    show RVs m n H (v :: (r ++ ws)) (d :: (ds ++ es))
    unfold RVs
    exact ⟨v, r ++ ws, rfl, h1, RVs.app h2 k⟩
theorem RVs.get : ∀ {ds : List D} {vs : List V} {i : Nat} {v : V}, RVs m n H vs ds → vs[i]? = some v → ∃ d, ds[i]? = some d ∧ RV m n H v d
  | [], vs, i, v, h, e => by unfold RVs at h; rw [h] at e; cases e
  | d :: ds, vs, i, v, h, e => by
    unfold RVs at h
    obtain ⟨w, r, q, h1, h2⟩ := h
    subst q
    cases i with
    | zero =>
      have e' : w = v := Option.some.inj e
      exact ⟨d, rfl, e' ▸ h1⟩
    | succ i => exact RVs.get (i := i) h2 e
theorem RVs.at_ : ∀ {ds : List D} {vs : List V} {i : Nat} {d : D}, RVs m n H vs ds → ds[i]? = some d → ∃ v, vs[i]? = some v ∧ RV m n H v d
  | [], vs, i, v, h, e => by cases e
  | d :: ds, vs, i, d', h, e => by
    unfold RVs at h
    obtain ⟨w, r, q, h1, h2⟩ := h
    subst q
    cases i with
    | zero =>
      have e' : d = d' := Option.some.inj e
      exact ⟨w, rfl, e' ▸ h1⟩
    | succ i => exact RVs.at_ (i := i) h2 e
theorem RVs.one {v : V} {d : D} (h : RV m n H v d) : RVs m n H [v] [d] := by
  unfold RVs
  exact ⟨v, [], rfl, h, by unfold RVs; rfl⟩
theorem RVs.set : ∀ {ds : List D} {vs : List V} {v : V} {d : D} (i : Nat), RVs m n H vs ds → RV m n H v d → RVs m n H (vs.set i v) (ds.set i d)
  | [], vs, v, d, i, h, k => by unfold RVs at h; rw [h]; unfold RVs; rfl
  | e :: ds, vs, v, d, i, h, k => by
    unfold RVs at h
    obtain ⟨w, r, q, h1, h2⟩ := h
    subst q
    cases i with
    | zero =>
      show RVs m n H (v :: r) (d :: ds)
      unfold RVs
      exact ⟨v, r, rfl, k, h2⟩
    | succ i =>
      show RVs m n H (w :: r.set i v) (e :: ds.set i d)
      unfold RVs
      exact ⟨w, _, rfl, h1, RVs.set i h2 k⟩
/-- a new tuple -/
theorem Rel.tup (r : Rel G m s H) {p : Addr} {vs : List V} {ds : List D} (hp : H p = none) (h : RVs m s.length H vs ds) (z : vs.length ≤ sizeLine) :
    Rel G m s (upd H p (.tup vs)) ∧ Ext m s H m s (upd H p (.tup vs)) ∧ RV m s.length (upd H p (.tup vs)) (.ref p) (.tup ds) := by
  obtain ⟨r1, e1⟩ := r.same (upd_keep (o := .tup vs) hp)
  refine ⟨r1, e1, ?_⟩
  unfold RV
  exact ⟨p, vs, rfl, upd_same, z, RVs.mono (e1.stay r) ds vs h⟩
/-- a new list -/
theorem Rel.lst (r : Rel G m s H) {p : Addr} {vs : List V} {ds : List D} (hp : H p = none) (h : RVs m s.length H vs ds) (z : vs.length ≤ sizeLine) :
    ∃ m', Rel G m' (s ++ [.lst ds]) (upd H p (.lst vs)) ∧ Ext m s H m' (s ++ [.lst ds]) (upd H p (.lst vs)) ∧ RV m' (s ++ [Ob.lst ds]).length (upd H p (.lst vs)) (.ref p) (.ref s.length) := by
  obtain ⟨m', h1, h2, h3⟩ := r.new (o := .lst ds) (H' := upd H p (.lst vs)) hp (upd_keep hp) rfl ⟨_, upd_same⟩ fun m' n' st => ⟨by rw [← h.len]; exact z, vs, upd_same, RVs.mono st ds vs h⟩
  refine ⟨m', h2, h3, ?_⟩
  unfold RV
  exact ⟨by simp, by rw [h1]⟩
/-- the list that a reference is -/
theorem Rel.lstAt (r : Rel G m s H) {i : Nat} {ds : List D} (h : EW.lstAt s i = some ds) : ∃ vs, SqL G.K H (m i) vs ∧ RVs m s.length H vs ds ∧ ds.length ≤ sizeLine := by
  unfold EW.lstAt at h
  split at h
  · rename_i xs q
    cases h
    obtain ⟨z, vs, h1, h2⟩ := r.obs i _ q
    exact ⟨vs, .of h1, h2, z⟩
  · rename_i xs q
    cases h
    obtain ⟨z, vs, h1, h2⟩ := r.obs i _ q
    refine ⟨vs, ?_, h2, z⟩
    rcases h1 with ⟨o, h1⟩ | h1
    · exact .inl (.inr ⟨o, h1⟩)
    · exact h1 H
  · cases h
end
end EW

set_option Elab.async false
set_option linter.all false
set_option maxRecDepth 100000
set_option maxHeartbeats 0
/-! M layer T: t * 1. -/
namespace EW
open PySem PySem.Spec PyProof.Rows L2
theorem tup_one (l : Addr) (us : Array Value) (n : Nat) (dd : Option Addr) (sl : Array (Option Value)) (tk0 : Tok) (hne : us.isEmpty = false) :
    Meets (Builtin.«tuple.__mul__» ⟨[.ref l, .int 1 tk0], []⟩) (fun _ R s => s.heap.get? l = some { cls := .type "tuple", dict := dd, data := .seq us n, slots := sl } ∧ R (.ok (.ret (Value.ref l))) s) :=
  .of_wp fun prog w A R s h => by
    obtain ⟨hp, g, d, tk, os⟩ := s
    obtain ⟨hl, h⟩ := h
    have f1 := AutoSeq1.idx_int
    wp_walk using wpAny_loadPart' hl
    exact ⟨_, rfl, h⟩
/-- t * 1, t not empty: t itself -/
theorem op_rep1 {X : Cx} : OpR X (binaryOp .Mult) (fun x y H Q => ∃ l xs, x = .ref l ∧ y = .int 1 ∧ SqT X.K H l xs ∧ xs ≠ [] ∧ Q (.ref l) H) := by
  intro pins sh a H x y v u Q I rx ry ⟨l, xs, e1, e2, hT, hne, q⟩
  subst e1 e2
  cases rx
  obtain ⟨tk0, rfl⟩ := ry
  obtain ⟨us, r, ⟨⟨cls, dd, data, sl⟩, ho, hc, n, hd⟩, hz⟩ := I.tuple hT
  obtain rfl : cls = Value.type "tuple" := hc
  obtain rfl : data = .seq us.toArray n := hd
  have h0 : us.toArray.isEmpty = false := by
    cases us with
    | nil => exact absurd (List.eq_nil_of_length_eq_zero (by simpa using r.length)) hne
    | cons b c => rfl
  have m2 : wpAny (model X.prog X.w) X.A (call (.builtin "tuple.__mul__") [.ref l, .int 1 tk0]) (EP X pins a Q) X.xe sh :=
    call_meets F.slot_tuple_mul ⟨_, ho, rfl⟩ F.entry_tuple_mul (F.args_tuple_mul_2 _ _) (tup_one l us.toArray n dd sl tk0 h0) ⟨ho, ⟨.ref l, H, I, rfl, q⟩⟩
  refine wpAny_binaryOp_repeat_ref (T := "tuple") (U := "int") (by decide) ⟨_, ho, rfl⟩ (fun s' => typeIs_int s' 1 tk0) noFill_tuple_mul F.fills_int_mul F.slot_int_rmul repeat_tuple F.slot_int_index.lookup ?_
  exact call_meets F.slot_int_rmul (typeIs_int sh 1 tk0) F.entry_int_rmul (F.args_int_rmul_2 _ _) (int_rmul_tuple 1 tk0 l us.toArray n dd sl) ⟨ho, rfl, ⟨_, ho, rfl⟩, m2⟩
end EW

set_option Elab.async false
set_option linter.all false
set_option maxRecDepth 100000
/-! M layer 4: readings by meaning, and the rules for expressions. -/
namespace EW
open PySem PySem.Spec PyProof.Rows L2

/-- what is wished of exceptions, and what is known of the one that is handled -/
structure Pm where
  W : WX
  chi : Addr → Exn → Prop
abbrev Mp := Nat → Addr
abbrev AS := L2.St
structure RE (chi : Addr → Exn → Prop) (m : Mp) (n : Nat) (H : Hp) (a : AS) (r : Env) : Prop where
  len : a.length = r.length
  val : ∀ (i : Nat) (d : D), r[i]? = some (.val d) → ∃ v, a[i]? = some (some v) ∧ RV m n H v d
  exc : ∀ (i : Nat) (x : Exn), r[i]? = some (.exc x) → ∃ p, a[i]? = some (some (.ref p)) ∧ chi p x
def XR (G : Gb) (m : Mp) (n : Nat) (H : Hp) (cls : Value) (dd : Option Addr) (x : Exn) : Prop :=
  cls = .ref (G.xA x.c) ∧ match x.fs with
    | [] => dd = none
    | f :: fs => ∃ d vs, dd = some d ∧ H d = some (.xd vs) ∧ FR G.fN m n H vs (f :: fs)
abbrev XP := Exn → Mp → Sto → Hp → Prop
def Post {α : Type} (G : Gb) (m : Mp) (s : Sto) (H : Hp) (X : XP) (q : Res α) (K : α → Mp → Sto → Hp → Prop) : Prop := match q with
  | .ok a s' => ∀ m' H', Ext m s H m' s' H' → Rel G m' s' H' → K a m' s' H'
  | .exc x s' => ∀ m' H', Ext m s H m' s' H' → Rel G m' s' H' → X x m' s' H'
  | .no => False
def wX (G : Gb) (W : WX) (a : AS) : XP := fun x m s H => ∀ cls dd, XR G m s.length H cls dd x → W cls dd a H

section
variable {G : Gb} {m : Mp} {s : Sto} {H : Hp} {X : XP} {α β : Type}
theorem Post.bind {x : M α} {f : α → M β} {K : β → Mp → Sto → Hp → Prop} (h : Post G m s H X (M.bind x f s) K) :
    Post G m s H X (x s) (fun a m1 s1 H1 => Post G m1 s1 H1 X (f a s1) K) := by
  unfold M.bind at h
  cases q : x s with
  | ok a s1 =>
    rw [q] at h
    have h : Post G m s H X (f a s1) K := h
    intro m1 H1 e1 r1
    show Post G m1 s1 H1 X (f a s1) K
    cases z : f a s1 with
    | ok b s2 =>
      rw [z] at h
      exact fun m2 H2 e2 r2 => h m2 H2 (e1.trans e2) r2
    | exc b s2 =>
      rw [z] at h
      exact fun m2 H2 e2 r2 => h m2 H2 (e1.trans e2) r2
    | no => rw [z] at h; exact h
  | exc a s1 => rw [q] at h; exact h
  | no => rw [q] at h; exact h
theorem Post.imp {q : Res α} {K K' : α → Mp → Sto → Hp → Prop} (h : Post G m s H X q K) (k : ∀ a m1 s1 H1, Ext m s H m1 s1 H1 → Rel G m1 s1 H1 → K a m1 s1 H1 → K' a m1 s1 H1) : Post G m s H X q K' := by
  cases q with
  | ok a s1 => exact fun m1 H1 e1 r1 => k a m1 s1 H1 e1 r1 (h m1 H1 e1 r1)
  | exc a s1 => exact h
  | no => exact h
theorem Post.ok {a : α} {K : α → Mp → Sto → Hp → Prop} (h : Post G m s H X (.ok a s) K) (r : Rel G m s H) : K a m s H := h m H Ext.refl r
theorem Post.ok1 {a : α} {s' : Sto} {K : α → Mp → Sto → Hp → Prop} (h : Post G m s H X (.ok a s') K) {m' : Mp} {H' : Hp} (e : Ext m s H m' s' H') (r : Rel G m' s' H') : K a m' s' H' := h m' H' e r
theorem RE.mono {chi : Addr → Exn → Prop} {n n' : Nat} {m' : Mp} {H' : Hp} {a : AS} {r : Env} (e : RE chi m n H a r) (st : Stay m n H m' n' H') : RE chi m' n' H' a r :=
  ⟨e.len, fun i d h => let ⟨v, h1, h2⟩ := e.val i d h; ⟨v, h1, RV.mono st d v h2⟩, e.exc⟩
end

/-! ### the readings -/
/-- a thing that runs by a meaning -/
def tG (G : Gb) (g : Pm) {α β : Type} (rep : Mp → Nat → Hp → β → α → Prop) (f : Env → M α) : AS → Hp → (β → Hp → Prop) → Prop := fun a H Q =>
  ∃ m r s, Rel G m s H ∧ RE g.chi m s.length H a r ∧ Post G m s H (wX G g.W a) (f r s) (fun d m' s' H' => ∀ v, rep m' s'.length H' v d → Q v H')
abbrev tE (G : Gb) (g : Pm) (f : Env → M D) : TE := tG G g RV f
abbrev tL (G : Gb) (g : Pm) (f : Env → M (List D)) : TA := tG G g RVs f
abbrev tB (G : Gb) (g : Pm) (f : Env → M Bool) : TT := tG G g (fun _ _ _ v d => v = d) f

theorem impPE {X : Cx} {e : Expr} {t t' : TE} (h : PE X e t) (k : ∀ a H Q, t' a H Q → t a H Q) : PE X e t' := ⟨fun pins s a H Q I q => h.run pins s a H Q I (k a H Q q)⟩
theorem impPT {X : Cx} {e : Expr} {t t' : TT} (h : PT X e t) (k : ∀ a H Q, t' a H Q → t a H Q) : PT X e t' := ⟨fun pins s a H Q I q => h.run pins s a H Q I (k a H Q q)⟩
theorem impPA {X : Cx} {es : List Expr} {t t' : TA} (h : PA X es t) (k : ∀ a H Q, t' a H Q → t a H Q) : PA X es t' := ⟨fun pos pins s a H Q I q => h.run pos pins s a H Q I (k a H Q q)⟩
theorem impPS {X : Cx} {st : Stmt} {t t' : TS} (h : PS X st t) (k : ∀ D a H, t' D a H → t D a H) : PS X st t' := ⟨fun pins s a H D I q => h.run pins s a H D I (k D a H q)⟩
theorem impPSs {X : Cx} {st : List Stmt} {t t' : TS} (h : PSs X st t) (k : ∀ D a H, t' D a H → t D a H) : PSs X st t' := ⟨fun pins s a H D I q => h.run pins s a H D I (k D a H q)⟩

section
variable {G : Gb} {g : Pm} {a : AS} {H : Hp} {α β γ δ : Type} {ra : Mp → Nat → Hp → β → α → Prop} {rc : Mp → Nat → Hp → δ → γ → Prop}
/-- f, then k of its value: by the state behind f -/
theorem tG.bind {f : Env → M α} {k : Env → α → M γ} {Q : δ → Hp → Prop} (h : tG G g rc (fun r => M.bind (f r) (k r)) a H Q) :
    tG G g ra f a H (fun v H1 => ∃ m r s d, Rel G m s H1 ∧ RE g.chi m s.length H1 a r ∧ ra m s.length H1 v d ∧ Post G m s H1 (wX G g.W a) (k r d s) (fun z m' s' H' => ∀ u, rc m' s'.length H' u z → Q u H')) := by
  obtain ⟨m, r, s, R, E, P⟩ := h
  exact ⟨m, r, s, R, E, P.bind.imp fun d m1 s1 H1 e1 r1 P1 v hv => ⟨m1, r, s1, d, r1, E.mono (e1.stay R), hv, P1⟩⟩
end
section
variable {G : Gb} {g : Pm} {X : Cx}
/-- by values: two operands -/
def r2 (G : Gb) (op : D → D → M D) : R2 := fun x y H Q => ∃ m s a b X, Rel G m s H ∧ RV m s.length H x a ∧ RV m s.length H y b ∧ Post G m s H X (op a b s) (fun d m' s' H' => ∀ v, RV m' s'.length H' v d → Q v H')
theorem me_two {op : Operator} {o : D → D → M D} {ea eb : Expr} {fa fb : Env → M D} {pos : Pos} (ho : OpR X (binaryOp op) (r2 G o)) (ha : PE X ea (tE G g fa)) (hb : PE X eb (tE G g fb)) :
    PE X (.BinOp ea op eb pos) (tE G g fun r => M.bind (fa r) fun x => M.bind (fb r) fun y => o x y) := impPE (pe_op ho ha hb) fun a H Q h => by
  obtain ⟨m, r, s, R, E, P⟩ := h
  refine ⟨m, r, s, R, E, P.bind.imp fun d m1 s1 H1 e1 r1 P1 v hv => ?_⟩
  refine ⟨m1, r, s1, r1, E.mono (e1.stay R), P1.bind.imp fun d2 m2 s2 H2 e2 r2 P2 u hu => ?_⟩
  exact ⟨m2, s2, d, d2, _, r2, RV.mono (e2.stay r1) d v hv, hu, P2⟩
theorem me_cmp {op : CmpOp} {o : D → D → M D} {ea eb : Expr} {fa fb : Env → M D} {pos : Pos} (ho : OpR X (compareOp op) (r2 G o)) (ha : PE X ea (tE G g fa)) (hb : PE X eb (tE G g fb)) (hm : behindInMarks op eb = false) :
    PE X (.Compare ea [op] [eb] pos) (tE G g fun r => M.bind (fa r) fun x => M.bind (fb r) fun y => o x y) := impPE (pe_cmpR ho ha hb hm) fun a H Q h => by
  obtain ⟨m, r, s, R, E, P⟩ := h
  refine ⟨m, r, s, R, E, P.bind.imp fun d m1 s1 H1 e1 r1 P1 v hv => ?_⟩
  refine ⟨m1, r, s1, r1, E.mono (e1.stay R), P1.bind.imp fun d2 m2 s2 H2 e2 r2 P2 u hu => ?_⟩
  exact ⟨m2, s2, d, d2, _, r2, RV.mono (e2.stay r1) d v hv, hu, P2⟩
end

/-! ### operators -/
section
variable {G : Gb} {X : Cx}
theorem impOp {X : Cx} {f : Value → Value → Sem Value} {r r' : R2} (h : OpR X f r) (k : ∀ x y H Q, r' x y H Q → r x y H Q) : OpR X f r' :=
  fun pins s a H x y v u Q I rx ry q => h pins s a H x y v u Q I rx ry (k x y H Q q)
/-- by cases on the values: each case by a rule -/
theorem r2_by {f : Value → Value → Sem Value} {o : D → D → M D} (h : ∀ da db, OpR X f (fun x y H Q => ∃ m s X, Rel G m s H ∧ RV m s.length H x da ∧ RV m s.length H y db ∧ Post G m s H X (o da db s) (fun d m' s' H' => ∀ v, RV m' s'.length H' v d → Q v H'))) : OpR X f (r2 G o) :=
  fun pins s a H x y v u Q I rx ry ⟨m, s', da, db, Xp, R, h1, h2, P⟩ => h da db pins s a H x y v u Q I rx ry ⟨m, s', Xp, R, h1, h2, P⟩
theorem r2_no {f : Value → Value → Sem Value} {r : V → V → Hp → VK → Prop} (h : ∀ x y H Q, ¬ r x y H Q) : OpR X f r := fun pins s a H x y v u Q I rx ry q => absurd q (h _ _ _ _)
theorem r2_int {f : Value → Value → Sem Value} {C : Int → Int → Prop} {k : Int → Int → V} {r : R2} (h : OpR X f (rI C k)) (e : ∀ x y H Q, r x y H Q → ∃ i j, x = .int i ∧ y = .int j ∧ C i j ∧ Q (k i j) H) : OpR X f r :=
  impOp h fun x y H Q q => e x y H Q q

theorem Str_app (x y : List Nat) : strOf x ++ strOf y = strOf (x ++ y) := by
  show Str.mk _ = Str.mk _
  simp [strOf]
theorem ob_add : OpR X (binaryOp .Add) (r2 G (bin .add)) := r2_by fun da db => by
  cases da <;> cases db
  case int.int i j =>
    exact impOp op_add fun x y H Q ⟨m, s, Xp, R, h1, h2, P⟩ => ⟨i, j, h1, h2, P.ok R _ rfl⟩
  case str.str i j =>
    refine impOp op_add_str fun x y H Q ⟨m, s, Xp, R, h1, h2, P⟩ => ⟨strOf i, strOf j, h1, h2, ?_⟩
    unfold bin at P
    dsimp only at P
    split at P
    · rename_i hl
      refine ⟨by simpa [strOf, Str.length] using hl, P.ok R _ ?_⟩
      rw [Str_app]; rfl
    · exact P.elim
  case tup.tup i j =>
    refine impOp op_catA fun x y H Q ⟨m, s, Xp, R, h1, h2, P⟩ => ?_
    unfold RV at h1 h2
    obtain ⟨a, vs, rfl, q1, q2, q3⟩ := h1
    obtain ⟨b, ws, rfl, q4, q5, q6⟩ := h2
    unfold bin at P
    dsimp only at P
    split at P
    · rename_i hl
      rw [← q3.len, ← q6.len] at hl
      refine ⟨a, b, vs, ws, rfl, rfl, .of q1, .of q4, hl, fun e => ?_, fun _ e => ?_, fun _ _ p hp => ?_⟩
      · subst e
        have : i = [] := List.length_eq_zero_iff.mp (by rw [← q3.len]; rfl)
        subst this
        refine P.ok R _ ?_
        unfold RV
        exact ⟨b, ws, rfl, q4, q5, q6⟩
      · subst e
        have : j = [] := List.length_eq_zero_iff.mp (by rw [← q6.len]; rfl)
        subst this
        rw [List.append_nil] at P
        refine P.ok R _ ?_
        unfold RV
        exact ⟨a, vs, rfl, q1, q2, q3⟩
      · obtain ⟨r1, e1, h⟩ := R.tup hp (q3.app q6) (by simpa using hl)
        exact P.ok1 e1 r1 _ h
    · exact P.elim
  case ref.ref i j =>
    refine impOp op_cat fun x y H Q ⟨m, s, Xp, R, h1, h2, P⟩ => ?_
    unfold RV at h1 h2
    obtain ⟨l1, rfl⟩ := h1
    obtain ⟨l2, rfl⟩ := h2
    unfold bin at P
    dsimp only at P
    split at P
    · rename_i xs ys e1 e2
      obtain ⟨_, vs, q1, q2⟩ := R.obs i _ e1
      obtain ⟨_, ws, q3, q4⟩ := R.obs j _ e2
      split at P
      · rename_i hl
        rw [← q2.len, ← q4.len] at hl
        refine ⟨m i, m j, vs, ws, rfl, rfl, q1, q3, hl, fun p hp => ?_⟩
        obtain ⟨m', r1, e1, h⟩ := R.lst hp (q2.app q4) (by simpa using hl)
        exact P.ok1 e1 r1 _ h
      · exact P.elim
    · exact P.elim
  all_goals
    refine r2_no fun x y H Q => ?_
    rintro ⟨m, s, Xp, R, h1, h2, P⟩
    exact P
/-- an operator that takes whole numbers alone -/
theorem r2_ii {f : Value → Value → Sem Value} {o : D → D → M D} (hn : ∀ da db s, (∀ i j, ¬ (da = .int i ∧ db = .int j)) → o da db s = .no)
    (h : ∀ i j, OpR X f (fun x y H Q => ∃ m s X, Rel G m s H ∧ x = .int i ∧ y = .int j ∧ Post G m s H X (o (.int i) (.int j) s) (fun d m' s' H' => ∀ v, RV m' s'.length H' v d → Q v H'))) : OpR X f (r2 G o) := r2_by fun da db => by
  by_cases e : ∃ i j, da = .int i ∧ db = .int j
  · obtain ⟨i, j, rfl, rfl⟩ := e
    exact impOp (h i j) fun x y H Q ⟨m, s, Xp, R, h1, h2, P⟩ => ⟨m, s, Xp, R, h1, h2, P⟩
  · refine r2_no fun x y H Q => ?_
    rintro ⟨m, s, Xp, R, h1, h2, P⟩
    rw [hn da db s fun i j q => e ⟨i, j, q⟩] at P
    exact P
theorem bin_no {op : BO} {da db : D} {s : Sto} (h1 : op ≠ .add) (h2 : op ≠ .mul) (h : ∀ i j, ¬ (da = .int i ∧ db = .int j)) : bin op da db s = .no := by
  cases op <;> first | exact absurd rfl h1 | exact absurd rfl h2 | skip
  all_goals
    cases da <;> cases db <;> first | rfl | exact absurd ⟨rfl, rfl⟩ (h _ _)
theorem ob_sub : OpR X (binaryOp .Sub) (r2 G (bin .sub)) := r2_ii (fun _ _ _ h => bin_no (by decide) (by decide) h) fun i j => impOp op_sub fun x y H Q ⟨m, s, Xp, R, h1, h2, P⟩ => ⟨i, j, h1, h2, P.ok R _ rfl⟩
theorem ob_and : OpR X (binaryOp .BitAnd) (r2 G (bin .and)) := r2_ii (fun _ _ _ h => bin_no (by decide) (by decide) h) fun i j => impOp op_and fun x y H Q ⟨m, s, Xp, R, h1, h2, P⟩ => ⟨i, j, h1, h2, P.ok R _ rfl⟩
theorem ob_or : OpR X (binaryOp .BitOr) (r2 G (bin .or)) := r2_ii (fun _ _ _ h => bin_no (by decide) (by decide) h) fun i j => impOp op_or fun x y H Q ⟨m, s, Xp, R, h1, h2, P⟩ => ⟨i, j, h1, h2, P.ok R _ rfl⟩
theorem ob_xor : OpR X (binaryOp .BitXor) (r2 G (bin .xor)) := r2_ii (fun _ _ _ h => bin_no (by decide) (by decide) h) fun i j => impOp op_xor fun x y H Q ⟨m, s, Xp, R, h1, h2, P⟩ => ⟨i, j, h1, h2, P.ok R _ rfl⟩
theorem Post.ite {α : Type} {c : Prop} [Decidable c] {m : Mp} {s : Sto} {H : Hp} {Xp : XP} {q : Res α} {K : α → Mp → Sto → Hp → Prop} (h : Post G m s H Xp (if c then q else .no) K) : c ∧ Post G m s H Xp q K := by
  by_cases e : c
  · rw [if_pos e] at h; exact ⟨e, h⟩
  · rw [if_neg e] at h; exact h.elim
theorem ob_fdiv : OpR X (binaryOp .FloorDiv) (r2 G (bin .fdiv)) := r2_ii (fun _ _ _ h => bin_no (by decide) (by decide) h) fun i j => impOp op_fdivW fun x y H Q ⟨m, s, Xp, R, h1, h2, P⟩ => by
  obtain ⟨c, P⟩ := Post.ite (q := Res.ok (D.int (i / j)) s) P
  exact ⟨i, j, h1, h2, c, P.ok R _ rfl⟩
theorem ob_mod : OpR X (binaryOp .Mod) (r2 G (bin .mod)) := r2_ii (fun _ _ _ h => bin_no (by decide) (by decide) h) fun i j => impOp op_mod fun x y H Q ⟨m, s, Xp, R, h1, h2, P⟩ => by
  obtain ⟨c, P⟩ := Post.ite (q := Res.ok (D.int (i % j)) s) P
  exact ⟨i, j, h1, h2, c, P.ok R _ rfl⟩
theorem ob_pow : OpR X (binaryOp .Pow) (r2 G (bin .pow)) := r2_ii (fun _ _ _ h => bin_no (by decide) (by decide) h) fun i j => impOp op_pow fun x y H Q ⟨m, s, Xp, R, h1, h2, P⟩ => by
  obtain ⟨c, P⟩ := Post.ite (q := Res.ok (D.int (i ^ j.toNat)) s) P
  exact ⟨i, j, h1, h2, c, P.ok R _ rfl⟩
theorem ob_shl : OpR X (binaryOp .LShift) (r2 G (bin .shl)) := r2_ii (fun _ _ _ h => bin_no (by decide) (by decide) h) fun i j => impOp op_shlW fun x y H Q ⟨m, s, Xp, R, h1, h2, P⟩ => by
  obtain ⟨c, P⟩ := Post.ite (q := Res.ok (D.int (i * 2 ^ j.toNat)) s) P
  exact ⟨i, j, h1, h2, c, P.ok R _ rfl⟩
theorem ob_shr : OpR X (binaryOp .RShift) (r2 G (bin .shr)) := r2_ii (fun _ _ _ h => bin_no (by decide) (by decide) h) fun i j => impOp op_shr fun x y H Q ⟨m, s, Xp, R, h1, h2, P⟩ => by
  obtain ⟨c, P⟩ := Post.ite (q := Res.ok (D.int (i / 2 ^ j.toNat)) s) P
  exact ⟨i, j, h1, h2, c, P.ok R _ rfl⟩

theorem foldl_app (x : Array Nat) : ∀ (n : Nat) (acc : Array Nat), (List.replicate n x).foldl (· ++ ·) acc = acc ++ (List.replicate n x.toList).flatten.toArray
  | 0, acc => by simp
  | n + 1, acc => by
    rw [List.replicate_succ, List.foldl_cons, foldl_app x n, List.replicate_succ, List.flatten_cons]
    apply Array.ext'
    simp
theorem op_mul_str : OpR X (binaryOp .Mult) (fun x y H Q => ∃ z j, x = .str z ∧ y = .int j ∧ 0 ≤ j ∧ j ≤ sizeLine ∧ z.length * j.toNat ≤ sizeLine ∧ Q (.str ⟨(List.replicate j.toNat z.cps.toList).flatten.toArray⟩) H) := by
  intro pins s a H x y v u Q I rx ry h
  obtain ⟨z, j, rfl, rfl, h1, h2, h3, q⟩ := h
  obtain ⟨t, rfl⟩ := rx
  obtain ⟨t', rfl⟩ := ry
  rw [sizeLine_eq] at h2 h3
  have hz : z.length = z.cps.size := rfl
  refine PySem.P.mul_str (by rw [decide_eq_false (by omega), decide_eq_false (by omega)]; rfl) (fun a b => ?_) (fun _ _ => by unfold Builtin.Str.tooLong; rw [sizeLine_eq]; exact decide_eq_false (by omega)) ?_
  · intro c
    have h4 : (z.length : Int) * j ≤ 16777216 := by
      have h5 : ((z.length * j.toNat : Nat) : Int) ≤ 16777216 := by
        generalize z.length * j.toNat = q at h3
        omega
      rw [Int.natCast_mul, Int.toNat_of_nonneg h1] at h5
      exact h5
    have hp : 0 < j := by omega
    have c2 : (2 ^ 63 - 1 : Int) < (z.length : Int) * j := (Int.ediv_lt_iff_lt_mul hp).mp c
    have e : (2 ^ 63 - 1 : Int) = 9223372036854775807 := by decide
    rw [e] at c2
    omega
  · have fin : ∀ (y : Array Nat) (tk : Tok), y = (List.replicate j.toNat z.cps.toList).flatten.toArray → EP X pins a Q (.str ⟨y⟩ tk) { s with toks := s.toks + 1 } := fun y tk e => by
      subst e
      exact ⟨.str _, H, I.tok _, ⟨_, rfl⟩, q⟩
    have fin0 : ∀ (y : Array Nat) (tk : Tok), y = (List.replicate j.toNat z.cps.toList).flatten.toArray → EP X pins a Q (.str ⟨y⟩ tk) s := fun y tk e => by
      subst e
      exact ⟨.str _, H, I, ⟨_, rfl⟩, q⟩
    by_cases c1 : j < 1
    · rw [if_pos c1]
      have e : j = 0 := by omega
      subst e
      exact ⟨Nat.zero_le _, fin _ _ (by simp)⟩
    · rw [if_neg c1]
      by_cases c2 : (j == 1 || z.length == 0) = true
      · rw [if_pos c2]
        refine fin0 z.cps _ ?_
        rw [Bool.or_eq_true, beq_iff_eq, beq_iff_eq] at c2
        rcases c2 with e | e
        · subst e
          apply Array.ext'
          simp
        · have e2 : z.cps = #[] := Array.eq_empty_of_size_eq_zero e
          rw [e2]
          simp
      · rw [if_neg c2]
        rw [foldl_app]
        refine ⟨?_, fin _ _ (by simp)⟩
        show (#[] ++ (List.replicate j.toNat z.cps.toList).flatten.toArray : Array Nat).size ≤ sizeLine
        rw [sizeLine_eq]
        have e : (#[] ++ (List.replicate j.toNat z.cps.toList).flatten.toArray : Array Nat).size = j.toNat * z.cps.size := by simp
        rw [e, Nat.mul_comm, ← hz]
        exact h3
theorem ob_mul : OpR X (binaryOp .Mult) (r2 G (bin .mul)) := r2_by fun da db => by
  cases da <;> cases db
  case int.int i j =>
    refine impOp op_mulX fun x y H Q ⟨m, s, Xp, R, h1, h2, P⟩ => ?_
    obtain ⟨c, P⟩ := Post.ite (q := Res.ok (D.int (i * j)) s) P
    have c2 : (Builtin.Int.intBits i : Int) + (Builtin.Int.intBits j : Int) ≤ 134217728 := by
      unfold mulOk at c
      exact of_decide_eq_true c
    exact ⟨i, j, h1, h2, c2, P.ok R _ rfl⟩
  case str.int i j =>
    refine impOp op_mul_str fun x y H Q ⟨m, s, Xp, R, h1, h2, P⟩ => ?_
    obtain ⟨⟨c1, c2, c3⟩, P⟩ := Post.ite (q := Res.ok (D.str (List.replicate j.toNat i).flatten) s) P
    exact ⟨strOf i, j, h1, h2, c1, c2, by simpa [strOf, Str.length] using c3, P.ok R _ (by show V.str _ = V.str _; simp [strOf])⟩
  case tup.int ds j =>
    by_cases hj : j = 1
    · subst hj
      refine impOp op_rep1 fun x y H Q ⟨m, s, Xp, R, h1, h2, P⟩ => ?_
      have h0 := h1
      unfold RV at h1
      obtain ⟨a, vs, rfl, q1, q2, q3⟩ := h1
      obtain ⟨⟨c0, c1, c2, c3⟩, P⟩ := Post.ite (q := Res.ok (D.tup (List.replicate (1 : Int).toNat ds).flatten) s) P
      refine ⟨a, vs, rfl, h2, .of q1, fun e => c0 ?_, ?_⟩
      · subst e
        exact List.length_eq_zero_iff.mp (by rw [← q3.len]; rfl)
      · have e : (List.replicate (1 : Int).toNat ds).flatten = ds := by simp
        rw [e] at P
        exact P.ok R _ h0
    refine impOp op_repT fun x y H Q ⟨m, s, Xp, R, h1, h2, P⟩ => ?_
    unfold RV at h1
    obtain ⟨a, vs, rfl, q1, q2, q3⟩ := h1
    obtain ⟨⟨c0, c1, c2, c3⟩, P⟩ := Post.ite (q := Res.ok (D.tup (List.replicate j.toNat ds).flatten) s) P
    have hr : ∀ k : Nat, RVs m s.length H (List.replicate k vs).flatten (List.replicate k ds).flatten := fun k => by
      induction k with
      | zero => show RVs _ _ _ [] []; unfold RVs; rfl
      | succ k ih =>
        rw [List.replicate_succ, List.replicate_succ, List.flatten_cons, List.flatten_cons]
        exact q3.app ih
    refine ⟨a, j, vs, rfl, h2, .of q1, fun e => c0 ?_, by omega, c2, by rw [q3.len]; exact c3, fun p hp => ?_⟩
    · subst e
      exact List.length_eq_zero_iff.mp (by rw [← q3.len]; rfl)
    · have hl : (List.replicate j.toNat vs).flatten.length ≤ sizeLine := by
        rw [PyProof.Rows.lm_len_rep_flat, q3.len, sizeLine_eq]
        have a1 : j.toNat * ds.length ≤ 1000 * 1000 := Nat.mul_le_mul (by omega) c3
        omega
      obtain ⟨r1, e1, h⟩ := R.tup hp (hr j.toNat) hl
      exact P.ok1 e1 r1 _ h
  all_goals
    refine r2_no fun x y H Q => ?_
    rintro ⟨m, s, Xp, R, h1, h2, P⟩
    exact P
end
end EW

set_option Elab.async false
set_option linter.all false
set_option maxRecDepth 100000
/-! M layer 5: comparisons, truth, boolean operators. -/
namespace EW
open PySem PySem.Spec PyProof.Rows L2

section
variable {G : Gb} {m : Mp} {s : Sto} {H : Hp}
theorem omap_dp {f : D → Option PyData} (ih : ∀ (d : D) (p : PyData) (v : V), f d = some p → RV m s.length H v d → Dp G.K H v p) :
    ∀ (ds : List D) (ps : List PyData) (vs : List V), omap f ds = some ps → RVs m s.length H vs ds → DpAll G.K H vs ps
  | [], ps, vs, h, r => by
    cases h
    unfold RVs at r; subst r
    exact .nil
  | d :: ds, ps, vs, h, r => by
    unfold RVs at r
    obtain ⟨v, w, rfl, r1, r2⟩ := r
    unfold omap at h
    cases e1 : f d with
    | none => rw [e1] at h; cases h
    | some p =>
      rw [e1] at h
      cases e2 : omap f ds with
      | none => rw [e2] at h; cases h
      | some qs =>
        rw [e2] at h
        cases h
        exact .cons (ih d p v e1 r1) (omap_dp ih ds qs w e2 r2)
theorem dp_of (R : Rel G m s H) : ∀ (n : Nat) (d : D) (p : PyData) (v : V), toPd s n d = some p → RV m s.length H v d → Dp G.K H v p
  | n, .non, p, v, h, r => by cases n <;> (cases h; unfold RV at r; subst r; exact .non)
  | n, .bl b, p, v, h, r => by cases n <;> (cases h; unfold RV at r; subst r; exact .bl b)
  | n, .int i, p, v, h, r => by cases n <;> (cases h; unfold RV at r; subst r; exact .int i)
  | n, .str x, p, v, h, r => by cases n <;> (cases h; unfold RV at r; subst r; exact .str _)
  | 0, .tup ds, p, v, h, r => by cases h
  | 0, .ref i, p, v, h, r => by cases h
  | n + 1, .tup ds, p, v, h, r => by
    unfold RV at r
    obtain ⟨a, vs, rfl, q1, q2, q3⟩ := r
    unfold toPd at h
    obtain ⟨ps, e, rfl⟩ := Option.map_eq_some_iff.mp h
    exact .tup (.of q1) (omap_dp (fun d p v e r => dp_of R n d p v e r) ds ps vs e q3)
  | n + 1, .ref i, p, v, h, r => by
    unfold RV at r
    obtain ⟨_, rfl⟩ := r
    unfold toPd at h
    have go : ∀ xs, lstAt s i = some xs → (omap (toPd s n) xs).map PyData.list = some p → Dp G.K H (.ref (m i)) p := fun xs hx h => by
      obtain ⟨ps, e, rfl⟩ := Option.map_eq_some_iff.mp h
      obtain ⟨vs, q1, q2, _⟩ := R.lstAt hx
      exact .lst q1 (omap_dp (fun d p v e r => dp_of R n d p v e r) xs ps vs e q2)
    split at h
    · rename_i xs q
      exact go xs (by unfold lstAt; rw [q]) h
    · rename_i xs q
      exact go xs (by unfold lstAt; rw [q]) h
    · cases h
theorem RV.non_iff {n : Nat} {v : V} {d : D} (r : RV m n H v d) : decide (v = .non) = decide (d = .non) := by
  cases d <;> unfold RV at r
  case tup ds => obtain ⟨a, vs, rfl, _⟩ := r; simp
  case ref i => obtain ⟨_, rfl⟩ := r; simp
  all_goals (subst r; simp)
end

section
variable {G : Gb} {X : Cx}
theorem cmp_eq (hK : X.K = G.K) (hu : X.A.units + 64 < cLine) : OpR X (compareOp .Eq) (r2 G (cmp .eq)) := impOp (op_eqD hu) fun x y H Q ⟨m, s, da, db, Xp, R, h1, h2, P⟩ => by
  rw [hK]
  unfold cmp at P
  dsimp only at P
  unfold peq at P
  cases e1 : toPd s 64 da with
  | none => rw [e1] at P; exact P.elim
  | some p =>
    cases e2 : toPd s 64 db with
    | none => rw [e1, e2] at P; exact P.elim
    | some q =>
      rw [e1, e2] at P
      dsimp only at P
      cases e3 : (SeqAt.shaped p && SeqAt.shaped q) with
      | false => rw [e3] at P; exact P.elim
      | true =>
        rw [e3] at P
        obtain ⟨z1, z2⟩ := Bool.and_eq_true_iff.mp e3
        exact ⟨p, q, dp_of R 64 da p x e1 h1, dp_of R 64 db q y e2 h2, z1, z2, P.ok R _ rfl⟩
theorem cmp_ne (hK : X.K = G.K) (hu : X.A.units + 64 < cLine) : OpR X (compareOp .NotEq) (r2 G (cmp .ne)) := impOp (op_neD hu) fun x y H Q ⟨m, s, da, db, Xp, R, h1, h2, P⟩ => by
  rw [hK]
  unfold cmp at P
  dsimp only at P
  unfold peq at P
  cases e1 : toPd s 64 da with
  | none => rw [e1] at P; exact P.elim
  | some p =>
    cases e2 : toPd s 64 db with
    | none => rw [e1, e2] at P; exact P.elim
    | some q =>
      rw [e1, e2] at P
      dsimp only at P
      cases e3 : (SeqAt.shaped p && SeqAt.shaped q) with
      | false => rw [e3] at P; exact P.elim
      | true =>
        rw [e3] at P
        obtain ⟨z1, z2⟩ := Bool.and_eq_true_iff.mp e3
        exact ⟨p, q, dp_of R 64 da p x e1 h1, dp_of R 64 db q y e2 h2, z1, z2, P.ok R _ rfl⟩
theorem cmp_is : OpR X (compareOp .Is) (r2 G (cmp .is)) := r2_by fun da db => by
  cases db
  case non => exact impOp op_isN fun x y H Q ⟨m, s, Xp, R, h1, h2, P⟩ => ⟨h2, P.ok R _ (by show V.bl _ = V.bl _; rw [h1.non_iff])⟩
  case bl k =>
    cases da
    case bl j => exact impOp op_isBl fun x y H Q ⟨m, s, Xp, R, h1, h2, P⟩ => ⟨j, k, h1, h2, P.ok R _ rfl⟩
    all_goals
      refine r2_no fun x y H Q => ?_
      rintro ⟨m, s, Xp, R, h1, h2, P⟩
      exact P
  all_goals
    refine r2_no fun x y H Q => ?_
    rintro ⟨m, s, Xp, R, h1, h2, P⟩
    exact P
theorem cmp_isnot : OpR X (compareOp .IsNot) (r2 G (cmp .isnot)) := r2_by fun da db => by
  cases db
  case non => exact impOp op_notN fun x y H Q ⟨m, s, Xp, R, h1, h2, P⟩ => ⟨h2, P.ok R _ (by show V.bl _ = V.bl _; rw [h1.non_iff])⟩
  case bl k =>
    cases da
    case bl j => exact impOp op_notBl fun x y H Q ⟨m, s, Xp, R, h1, h2, P⟩ => ⟨j, k, h1, h2, P.ok R _ rfl⟩
    all_goals
      refine r2_no fun x y H Q => ?_
      rintro ⟨m, s, Xp, R, h1, h2, P⟩
      exact P
  all_goals
    refine r2_no fun x y H Q => ?_
    rintro ⟨m, s, Xp, R, h1, h2, P⟩
    exact P
theorem cmp_lt : OpR X (compareOp .Lt) (r2 G (cmp .lt)) := r2_by fun da db => by
  cases da <;> cases db
  case int.int i j => exact impOp op_lt fun x y H Q ⟨m, s, Xp, R, h1, h2, P⟩ => ⟨i, j, h1, h2, P.ok R _ rfl⟩
  all_goals
    refine r2_no fun x y H Q => ?_
    rintro ⟨m, s, Xp, R, h1, h2, P⟩
    exact P
theorem cmp_le : OpR X (compareOp .LtE) (r2 G (cmp .le)) := r2_by fun da db => by
  cases da <;> cases db
  case int.int i j => exact impOp op_le fun x y H Q ⟨m, s, Xp, R, h1, h2, P⟩ => ⟨i, j, h1, h2, P.ok R _ rfl⟩
  all_goals
    refine r2_no fun x y H Q => ?_
    rintro ⟨m, s, Xp, R, h1, h2, P⟩
    exact P
theorem cmp_gt : OpR X (compareOp .Gt) (r2 G (cmp .gt)) := r2_by fun da db => by
  cases da <;> cases db
  case int.int i j => exact impOp op_gt fun x y H Q ⟨m, s, Xp, R, h1, h2, P⟩ => ⟨i, j, h1, h2, P.ok R _ rfl⟩
  all_goals
    refine r2_no fun x y H Q => ?_
    rintro ⟨m, s, Xp, R, h1, h2, P⟩
    exact P
theorem cmp_ge : OpR X (compareOp .GtE) (r2 G (cmp .ge)) := r2_by fun da db => by
  cases da <;> cases db
  case int.int i j => exact impOp op_ge fun x y H Q ⟨m, s, Xp, R, h1, h2, P⟩ => ⟨i, j, h1, h2, P.ok R _ rfl⟩
  all_goals
    refine r2_no fun x y H Q => ?_
    rintro ⟨m, s, Xp, R, h1, h2, P⟩
    exact P

/-! ### in -/
theorem flat_V {m : Mp} {n : Nat} {H : Hp} {v : V} {d : D} (r : RV m n H v d) (h : flatD d = true) : flatV v = true := by
  cases d <;> first | (cases h; done) | (unfold RV at r; subst r; rfl)
theorem eq_V {m : Mp} {n : Nat} {H : Hp} {x y : V} {a b : D} (r1 : RV m n H x a) (r2 : RV m n H y b) (h1 : flatD a = true) (h2 : flatD b = true) : eqV x y = eqF a b := by
  cases a <;> (first | (cases h1; done) | skip) <;> cases b <;> (first | (cases h2; done) | skip) <;> (unfold RV at r1 r2; subst r1 r2) <;> first | rfl | skip
  rename_i p q
  show (strOf p == strOf q) = decide (p = q)
  by_cases e : p = q
  · subst e; simp
  · rw [decide_eq_false e]
    refine beq_false_of_ne fun z => e ?_
    have := congrArg (fun t : Str => t.cps.toList) z
    simpa [strOf] using this
theorem any_V {m : Mp} {n : Nat} {H : Hp} {x : V} {a : D} (r : RV m n H x a) (ha : flatD a = true) : ∀ {ds : List D} {vs : List V}, RVs m n H vs ds → ds.all flatD = true → vs.all flatV = true ∧ inV x vs = ds.any fun y => eqF y a
  | [], vs, h, _ => by
    unfold RVs at h
    subst h
    exact ⟨rfl, rfl⟩
  | d :: ds, vs, h, hf => by
    unfold RVs at h
    obtain ⟨v, w, rfl, h1, h2⟩ := h
    obtain ⟨f1, f2⟩ := Bool.and_eq_true_iff.mp (show (flatD d && ds.all flatD) = true from hf)
    obtain ⟨i1, i2⟩ := any_V r ha h2 f2
    refine ⟨by show (flatV v && w.all flatV) = true; rw [flat_V h1 f1, i1]; rfl, ?_⟩
    show (eqV v x || w.any fun y => eqV y x) = (eqF d a || ds.any fun y => eqF y a)
    rw [eq_V h1 r f1 ha]
    congr 1
theorem in_seq {m : Mp} {s : Sto} {H : Hp} {x y : V} {a b : D} {k : Bool} (hK : X.K = G.K) (R : Rel G m s H) (h1 : RV m s.length H x a) (h2 : RV m s.length H y b) (e : inD a b s = some k) :
    (∃ p xs, y = .ref p ∧ (SqL X.K H p xs ∨ SqT X.K H p xs) ∧ flatV x = true ∧ xs.all flatV = true ∧ inV x xs = k) ∨ ∃ (c : Nat) (z : Str), x = .str ⟨#[c]⟩ ∧ y = .str z ∧ decide (c ∈ z.cps.toList) = k := by
  unfold inD at e
  split at e
  · rename_i ds hd
    left
    split at e
    · rename_i hf
      cases e
      obtain ⟨fa, fs⟩ := Bool.and_eq_true_iff.mp hf
      unfold seqOf at hd
      split at hd
      · cases hd
        unfold RV at h2
        obtain ⟨p, vs, rfl, q1, q2, q3⟩ := h2
        obtain ⟨i1, i2⟩ := any_V h1 fa q3 fs
        exact ⟨p, vs, rfl, .inr (.of q1), flat_V h1 fa, i1, i2⟩
      · rename_i i
        unfold RV at h2
        obtain ⟨_, rfl⟩ := h2
        have hl : lstAt s i = some ds := hd
        obtain ⟨vs, q1, q2, _⟩ := R.lstAt hl
        obtain ⟨i1, i2⟩ := any_V h1 fa q2 fs
        exact ⟨m i, vs, rfl, .inl (by rw [hK]; exact q1), flat_V h1 fa, i1, i2⟩
      · cases hd
    · cases e
  · rename_i hn
    clear hn
    right
    unfold inS at e
    split at e
    · rename_i c z
      cases e
      unfold RV at h1 h2
      subst h1 h2
      exact ⟨c, strOf z, rfl, rfl, rfl⟩
    · cases e
theorem OpR.or {f : Value → Value → Sem Value} {r r' : R2} (h : OpR X f r) (h' : OpR X f r') : OpR X f (fun x y H Q => r x y H Q ∨ r' x y H Q) :=
  fun pins s a H x y v u Q I rx ry q => q.elim (fun q => h pins s a H x y v u Q I rx ry q) (fun q => h' pins s a H x y v u Q I rx ry q)
theorem cmp_in (hK : X.K = G.K) : OpR X (compareOp .In) (r2 G (cmp .isin)) := impOp (OpR.or op_in_seq op_in_sign) fun x y H Q ⟨m, s, da, db, Xp, R, h1, h2, P⟩ => by
  unfold cmp at P
  dsimp only at P
  split at P
  · rename_i k e
    rcases in_seq hK R h1 h2 e with ⟨p, xs, q1, q2, q3, q4, q5⟩ | ⟨c, z, q1, q2, q3⟩
    · exact .inl ⟨p, xs, q1, q2, q3, q4, P.ok R _ (by show V.bl _ = V.bl _; rw [← q5]; rfl)⟩
    · exact .inr ⟨c, z, q1, q2, P.ok R _ (by show V.bl _ = V.bl _; rw [← q3])⟩
  · exact P.elim
theorem cmp_notin (hK : X.K = G.K) : OpR X (compareOp .NotIn) (r2 G (cmp .notin)) := impOp (OpR.or op_notIn_seq op_notIn_sign) fun x y H Q ⟨m, s, da, db, Xp, R, h1, h2, P⟩ => by
  unfold cmp at P
  dsimp only at P
  split at P
  · rename_i k e
    rcases in_seq hK R h1 h2 e with ⟨p, xs, q1, q2, q3, q4, q5⟩ | ⟨c, z, q1, q2, q3⟩
    · exact .inl ⟨p, xs, q1, q2, q3, q4, P.ok R _ (by show V.bl _ = V.bl _; rw [← q5]; rfl)⟩
    · exact .inr ⟨c, z, q1, q2, P.ok R _ (by show V.bl _ = V.bl _; rw [← q3])⟩
  · exact P.elim

/-! ### truth -/
theorem truV {m : Mp} {s : Sto} {H : Hp} {x : V} {d : D} {b : Bool} (R : Rel G m s H) (r : RV m s.length H x d) (e : tru d s = .ok b s) : TruV G.K x H b := by
  unfold tru at e
  cases d <;> unfold RV at r <;> dsimp only at e
  case non => subst r; cases e; rfl
  case bl b => subst r; cases e; rfl
  case int i => subst r; cases e; rfl
  case str y =>
    subst r
    split at e
    · rename_i c
      cases e
      refine ⟨by simpa [strOf, Str.length] using c, ?_⟩
      cases y with
      | nil => rfl
      | cons d y =>
        have e : (strOf (d :: y)).length = y.length + 1 := by simp [strOf, Str.length]
        rw [e]
        simp [bne]
        omega
    · cases e
  case tup ds =>
    cases e
    obtain ⟨p, vs, rfl, q1, q2, q3⟩ := r
    refine .inr (.inl ⟨vs, .of q1, ?_⟩)
    have := q3.len
    cases ds <;> cases vs <;> first | rfl | (simp at this)
  case ref i =>
    obtain ⟨_, rfl⟩ := r
    split at e
    · rename_i xs q
      cases e
      obtain ⟨_, vs, q1, q2⟩ := R.obs i _ q
      refine .inl ⟨vs, .of q1, ?_⟩
      have := q2.len
      cases xs <;> cases vs <;> first | rfl | (simp at this)
    · rename_i xs q
      cases e
      obtain ⟨vs, q1, q2, _⟩ := R.lstAt (i := i) (ds := xs) (by unfold lstAt; rw [q])
      refine .inl ⟨vs, q1, ?_⟩
      have := q2.len
      cases xs <;> cases vs <;> first | rfl | (simp at this)
    · rename_i kvs q
      cases e
      obtain ⟨_, vs, q1, q2⟩ := R.obs i _ q
      refine .inr (.inr ⟨vs, q1, ?_⟩)
      cases kvs with
      | nil => unfold KR at q2; subst q2; rfl
      | cons p r =>
        unfold KR at q2
        obtain ⟨k, v, r2, rfl, _⟩ := q2
        rfl
    · cases e
theorem tru_cases (d : D) (s : Sto) : tru d s = .no ∨ ∃ b, tru d s = .ok b s := by
  unfold tru
  cases d <;> dsimp only
  case str y =>
    split
    · exact .inr ⟨_, rfl⟩
    · exact .inl rfl
  case ref i =>
    split
    · exact .inr ⟨_, rfl⟩
    · exact .inr ⟨_, rfl⟩
    · exact .inr ⟨_, rfl⟩
    · exact .inl rfl
  all_goals exact .inr ⟨_, rfl⟩
theorem Post.tru {m : Mp} {s : Sto} {H : Hp} {Xp : XP} {β : Type} {d : D} {f : Bool → M β} {K : β → Mp → Sto → Hp → Prop} (P : Post G m s H Xp (M.bind (EW.tru d) f s) K) :
    ∃ b, EW.tru d s = .ok b s ∧ Post G m s H Xp (f b s) K := by
  unfold M.bind at P
  rcases tru_cases d s with e | ⟨b, e⟩
  · rw [e] at P; exact P.elim
  · rw [e] at P; exact ⟨b, e, P⟩
theorem Post.tru0 {m : Mp} {s : Sto} {H : Hp} {Xp : XP} {d : D} {K : Bool → Mp → Sto → Hp → Prop} (R : Rel G m s H) (P : Post G m s H Xp (EW.tru d s) K) :
    ∃ b, EW.tru d s = .ok b s ∧ K b m s H := by
  rcases tru_cases d s with e | ⟨b, e⟩
  · rw [e] at P; exact P.elim
  · rw [e] at P; exact ⟨b, e, P.ok R⟩
end

section
variable {G : Gb} {g : Pm} {X : Cx} {ea eb : Expr} {rest : List Expr} {fa fb : Env → M D} {pos : Pos}
theorem me_and (hK : X.K = G.K) (ha : PE X ea (tE G g fa)) (hb : PE X (.BoolOp .And (eb :: rest) pos) (tE G g fb)) :
    PE X (.BoolOp .And (ea :: eb :: rest) pos) (tE G g fun r => M.bind (fa r) fun x => M.bind (tru x) fun b => if b = true then fb r else M.pure x) := impPE (pe_andT ha hb) fun a H Q h => by
  obtain ⟨m, r, s, R, E, P⟩ := h
  refine ⟨m, r, s, R, E, P.bind.imp fun d m1 s1 H1 e1 r1 P1 v hv => ?_⟩
  obtain ⟨b, e, P2⟩ := P1.tru
  refine ⟨b, by rw [hK]; exact truV r1 hv e, ?_⟩
  cases b with
  | true => exact iteT ⟨m1, r, s1, r1, E.mono (e1.stay R), P2⟩
  | false => exact iteF (P2.ok r1 v hv)
theorem me_or (hK : X.K = G.K) (ha : PE X ea (tE G g fa)) (hb : PE X (.BoolOp .Or (eb :: rest) pos) (tE G g fb)) :
    PE X (.BoolOp .Or (ea :: eb :: rest) pos) (tE G g fun r => M.bind (fa r) fun x => M.bind (tru x) fun b => if b = true then M.pure x else fb r) := impPE (pe_orT ha hb) fun a H Q h => by
  obtain ⟨m, r, s, R, E, P⟩ := h
  refine ⟨m, r, s, R, E, P.bind.imp fun d m1 s1 H1 e1 r1 P1 v hv => ?_⟩
  obtain ⟨b, e, P2⟩ := P1.tru
  refine ⟨b, by rw [hK]; exact truV r1 hv e, ?_⟩
  cases b with
  | true => exact iteT (P2.ok r1 v hv)
  | false => exact iteF ⟨m1, r, s1, r1, E.mono (e1.stay R), P2⟩
theorem me_not (hK : X.K = G.K) (ha : PE X ea (tE G g fa)) : PE X (.UnaryOp .Not ea pos) (tE G g fun r => M.bind (fa r) fun x => M.bind (tru x) fun b => M.pure (.bl (!b))) := impPE (pe_notT ha) fun a H Q h => by
  obtain ⟨m, r, s, R, E, P⟩ := h
  refine ⟨m, r, s, R, E, P.bind.imp fun d m1 s1 H1 e1 r1 P1 v hv => ?_⟩
  obtain ⟨b, e, P2⟩ := P1.tru
  exact ⟨b, by rw [hK]; exact truV r1 hv e, P2.ok r1 _ rfl⟩
/-- a test by the truth of its value -/
theorem mt_plain (hK : X.K = G.K) (ha : PE X ea (tE G g fa)) (he : ∀ whole, isTrue ea X.env whole = (do let v ← whole; standAt ea.pos; holding [v] (truthy v))) :
    PT X ea (tB G g fun r => M.bind (fa r) tru) := impPT (pt_truth ha he) fun a H Q h => by
  obtain ⟨m, r, s, R, E, P⟩ := h
  refine ⟨m, r, s, R, E, P.bind.imp fun d m1 s1 H1 e1 r1 P1 v hv => ?_⟩
  obtain ⟨b, e, P2⟩ := P1.tru0 r1
  exact ⟨b, by rw [hK]; exact truV r1 hv e, P2 _ rfl⟩
theorem mt_not {ta : Env → M Bool} (ha : PT X ea (tB G g ta)) : PT X (.UnaryOp .Not ea pos) (tB G g fun r => M.bind (ta r) fun b => M.pure (!b)) := impPT (pt_not ha) fun a H Q h => by
  obtain ⟨m, r, s, R, E, P⟩ := h
  exact ⟨m, r, s, R, E, P.bind.imp fun d m1 s1 H1 e1 r1 P1 v hv => by subst hv; exact P1.ok r1 _ rfl⟩
theorem mw_and {ta tb : Env → M Bool} (ha : PT X ea (tB G g ta)) (hb : PW X (.BoolOp .And (eb :: rest) pos) (tB G g tb)) : PW X (.BoolOp .And (ea :: eb :: rest) pos) (tB G g fun r => M.bind (ta r) fun b => if b = true then tb r else M.pure false) :=
  ⟨fun wh pins sh a H Q I h => (pw_and ha hb).run wh pins sh a H Q I (by
    obtain ⟨m, r, s, R, E, P⟩ := h
    refine ⟨m, r, s, R, E, P.bind.imp fun d m1 s1 H1 e1 r1 P1 v hv => ?_⟩
    subst hv
    cases v with
    | true => exact iteT ⟨m1, r, s1, r1, E.mono (e1.stay R), P1⟩
    | false => exact iteF (P1.ok r1 _ rfl))⟩
theorem mw_or {ta tb : Env → M Bool} (ha : PT X ea (tB G g ta)) (hb : PW X (.BoolOp .Or (eb :: rest) pos) (tB G g tb)) : PW X (.BoolOp .Or (ea :: eb :: rest) pos) (tB G g fun r => M.bind (ta r) fun b => if b = true then M.pure true else tb r) :=
  ⟨fun wh pins sh a H Q I h => (pw_or ha hb).run wh pins sh a H Q I (by
    obtain ⟨m, r, s, R, E, P⟩ := h
    refine ⟨m, r, s, R, E, P.bind.imp fun d m1 s1 H1 e1 r1 P1 v hv => ?_⟩
    subst hv
    cases v with
    | true => exact iteT (P1.ok r1 _ rfl)
    | false => exact iteF ⟨m1, r, s1, r1, E.mono (e1.stay R), P1⟩)⟩
theorem me_ife {c : Expr} {tc : Env → M Bool} (hc : PT X c (tB G g tc)) (ha : PE X ea (tE G g fa)) (hb : PE X eb (tE G g fb)) :
    PE X (.IfExp c ea eb pos) (tE G g fun r => M.bind (tc r) fun k => if k = true then fa r else fb r) := impPE (pe_ifExp hc ha hb) fun a H Q h => by
  obtain ⟨m, r, s, R, E, P⟩ := h
  refine ⟨m, r, s, R, E, P.bind.imp fun d m1 s1 H1 e1 r1 P1 v hv => ?_⟩
  subst hv
  cases v with
  | true => exact iteT ⟨m1, r, s1, r1, E.mono (e1.stay R), P1⟩
  | false => exact iteF ⟨m1, r, s1, r1, E.mono (e1.stay R), P1⟩
/-- a comparison's test: its value is a bool -/
theorem mt_cmp {op : CmpOp} {o : D → D → M D} (ho : OpR X (compareOp op) (r2 G o)) (ha : PE X ea (tE G g fa)) (hb : PE X eb (tE G g fb)) (hm : behindInMarks op eb = false)
    (hbl : ∀ x y s d s', o x y s = .ok d s' → ∃ k, d = .bl k) : PT X (.Compare ea [op] [eb] pos) (tB G g fun r => M.bind (M.bind (fa r) fun x => M.bind (fb r) fun y => o x y) tru) := impPT (pt_cmpR ho ha hb hm) fun a H Q h => by
  obtain ⟨m, r, s, R, E, P⟩ := h
  refine ⟨m, r, s, R, E, P.bind.bind.imp fun d m1 s1 H1 e1 r1 P1 v hv => ?_⟩
  refine ⟨m1, r, s1, r1, E.mono (e1.stay R), P1.bind.imp fun d2 m2 s2 H2 e2 r2 P2 u hu => ?_⟩
  have hbl' := hbl d d2 s2
  refine ⟨m2, s2, d, d2, wX G g.W a, r2, RV.mono (e2.stay r1) d v hv, hu, ?_⟩
  cases q : o d d2 s2 with
  | ok z s3 =>
    rw [q] at P2 hbl'
    obtain ⟨k, rfl⟩ := hbl' z s3 rfl
    intro m3 H3 e3 r3 w hw
    have hw' : w = .bl k := hw
    subst hw'
    refine ⟨k, rfl, ?_⟩
    have P3 := P2 m3 H3 e3 r3
    have P3 : Post G m3 s3 H3 (wX G g.W a) (EW.tru (.bl k) s3) _ := P3
    exact P3.ok r3 _ rfl
  | exc z s3 => rw [q] at P2; exact P2
  | no => rw [q] at P2; exact P2
end
end EW

set_option Elab.async false
set_option linter.all false
set_option maxRecDepth 100000
/-! M layer 6: names, displays, subscripts, fields, built-ins. -/
namespace EW
open PySem PySem.Spec PyProof.Rows L2

section
variable {G : Gb} {g : Pm} {X : Cx}
theorem slotV_cases (r : Env) (i : Nat) (s : Sto) : slotV r i s = .no ∨ ∃ d, r[i]? = some (.val d) ∧ slotV r i s = .ok d s := by
  unfold slotV
  split
  · rename_i d q
    exact .inr ⟨d, q, rfl⟩
  · exact .inl rfl
theorem me_var {i : Nat} {x : Str} {pos : Pos} (hN : X.N[i]? = some x) (hv : Vis X.env.scope x) (hd : (x == ("__debug__" : Str)) = false) (hcd : (x == ("__classdict__" : Str)) = false) :
    PE X (.Name x pos) (tE G g fun r => slotV r i) := impPE (pe_var hN hv hd hcd) fun a H Q h => by
  obtain ⟨m, r, s, R, E, P⟩ := h
  have P : Post G m s H (wX G g.W a) (slotV r i s) _ := P
  rcases slotV_cases r i s with q | ⟨d, q, q2⟩
  · rw [q] at P; exact P.elim
  · rw [q2] at P
    obtain ⟨v, h1, h2⟩ := E.val i d q
    exact ⟨v, h1, P.ok R v h2⟩
theorem me_const {e : Expr} {v : V} {d : D} (h : PE X e (tC v)) (hr : ∀ m n H, RV m n H v d) : PE X e (tE G g fun _ => M.pure d) := impPE h fun a H Q h => by
  obtain ⟨m, r, s, R, E, P⟩ := h
  exact P.ok R v (hr _ _ _)
theorem ml_nil : PA X [] (tL G g fun _ => M.pure []) := impPA pa_nil fun a H Q h => by
  obtain ⟨m, r, s, R, E, P⟩ := h
  exact P.ok R [] (by unfold RVs; rfl)
theorem ml_cons {e : Expr} {es : List Expr} {f : Env → M D} {fs : Env → M (List D)} (ha : PE X e (tE G g f)) (hr : PA X es (tL G g fs)) (hs : starEach (e :: es) X.env = (false, eval e X.env) :: starEach es X.env) :
    PA X (e :: es) (tL G g fun r => M.bind (f r) fun x => M.bind (fs r) fun xs => M.pure (x :: xs)) := impPA (pa_cons ha hr hs) fun a H Q h => by
  obtain ⟨m, r, s, R, E, P⟩ := h
  refine ⟨m, r, s, R, E, P.bind.imp fun d m1 s1 H1 e1 r1 P1 v hv => ?_⟩
  refine ⟨m1, r, s1, r1, E.mono (e1.stay R), P1.bind.imp fun d2 m2 s2 H2 e2 r2 P2 u hu => ?_⟩
  refine P2.ok r2 _ ?_
  unfold RVs
  exact ⟨v, u, rfl, RV.mono (e2.stay r1) d v hv, hu⟩
theorem me_neg {e : Expr} {f : Env → M D} {pos : Pos} (ha : PE X e (tE G g f)) : PE X (.UnaryOp .USub e pos) (tE G g fun r => M.bind (f r) neg) := impPE (pe_un un_neg ha) fun a H Q h => by
  obtain ⟨m, r, s, R, E, P⟩ := h
  refine ⟨m, r, s, R, E, P.bind.imp fun d m1 s1 H1 e1 r1 P1 v hv => ?_⟩
  unfold neg at P1
  cases d <;> dsimp only at P1 <;> first | exact P1.elim | skip
  exact ⟨_, hv, P1.ok r1 _ rfl⟩
/-- displays: the number of items is written -/
theorem me_tup {es : List Expr} {f : Env → M (List D)} {k : Nat} {pos : Pos} (h : PA X es (tL G g f)) (hl : ∀ r s ds s', f r s = .ok ds s' → ds.length ≤ sizeLine) : PE X (.Tuple es k pos) (tE G g fun r => M.bind (f r) fun xs => M.pure (.tup xs)) := impPE (pe_tup h) fun a H Q h => by
  obtain ⟨m, r, s, R, E, P⟩ := h
  refine ⟨m, r, s, R, E, ?_⟩
  have hl' := hl r s
  have P := P.bind
  cases q : f r s with
  | no => rw [q] at P; exact P
  | exc x s1 => rw [q] at P; exact P
  | ok ds s1 =>
    rw [q] at P hl'
    intro m1 H1 e1 r1 vs hv
    have P1 := P m1 H1 e1 r1
    refine ⟨by rw [hv.len]; exact hl' ds s1 rfl, fun p hp => ?_⟩
    obtain ⟨r2, e2, h2⟩ := r1.tup hp hv (by rw [hv.len]; exact hl' ds s1 rfl)
    exact P1.ok1 e2 r2 _ h2
theorem me_lst {es : List Expr} {f : Env → M (List D)} {pos : Pos} (h : PA X es (tL G g f)) (hl : ∀ r s ds s', f r s = .ok ds s' → ds.length ≤ sizeLine) : PE X (.List es pos) (tE G g fun r => M.bind (f r) fun xs => newO (.lst xs)) := impPE (pe_lst h) fun a H Q h => by
  obtain ⟨m, r, s, R, E, P⟩ := h
  refine ⟨m, r, s, R, E, ?_⟩
  have hl' := hl r s
  have P := P.bind
  cases q : f r s with
  | no => rw [q] at P; exact P
  | exc x s1 => rw [q] at P; exact P
  | ok ds s1 =>
    rw [q] at P hl'
    intro m1 H1 e1 r1 vs hv
    have P1 := P m1 H1 e1 r1
    refine ⟨by rw [hv.len]; exact hl' ds s1 rfl, fun p hp => ?_⟩
    obtain ⟨m2, r2, e2, h2⟩ := r1.lst hp hv (by rw [hv.len]; exact hl' ds s1 rfl)
    exact P1.ok1 e2 r2 _ h2
theorem me_chn {op op' : CmpOp} {o o' : D → D → M D} {ea eb ec : Expr} {fa fb fc : Env → M D} {pos : Pos} (ho : OpR X (compareOp op) (r2 G o)) (ho' : OpR X (compareOp op') (r2 G o')) (ha : PE X ea (tE G g fa)) (hb : PE X eb (tE G g fb)) (hc : PE X ec (tE G g fc))
    (hm : lastMarks [op, op'] [eb, ec] = false) :
    PE X (.Compare ea [op, op'] [eb, ec] pos) (tE G g fun r => M.bind (fa r) fun x => M.bind (fb r) fun y => M.bind (o x y) fun k => match k with
      | .bl true => M.bind (fc r) fun z => o' y z
      | .bl false => M.pure (.bl false)
      | _ => M.stuck) := impPE (pe_chain ho ho' ha hb hc hm) fun a H Q h => by
  obtain ⟨m, r, s, R, E, P⟩ := h
  refine ⟨m, r, s, R, E, P.bind.imp fun d m1 s1 H1 e1 r1 P1 v hv => ?_⟩
  refine ⟨m1, r, s1, r1, E.mono (e1.stay R), P1.bind.imp fun d2 m2 s2 H2 e2 r2 P2 u hu => ?_⟩
  refine ⟨m2, s2, d, d2, wX G g.W a, r2, RV.mono (e2.stay r1) d v hv, hu, P2.bind.imp fun k m3 s3 H3 e3 r3 P3 z hz => ?_⟩
  obtain ⟨k, rfl⟩ : ∃ b, k = .bl b := by
    cases k <;> first | exact ⟨_, rfl⟩ | exact False.elim P3
  refine ⟨k, hz, ?_⟩
  cases k with
  | false => exact iteF (P3.ok r3 _ rfl)
  | true =>
    refine iteT ⟨m3, r, s3, r3, ((E.mono (e1.stay R)).mono (e2.stay r1)).mono (e3.stay r2), P3.bind.imp fun d4 m4 s4 H4 e4 r4 P4 w hw => ?_⟩
    exact ⟨m4, s4, d2, d4, _, r4, RV.mono (e4.stay r3) d2 u (RV.mono (e3.stay r2) d2 u hu), hw, P4⟩
end

/-! ### subscripts -/
section
variable {G : Gb} {g : Pm} {X : Cx}
theorem atI_rel {m : Mp} {n : Nat} {H : Hp} {vs : List V} {ds : List D} {j : Int} {d : D} (h : RVs m n H vs ds) (e : atI ds j = some d) : ∃ v, atI vs j = some v ∧ RV m n H v d := by
  unfold atI at e ⊢
  rw [h.len]
  cases q : L2.ixN ds.length j with
  | none => rw [q] at e; cases e
  | some i =>
    rw [q] at e
    obtain ⟨v, h1, h2⟩ := h.at_ (i := i) (d := d) e
    exact ⟨v, h1, h2⟩
theorem ix_item (hK : X.K = G.K) : IxR X (r2 G item) := by
  intro ea eb pins sh σ H x y v u Q I rx ry ⟨m, s, da, db, Xp, R, h1, h2, P⟩ hs
  unfold item at P
  cases da <;> (try dsimp only at P) <;> first | exact P.elim | skip
  case str z =>
    cases db <;> (try dsimp only at P) <;> first | exact P.elim | skip
    rename_i j
    obtain ⟨c, P⟩ := Post.ite P
    split at P
    · rename_i cc e
      exact ix_str ea eb pins sh σ H x y v u Q I rx ry ⟨strOf z, j, cc, h1, h2, by simpa [strOf, Str.length] using c, e, P.ok R _ rfl⟩ hs
    · exact P.elim
  case tup ds =>
    cases db <;> (try dsimp only at P) <;> first | exact P.elim | skip
    rename_i j
    unfold RV at h1 h2
    obtain ⟨p, vs, rfl, q1, q2, q3⟩ := h1
    split at P
    · rename_i d e
      obtain ⟨w, e1, e2⟩ := atI_rel q3 e
      exact ix_tup ea eb pins sh σ H _ y v u Q I rx ry ⟨p, vs, j, w, rfl, h2, .of q1, e1, P.ok R w e2⟩ hs
    · exact P.elim
  case ref i =>
    unfold RV at h1
    obtain ⟨_, rfl⟩ := h1
    have go : ∀ xs, lstAt s i = some xs → (∃ j, db = .int j ∧ ∃ d, atI xs j = some d ∧ Post G m s H Xp (.ok d s) (fun d m' s' H' => ∀ v, RV m' s'.length H' v d → Q v H')) → wpAny (model X.prog X.w) X.A (subscriptTail ea eb v u) (EP X pins σ Q) X.xe sh := fun xs hx ⟨j, e, d, e2, P'⟩ => by
      subst e
      obtain ⟨vs, q1, q2, _⟩ := R.lstAt hx
      obtain ⟨w, e3, e4⟩ := atI_rel q2 e2
      exact ix_list ea eb pins sh σ H _ y v u Q I rx ry ⟨m i, vs, j, w, rfl, h2, by rw [hK]; exact q1, e3, P'.ok R w e4⟩ hs
    split at P
    · rename_i xs q
      refine go xs (by unfold lstAt; rw [q]) ?_
      cases db <;> (try dsimp only at P) <;> first | exact P.elim | skip
      split at P
      · rename_i d e
        exact ⟨_, rfl, d, e, P⟩
      · exact P.elim
    · rename_i xs q
      refine go xs (by unfold lstAt; rw [q]) ?_
      cases db <;> (try dsimp only at P) <;> first | exact P.elim | skip
      split at P
      · rename_i d e
        exact ⟨_, rfl, d, e, P⟩
      · exact P.elim
    · exact P.elim
theorem me_ix {ea eb : Expr} {fa fb : Env → M D} {pos : Pos} (hK : X.K = G.K) (ha : PE X ea (tE G g fa)) (hb : PE X eb (tE G g fb)) (hs : PlainIx eb) :
    PE X (.Subscript ea eb pos) (tE G g fun r => M.bind (fa r) fun x => M.bind (fb r) fun y => item x y) := impPE (pe_ix (ix_item hK) ha hb hs) fun a H Q h => by
  obtain ⟨m, r, s, R, E, P⟩ := h
  refine ⟨m, r, s, R, E, P.bind.imp fun d m1 s1 H1 e1 r1 P1 v hv => ?_⟩
  refine ⟨m1, r, s1, r1, E.mono (e1.stay R), P1.bind.imp fun d2 m2 s2 H2 e2 r2 P2 u hu => ?_⟩
  exact ⟨m2, s2, d, d2, _, r2, RV.mono (e2.stay r1) d v hv, hu, P2⟩
end

/-! ### slices -/
section
variable {G : Gb} {g : Pm} {X : Cx}
abbrev tO (G : Gb) (g : Pm) (f : Env → M (Option Int)) : TO := tG G g (fun _ _ _ v d => v = d) f
theorem mo_none : PO X none (tO G g fun _ => M.pure none) := ⟨fun pins s a H Q I h => po_none.run pins s a H Q I (by
  obtain ⟨m, r, st, R, E, P⟩ := h
  exact P.ok R none rfl)⟩
theorem mo_some {e : Expr} {fe : Env → M D} (he : PE X e (tE G g fe)) : PO X (some e) (tO G g fun r => M.bind (fe r) intO) := ⟨fun pins s a H Q I h => (po_some he).run pins s a H Q I (by
  obtain ⟨m, r, st, R, E, P⟩ := h
  refine ⟨m, r, st, R, E, P.bind.imp fun d m1 s1 H1 e1 r1 P1 v hv => ?_⟩
  unfold intO at P1
  cases d <;> dsimp only at P1 <;> first | exact P1.elim | skip
  exact ⟨_, hv, P1.ok r1 _ rfl⟩)⟩
theorem RVs.drop {m : Mp} {n : Nat} {H : Hp} : ∀ (k : Nat) {vs : List V} {ds : List D}, RVs m n H vs ds → RVs m n H (vs.drop k) (ds.drop k)
  | 0, _, _, h => h
  | k + 1, vs, [], h => by
    unfold RVs at h
    subst h
    show RVs m n H [] []
    unfold RVs; rfl
  | k + 1, vs, d :: ds, h => by
    unfold RVs at h
    obtain ⟨v, r, rfl, _, h2⟩ := h
    exact RVs.drop k h2
theorem RVs.take {m : Mp} {n : Nat} {H : Hp} : ∀ (k : Nat) {vs : List V} {ds : List D}, RVs m n H vs ds → RVs m n H (vs.take k) (ds.take k)
  | 0, vs, ds, h => by
    show RVs m n H [] []
    unfold RVs; rfl
  | k + 1, vs, [], h => by
    unfold RVs at h
    subst h
    show RVs m n H [] []
    unfold RVs; rfl
  | k + 1, vs, d :: ds, h => by
    unfold RVs at h
    obtain ⟨v, r, rfl, h1, h2⟩ := h
    show RVs m n H (v :: r.take k) (d :: ds.take k)
    unfold RVs
    exact ⟨v, _, rfl, h1, RVs.take k h2⟩
theorem RVs.cut {m : Mp} {n : Nat} {H : Hp} {vs : List V} {ds : List D} (h : RVs m n H vs ds) (lo hi : Option Int) : RVs m n H (cutV vs lo hi) (cutL ds lo hi) := by
  unfold cutV cutL
  rw [h.len]
  exact (h.drop _).take _
theorem cut_all {α : Type} {xs : List α} {lo hi : Option Int} (h : HT.sIx xs.length 0 lo = 0 ∧ HT.sIx xs.length xs.length hi = xs.length) : cutL xs lo hi = xs := by
  unfold cutL
  rw [h.1, h.2]
  simp
def rSl (G : Gb) : V → Option Int → Option Int → Hp → VK → Prop := fun x lo hi H Q => ∃ m s d Xp, Rel G m s H ∧ RV m s.length H x d ∧ Post G m s H Xp (sliceD d lo hi s) (fun d m' s' H' => ∀ v, RV m' s'.length H' v d → Q v H')
theorem sl_any (hK : X.K = G.K) : SlR X (rSl G) := by
  intro pins sh σ H x v vl vu lo hi sl Q I rx hs pl pu ⟨m, s, d, Xp, R, h1, P⟩
  unfold sliceD at P
  cases d <;> (try dsimp only at P) <;> first | exact P.elim | skip
  case str z =>
    obtain ⟨c, P⟩ := Post.ite P
    refine sl_str pins sh σ H x v vl vu lo hi sl Q I rx hs pl pu ⟨strOf z, h1, by simpa [strOf, Str.length] using c, P.ok R _ ?_⟩
    show V.str _ = V.str _
    simp [strOf, cutS, cutL, Str.length]
  case tup ds =>
    have h0 := h1
    unfold RV at h1
    obtain ⟨a, vs, rfl, q1, q2, q3⟩ := h1
    refine sl_tupA pins sh σ H _ v vl vu lo hi sl Q I rx hs pl pu ⟨a, vs, rfl, .of q1, fun hw => ?_, fun hw p hp => ?_⟩
    · rw [q3.len] at hw
      rw [cut_all hw] at P
      exact P.ok R _ h0
    · obtain ⟨r1, e1, h⟩ := R.tup hp (q3.cut lo hi) (Nat.le_trans (cutV_length _ _ _) q2)
      exact P.ok1 e1 r1 _ h
  case ref i =>
    unfold RV at h1
    obtain ⟨_, rfl⟩ := h1
    split at P
    · rename_i xs hx
      obtain ⟨vs, q1, q2, z⟩ := R.lstAt hx
      refine sl_list pins sh σ H _ v vl vu lo hi sl Q I rx hs pl pu ⟨m i, vs, rfl, by rw [hK]; exact q1, fun p hp => ?_⟩
      obtain ⟨m', r1, e1, h⟩ := R.lst hp (q2.cut lo hi) (Nat.le_trans (cutV_length _ _ _) (by rw [q2.len]; exact z))
      exact P.ok1 e1 r1 _ h
    · exact P.elim
theorem me_slc {e : Expr} {lo hi : Option Expr} {fe : Env → M D} {fl fh : Env → M (Option Int)} {p2 pos : Pos} (hK : X.K = G.K) (he : PE X e (tE G g fe)) (hl : PO X lo (tO G g fl)) (hh : PO X hi (tO G g fh)) :
    PE X (.Subscript e (.Slice lo hi none p2) pos) (tE G g fun r => M.bind (fe r) fun x => M.bind (fl r) fun l => M.bind (fh r) fun u => sliceD x l u) := impPE (pe_slice (sl_any hK) he hl hh) fun a H Q h => by
  obtain ⟨m, r, s, R, E, P⟩ := h
  refine ⟨m, r, s, R, E, P.bind.imp fun d m1 s1 H1 e1 r1 P1 v hv => ?_⟩
  refine ⟨m1, r, s1, r1, E.mono (e1.stay R), P1.bind.imp fun l m2 s2 H2 e2 r2 P2 l' hl' => ?_⟩
  subst hl'
  refine ⟨m2, r, s2, r2, E.mono ((e1.trans e2).stay R), P2.bind.imp fun u m3 s3 H3 e3 r3 P3 u' hu' => ?_⟩
  subst hu'
  exact ⟨m3, s3, d, _, r3, RV.mono ((e2.trans e3).stay r1) d v hv, P3⟩
end
end EW

set_option Elab.async false
set_option linter.all false
set_option maxRecDepth 100000
/-! M layer 7: fields, built-in functions, isinstance. -/
namespace EW
open PySem PySem.Spec PyProof.Rows L2

/-- what the classes say of fields -/
structure FOk (G : Gb) : Prop where
  cls : ∀ c f, G.Q.flds c f = true → Cls G.K (G.cA c) ∧ NoAttr G.K (G.cA c) (G.fN f)
  inj : ∀ c f f', G.Q.flds c f = true → G.Q.flds c f' = true → G.fN f = G.fN f' → f = f'
section
variable {G : Gb} {g : Pm} {X : Cx}
theorem FR.look {fN : Nat → Str} {m : Mp} {n : Nat} {H : Hp} {f : Nat} {d : D} : ∀ {fs : List (Nat × D)} {vs : List (Str × V)}, FR fN m n H vs fs → (∀ p ∈ fs, fN p.1 = fN f → p.1 = f) → fs.lookup f = some d →
    ∃ v, vs.lookup (fN f) = some v ∧ RV m n H v d
  | [], vs, h, _, e => by cases e
  | p :: r, vs, h, i, e => by
    unfold FR at h
    obtain ⟨v, w, rfl, h1, h2⟩ := h
    obtain ⟨k, x⟩ := p
    rw [List.lookup_cons] at e ⊢
    by_cases q : f = k
    · subst q
      simp only [beq_self_eq_true] at e ⊢
      cases e
      exact ⟨v, rfl, h1⟩
    · have q1 : (f == k) = false := by simpa using q
      have q2 : (fN f == fN k) = false := by
        have : fN f ≠ fN k := fun z => q (i (k, x) List.mem_cons_self z.symm).symm
        simpa using this
      rw [q1] at e
      rw [q2]
      exact FR.look h2 (fun p hp => i p (List.mem_cons_of_mem _ hp)) e
theorem me_fld {e : Expr} {f : Nat} {fe : Env → M D} {pos : Pos} (F : FOk G) (hK : X.K = G.K) (he : PE X e (tE G g fe)) (hb : attributeBase e (G.fN f) X.env (eval e X.env) = eval e X.env) :
    PE X (.Attribute e (G.fN f) pos) (tE G g fun r => M.bind (fe r) fun x => getF G.Q x f) := impPE (pe_fld he hb) fun a H Q h => by
  obtain ⟨m, r, s, R, E, P⟩ := h
  refine ⟨m, r, s, R, E, P.bind.imp fun d m1 s1 H1 e1 r1 P1 v hv => ?_⟩
  unfold getF at P1
  cases d <;> (try dsimp only at P1) <;> first | exact P1.elim | skip
  rename_i i
  unfold RV at hv
  obtain ⟨_, rfl⟩ := hv
  split at P1
  · rename_i c fs q
    split at P1
    · rename_i hf
      split at P1
      · rename_i d hd
        obtain ⟨z, dx, vs, h1, h2⟩ := r1.obs i _ q
        obtain ⟨v, e2, e3⟩ := h2.look (fun p hp q => F.inj c _ _ (z p hp) hf q) hd
        obtain ⟨c1, c2⟩ := F.cls c f hf
        exact ⟨m1 i, G.cA c, dx, vs, v, rfl, h1, by rw [hK]; exact c1, by rw [hK]; exact c2, e2, P1.ok r1 v e3⟩
      · exact P1.elim
    · exact P1.elim
  · exact P1.elim

/-! ### built-ins by name -/
/-- by values: a call -/
def rC (G : Gb) (f : List D → M D) : List V → Hp → VK → Prop := fun xs H Q => ∃ m s ds Xp, Rel G m s H ∧ RVs m s.length H xs ds ∧ Post G m s H Xp (f ds s) (fun d m' s' H' => ∀ v, RV m' s'.length H' v d → Q v H')
theorem impC {f : Value} {r r' : List V → Hp → VK → Prop} (h : CallR X f r) (k : ∀ xs H Q, r' xs H Q → r xs H Q) : CallR X f r' :=
  fun pins s a H xs us Q I rs q => h pins s a H xs us Q I rs (k xs H Q q)
theorem rC_by {f : Value} {o : List D → M D} (h : ∀ ds, CallR X f (fun xs H Q => ∃ m s Xp, Rel G m s H ∧ RVs m s.length H xs ds ∧ Post G m s H Xp (o ds s) (fun d m' s' H' => ∀ v, RV m' s'.length H' v d → Q v H'))) : CallR X f (rC G o) :=
  fun pins s a H xs us Q I rs ⟨m, s', ds, Xp, R, h1, P⟩ => h ds pins s a H xs us Q I rs ⟨m, s', Xp, R, h1, P⟩
theorem rC_no {f : Value} {r : List V → Hp → VK → Prop} (h : ∀ xs H Q, ¬ r xs H Q) : CallR X f r := fun pins s a H xs us Q I rs q => absurd q (h _ _ _)
theorem RVs.one_inv {m : Mp} {n : Nat} {H : Hp} {xs : List V} {d : D} (h : RVs m n H xs [d]) : ∃ v, xs = [v] ∧ RV m n H v d := by
  unfold RVs at h
  obtain ⟨v, r, rfl, h1, h2⟩ := h
  unfold RVs at h2
  subst h2
  exact ⟨v, rfl, h1⟩
theorem RVs.two_inv {m : Mp} {n : Nat} {H : Hp} {xs : List V} {d e : D} (h : RVs m n H xs [d, e]) : ∃ v w, xs = [v, w] ∧ RV m n H v d ∧ RV m n H w e := by
  unfold RVs at h
  obtain ⟨v, r, rfl, h1, h2⟩ := h
  obtain ⟨w, rfl, h3⟩ := h2.one_inv
  exact ⟨v, w, rfl, h1, h3⟩
theorem me_callB {x : Str} {p pos : Pos} {e : Expr} {es : List Expr} {id : String} {f : Env → M (List D)} {o : List D → M D} (hc : CallR X (.builtin id) (rC G o)) (hg : Gl X x) (hm : X.mg x = none) (hv : bootBuiltins x = some (.builtin id)) (ha : PA X (e :: es) (tL G g f))
    (hn : x ≠ "__name__") (hdb : (x == ("__debug__" : Str)) = false) (he : starEach (e :: es) X.env = (false, eval e X.env) :: starEach es X.env) (hpl : (backTo pos (starEach es X.env)).any (·.1) = false) :
    PE X (.Call (.Name x p) (e :: es) [] pos) (tE G g fun r => M.bind (f r) o) := impPE (pe_callB hc hg hm hv ha hn hdb he hpl) fun a H Q h => by
  obtain ⟨m, r, s, R, E, P⟩ := h
  exact ⟨m, r, s, R, E, P.bind.imp fun d m1 s1 H1 e1 r1 P1 v hv => ⟨m1, s1, d, _, r1, hv, P1⟩⟩
theorem me_callTy {x : Str} {p pos : Pos} {e : Expr} {es : List Expr} {T : String} {f : Env → M (List D)} {o : List D → M D} (hc : CallR X (.type T) (rC G o)) (hg : Gl X x) (hm : X.mg x = none) (hv : bootBuiltins x = some (.type T)) (ha : PA X (e :: es) (tL G g f))
    (hn : x ≠ "__name__") (hdb : (x == ("__debug__" : Str)) = false) (he : starEach (e :: es) X.env = (false, eval e X.env) :: starEach es X.env) (hpl : (backTo pos (starEach es X.env)).any (·.1) = false) :
    PE X (.Call (.Name x p) (e :: es) [] pos) (tE G g fun r => M.bind (f r) o) := impPE (pe_callTy hc hg hm hv ha hn hdb he hpl) fun a H Q h => by
  obtain ⟨m, r, s, R, E, P⟩ := h
  exact ⟨m, r, s, R, E, P.bind.imp fun d m1 s1 H1 e1 r1 P1 v hv => ⟨m1, s1, d, _, r1, hv, P1⟩⟩

theorem rC_b1 {f : Value} {o : D → M D} (h : ∀ d, CallR X f (fun xs H Q => ∃ m s Xp v, xs = [v] ∧ Rel G m s H ∧ RV m s.length H v d ∧ Post G m s H Xp (o d s) (fun d m' s' H' => ∀ v, RV m' s'.length H' v d → Q v H'))) : CallR X f (rC G (b1 o)) := rC_by fun ds => by
  rcases ds with _ | ⟨d, _ | ⟨d2, ds⟩⟩
  · exact rC_no fun xs H Q ⟨m, s, Xp, R, h1, P⟩ => False.elim P
  · refine impC (h d) fun xs H Q ⟨m, s, Xp, R, h1, P⟩ => ?_
    obtain ⟨v, rfl, hv⟩ := h1.one_inv
    exact ⟨m, s, Xp, v, rfl, R, hv, P⟩
  · exact rC_no fun xs H Q ⟨m, s, Xp, R, h1, P⟩ => False.elim P
theorem rC_b2 {f : Value} {o : D → D → M D} (h : ∀ d e, CallR X f (fun xs H Q => ∃ m s Xp v w, xs = [v, w] ∧ Rel G m s H ∧ RV m s.length H v d ∧ RV m s.length H w e ∧ Post G m s H Xp (o d e s) (fun d m' s' H' => ∀ v, RV m' s'.length H' v d → Q v H'))) : CallR X f (rC G (b2 o)) := rC_by fun ds => by
  rcases ds with _ | ⟨d, _ | ⟨e, _ | ⟨d3, ds⟩⟩⟩
  · exact rC_no fun xs H Q ⟨m, s, Xp, R, h1, P⟩ => False.elim P
  · exact rC_no fun xs H Q ⟨m, s, Xp, R, h1, P⟩ => False.elim P
  · refine impC (h d e) fun xs H Q ⟨m, s, Xp, R, h1, P⟩ => ?_
    obtain ⟨v, w, rfl, hv, hw⟩ := h1.two_inv
    exact ⟨m, s, Xp, v, w, rfl, R, hv, hw, P⟩
  · exact rC_no fun xs H Q ⟨m, s, Xp, R, h1, P⟩ => False.elim P
theorem bi_len (hK : X.K = G.K) : CallR X (.builtin "len") (rC G (b1 lenD)) := rC_b1 fun d => impC call_len fun xs H Q h => by
  obtain ⟨m, s, Xp, v, e, R, hv, P⟩ := h
  rw [hK]
  subst e
  unfold lenD at P
  cases d <;> (try dsimp only at P) <;> first | exact P.elim | skip
  case str y =>
    obtain ⟨c, P⟩ := Post.ite P
    refine ⟨v, y.length, rfl, ?_, P.ok R _ rfl⟩
    unfold RV at hv
    subst hv
    exact ⟨by simpa [strOf, Str.length] using c, by simp [strOf, Str.length]⟩
  case tup ds =>
    unfold RV at hv
    obtain ⟨p, vs, rfl, q1, q2, q3⟩ := hv
    exact ⟨.ref p, ds.length, rfl, .inr ⟨vs, .of q1, by rw [q3.len]⟩, P.ok R _ rfl⟩
  case ref i =>
    unfold RV at hv
    obtain ⟨_, rfl⟩ := hv
    split at P
    · rename_i xs hx
      obtain ⟨vs, q1, q2, _⟩ := R.lstAt hx
      exact ⟨.ref (m i), xs.length, rfl, .inl ⟨vs, q1, by rw [q2.len]⟩, P.ok R _ rfl⟩
    · exact P.elim
theorem bi_abs : CallR X (.builtin "abs") (rC G (b1 absD)) := rC_b1 fun d => impC call_abs fun xs H Q h => by
  obtain ⟨m, s, Xp, v, e, R, hv, P⟩ := h
  subst e
  unfold absD at P
  cases d <;> (try dsimp only at P) <;> first | exact P.elim | skip
  unfold RV at hv
  subst hv
  exact ⟨_, rfl, P.ok R _ rfl⟩
theorem CallR.or {f : Value} {r r' : List V → Hp → VK → Prop} (h : CallR X f r) (h' : CallR X f r') : CallR X f (fun xs H Q => r xs H Q ∨ r' xs H Q) :=
  fun pins s a H xs us Q I rs q => q.elim (fun q => h pins s a H xs us Q I rs q) (fun q => h' pins s a H xs us Q I rs q)
theorem len_strOf (x : List Nat) : (strOf x).length = x.length := by simp [strOf, Str.length]
theorem bi_int : CallR X (.type "int") (rC G (b1 intD)) := rC_b1 fun d => impC (CallR.or call_int1 call_int_str) fun xs H Q h => by
  obtain ⟨m, s, Xp, v, e, R, hv, P⟩ := h
  subst e
  unfold intD at P
  cases d <;> (try dsimp only at P) <;> first | exact P.elim | skip
  · unfold RV at hv
    subst hv
    exact .inl (.inr ⟨_, rfl, P.ok R _ rfl⟩)
  · unfold RV at hv
    subst hv
    exact .inl (.inl ⟨_, rfl, P.ok R _ rfl⟩)
  · unfold RV at hv
    subst hv
    split at P
    · rename_i n q
      obtain ⟨c, P⟩ := Post.ite P
      exact .inr ⟨_, n, rfl, q, by rw [len_strOf]; exact c, P.ok R _ rfl⟩
    · exact P.elim
/-! ### texts -/
theorem str_sInt (i : Int) : Str.ofString (toString i) = strOf (sInt i) := TL.ext_tl (by
  show TL.tl (Str.ofString (toString i)) = sInt i
  unfold sInt
  by_cases h : i < 0
  · rw [if_pos h]
    obtain ⟨n, rfl⟩ : ∃ n : Nat, i = Int.negSucc n := by
      cases i with
      | ofNat n => exact absurd h (by simp)
      | negSucc n => exact ⟨n, rfl⟩
    have e : toString (Int.negSucc n) = "-" ++ toString ((n + 1 : Nat) : Int) := rfl
    rw [e, TL.tl_ofString, String.toList_append, List.map_append, ← TL.tl_ofString (toString ((n + 1 : Nat) : Int)), TL.tl_num]
    rfl
  · rw [if_neg h]
    obtain ⟨n, rfl⟩ := Int.eq_ofNat_of_zero_le (Int.not_lt.mp h)
    exact TL.tl_num n)
theorem bi_str : CallR X (.type "str") (rC G (b1 strD)) := rC_b1 fun d => impC call_str_int fun xs H Q h => by
  obtain ⟨m, s, Xp, v, e, R, hv, P⟩ := h
  subst e
  unfold strD at P
  cases d <;> (try dsimp only at P) <;> first | exact P.elim | skip
  unfold RV at hv
  subst hv
  obtain ⟨c, P⟩ := Post.ite P
  exact ⟨_, rfl, c, P.ok R _ (by unfold RV; rw [← str_sInt])⟩
theorem txts_of {m : Mp} {n : Nat} {H : Hp} : ∀ {ds : List D} {xs : List (List Nat)} {vs : List V}, omap txtOf ds = some xs → RVs m n H vs ds → vs = (xs.map strOf).map V.str
  | [], xs, vs, e, h => by cases e; unfold RVs at h; exact h
  | d :: ds, xs, vs, e, h => by
    unfold RVs at h
    obtain ⟨v, r, rfl, h1, h2⟩ := h
    unfold omap at e
    cases q : txtOf d with
    | none => rw [q] at e; cases e
    | some b =>
      rw [q] at e
      cases q2 : omap txtOf ds with
      | none => rw [q2] at e; cases e
      | some cs =>
        rw [q2] at e
        cases e
        rw [txts_of q2 h2]
        cases d <;> first | cases q | skip
        unfold RV at h1
        subst h1
        rfl
theorem me_fmt {e : Expr} {fe : Env → M D} {pos : Pos} (he : PE X e (tE G g fe)) : PE X (.FormattedValue e (-1) none pos) (tE G g fun r => M.bind (fe r) fmtD) := impPE (pe_fmt he) fun a H Q h => by
  obtain ⟨m, r, s, R, E, P⟩ := h
  refine ⟨m, r, s, R, E, P.bind.imp fun d m1 s1 H1 e1 r1 P1 v hv => ?_⟩
  unfold fmtD at P1
  cases d <;> (try dsimp only at P1) <;> first | exact P1.elim | skip
  · unfold RV at hv
    subst hv
    obtain ⟨c, P1⟩ := Post.ite P1
    exact .inr ⟨_, rfl, c, P1.ok r1 _ (by unfold RV; rw [← str_sInt])⟩
  · unfold RV at hv
    subst hv
    obtain ⟨c, P1⟩ := Post.ite P1
    exact .inl ⟨_, rfl, by rw [len_strOf]; exact c, P1.ok r1 _ rfl⟩
theorem bi_min2 (hc : X.calm = true) : CallR X (.builtin "min") (rC G (b2 minD)) := rC_b2 fun d e => impC (call_min2 hc) fun xs H Q h => by
  obtain ⟨m, s, Xp, v, w, e, R, hv, hw, P⟩ := h
  subst e
  unfold minD at P
  cases d <;> cases e <;> (try dsimp only at P) <;> first | exact P.elim | skip
  unfold RV at hv hw
  subst hv hw
  exact ⟨_, _, rfl, P.ok R _ rfl⟩
theorem bi_max2 (hc : X.calm = true) : CallR X (.builtin "max") (rC G (b2 maxD)) := rC_b2 fun d e => impC (call_max2 hc) fun xs H Q h => by
  obtain ⟨m, s, Xp, v, w, e, R, hv, hw, P⟩ := h
  subst e
  unfold maxD at P
  cases d <;> cases e <;> (try dsimp only at P) <;> first | exact P.elim | skip
  unfold RV at hv hw
  subst hv hw
  exact ⟨_, _, rfl, P.ok R _ rfl⟩
theorem bls_of {m : Mp} {n : Nat} {H : Hp} : ∀ {ds : List D} {bs : List Bool} {vs : List V}, omap blOf ds = some bs → RVs m n H vs ds → vs = bs.map V.bl
  | [], bs, vs, e, h => by cases e; unfold RVs at h; exact h
  | d :: ds, bs, vs, e, h => by
    unfold RVs at h
    obtain ⟨v, r, rfl, h1, h2⟩ := h
    unfold omap at e
    cases q : blOf d with
    | none => rw [q] at e; cases e
    | some b =>
      rw [q] at e
      cases q2 : omap blOf ds with
      | none => rw [q2] at e; cases e
      | some cs =>
        rw [q2] at e
        cases e
        rw [bls_of q2 h2]
        cases d <;> first | cases q | skip
        unfold RV at h1
        subst h1
        rfl
theorem bi_all (hK : X.K = G.K) (hc : X.calm = true) : CallR X (.builtin "all") (rC G (b1 allD)) := rC_b1 fun d => impC (cr_all hc) fun xs H Q h => by
  obtain ⟨m, s, Xp, v, e, R, hv, P⟩ := h
  subst e
  unfold allD at P
  cases d <;> (try dsimp only at P) <;> first | exact P.elim | skip
  unfold RV at hv
  obtain ⟨_, rfl⟩ := hv
  split at P
  · rename_i xs hx
    split at P
    · rename_i bs hb
      obtain ⟨vs, q1, q2, _⟩ := R.lstAt hx
      rw [bls_of hb q2] at q1
      exact ⟨_, bs, rfl, by rw [hK]; exact q1, P.ok R _ rfl⟩
    · exact P.elim
  · exact P.elim
theorem bi_any (hK : X.K = G.K) (hc : X.calm = true) : CallR X (.builtin "any") (rC G (b1 anyD)) := rC_b1 fun d => impC (cr_any hc) fun xs H Q h => by
  obtain ⟨m, s, Xp, v, e, R, hv, P⟩ := h
  subst e
  unfold anyD at P
  cases d <;> (try dsimp only at P) <;> first | exact P.elim | skip
  unfold RV at hv
  obtain ⟨_, rfl⟩ := hv
  split at P
  · rename_i xs hx
    split at P
    · rename_i bs hb
      obtain ⟨vs, q1, q2, _⟩ := R.lstAt hx
      rw [bls_of hb q2] at q1
      exact ⟨_, bs, rfl, by rw [hK]; exact q1, P.ok R _ rfl⟩
    · exact P.elim
  · exact P.elim
theorem bi_lst (hK : X.K = G.K) : CallR X (.type "list") (rC G (b1 lstD)) := rC_b1 fun d => impC call_list_of fun xs H Q h => by
  obtain ⟨m, s, Xp, v, e, R, hv, P⟩ := h
  subst e
  rw [hK]
  unfold lstD at P
  cases d <;> (try dsimp only at P) <;> first | exact P.elim | skip
  case tup ds =>
    unfold RV at hv
    obtain ⟨p, vs, rfl, q1, q2, q3⟩ := hv
    refine ⟨p, vs, rfl, .inr (.of q1), fun l hl => ?_⟩
    obtain ⟨m', r1, e1, h⟩ := R.lst hl q3 q2
    exact P.ok1 e1 r1 _ h
  case ref i =>
    unfold RV at hv
    obtain ⟨_, rfl⟩ := hv
    split at P
    · rename_i xs hx
      obtain ⟨vs, q1, q2, z⟩ := R.lstAt hx
      refine ⟨m i, vs, rfl, .inl q1, fun l hl => ?_⟩
      obtain ⟨m', r1, e1, h⟩ := R.lst hl q2 (by rw [q2.len]; exact z)
      exact P.ok1 e1 r1 _ h
    · exact P.elim
theorem bi_tup (hK : X.K = G.K) : CallR X (.type "tuple") (rC G (b1 tupD)) := rC_b1 fun d => impC call_tuple_of fun xs H Q h => by
  obtain ⟨m, s, Xp, v, e, R, hv, P⟩ := h
  subst e
  rw [hK]
  unfold tupD at P
  cases d <;> (try dsimp only at P) <;> first | exact P.elim | skip
  case tup ds =>
    have hv0 := hv
    unfold RV at hv
    obtain ⟨p, vs, rfl, q1, q2, q3⟩ := hv
    exact ⟨p, vs, rfl, .inr ⟨.of q1, P.ok R _ hv0⟩⟩
  case ref i =>
    unfold RV at hv
    obtain ⟨_, rfl⟩ := hv
    split at P
    · rename_i xs hx
      obtain ⟨vs, q1, q2, z⟩ := R.lstAt hx
      refine ⟨m i, vs, rfl, .inl ⟨q1, fun l hl => ?_⟩⟩
      obtain ⟨r1, e1, h⟩ := R.tup hl q2 (by rw [q2.len]; exact z)
      exact P.ok1 e1 r1 _ h
    · exact P.elim

/-! ### isinstance, built-in types -/
def tyN : Ty → String
  | .int => "int" | .bool => "bool" | .str => "str" | .tup => "tuple" | .lst => "list" | .dic => "dict" | .cls _ => ""
def tyB : Ty → Bool
  | .cls _ => false
  | _ => true
theorem kit_tab (t : Ty) (h : tyB t = true) : kitB "NoneType" (tyN t) = some false ∧ kitB "bool" (tyN t) = some (t == .bool || t == .int) ∧ kitB "int" (tyN t) = some (t == .int) ∧ kitB "str" (tyN t) = some (t == .str) ∧
    kitB "tuple" (tyN t) = some (t == .tup) ∧ kitB "list" (tyN t) = some (t == .lst) ∧ kitB "dict" (tyN t) = some (t == .dic) := by
  cases t <;> first | cases h | skip
  all_goals decide +kernel
theorem me_isi {x z : Str} {p p2 pos : Pos} {e : Expr} {fe : Env → M D} (t : Ty) (ht : tyB t = true) (hg : Gl X x) (hm : X.mg x = none) (hv : bootBuiltins x = some (.builtin "isinstance")) (ha : PE X e (tE G g fe))
    (hgz : Gl X z) (hmz : X.mg z = none) (hvz : bootBuiltins z = some (.type (tyN t)))
    (hn : x ≠ "__name__") (hdb : (x == ("__debug__" : Str)) = false) (hnz : z ≠ "__name__") (hdz : (z == ("__debug__" : Str)) = false) (he : starEach [e, .Name z p2] X.env = (false, eval e X.env) :: starEach [.Name z p2] X.env) :
    PE X (.Call (.Name x p) [e, .Name z p2] [] pos) (tE G g fun r => M.bind (fe r) fun d => isiD d [t]) := by
  have hT : PE X (.Name z p2) (tC (.ty (tyN t))) := pe_bltn hgz hmz hvz rfl hnz hdz
  refine impPE (pe_callB call_isi hg hm hv (pa_cons ha (pa_cons hT pa_nil rfl) he) hn hdb he rfl) fun a H Q h => ?_
  obtain ⟨m, r, s, R, E, P⟩ := h
  refine ⟨m, r, s, R, E, P.bind.imp fun d m1 s1 H1 e1 r1 P1 v hv => ?_⟩
  have kt := kit_tab t ht
  unfold isiD tyIs at P1
  dsimp only at P1
  have fin : ∀ (ty : Value) (b : Bool), TyX X.K H1 v ty → PySem.W.kitOne X.K ty (.type (tyN t)) = some b → Post G m1 s1 H1 (wX G g.W a) (.ok (.bl b) s1) (fun d m' s' H' => ∀ v, RV m' s'.length H' v d → Q v H') → rIsi X.K [v, .ty (tyN t)] H1 Q :=
    fun ty b h1 h2 P => ⟨v, .ty (tyN t), ty, .type (tyN t), b, rfl, .ty _, h1, h2, P.ok r1 _ rfl⟩
  cases d <;> (try dsimp only at P1)
  case non => unfold RV at hv; subst hv; exact fin _ _ (.base .non) (kit_ty kt.1) P1
  case bl b => unfold RV at hv; subst hv; exact fin _ _ (.base (.bl b)) (kit_ty kt.2.1) P1
  case int i => unfold RV at hv; subst hv; exact fin _ _ (.base (.int i)) (kit_ty kt.2.2.1) P1
  case str i => unfold RV at hv; subst hv; exact fin _ _ (.base (.str _)) (kit_ty kt.2.2.2.1) P1
  case tup ds =>
    unfold RV at hv
    obtain ⟨p, vs, rfl, q1, q2, q3⟩ := hv
    exact fin _ _ (.base (.tup q1)) (kit_ty kt.2.2.2.2.1) P1
  case ref i =>
    unfold RV at hv
    obtain ⟨_, rfl⟩ := hv
    split at P1
    · rename_i b q
      split at q
      · rename_i xs q1
        cases q
        obtain ⟨_, vs, q2, _⟩ := r1.obs i _ q1
        exact fin _ _ (.base (.lst q2)) (kit_ty kt.2.2.2.2.2.1) P1
      · rename_i xs q1
        cases q
        obtain ⟨_, vs, q2, _⟩ := r1.obs i _ q1
        exact fin _ _ (.base (.dK q2)) (kit_ty kt.2.2.2.2.2.2) P1
      · cases q
    · exact P1.elim
end
end EW

set_option Elab.async false
set_option linter.all false
set_option maxRecDepth 100000
set_option maxHeartbeats 0
/-! M layer S: sorted. -/
namespace EW
open PySem PySem.Spec PyProof.Rows L2

section
variable {prog : Program} {w : World} {A : Around} {E : Value → Shared → Prop} {s : Shared}
/-- the items of a tuple, gathered -/
theorem collect_tup {l : Addr} {us : List Value} {Q : List Value → Shared → Prop} (tp : s.heap.IsTuple l us.toArray)
    (h : Q us { s with heap := (s.heap.push (seqObj "list" #[] 0)).update s.heap.objs.size (Obj.mapSeq (· ++ us.toArray)) }) (zz : us.length ≤ sizeLine) :
    wpAny (model prog w) A (collect (.ref l)) Q E s := by
  obtain ⟨o, oo, oc, n, od⟩ := id tp
  unfold collect
  refine wpAny_bind (wpAny_runValue ?_)
  refine codeAny_builtin entry_proto_collect' ?_
  show wpAny _ _ (do again (.builtin "list.__iadd__" ⟨[← newList [], .ref l], []⟩)) _ _ s
  refine wpAny_bind (wpAny_newList (wpAny_pure ?_))
  refine ⟨Code.quiet_builtin _ (by decide +kernel), codeAny_builtin entry_list_iadd' ?_⟩
  show wpAny _ _ (Builtin.List.listExtendWith (.ref s.heap.objs.size) (.ref l) (.ref s.heap.objs.size)) _ _ { s with heap := s.heap.push (seqObj "list" #[] 0) }
  unfold Builtin.List.listExtendWith
  have oo2 : (s.heap.push (seqObj "list" #[] 0)).get? l = some o := Heap.get?_push_of_some _ oo
  refine wpAny_bind (wpAny_typeOf (T := "tuple") ⟨o, oo2, oc⟩ ?_)
  have tt : (Value.type "tuple" == Value.type "tuple") = true := by rfl
  rw [if_pos (by rw [tt]; simp)]
  refine wpAny_bind (listItems_at oo2 od ?_)
  refine wpAny_bind ?_
  refine listItems_at (xs := #[]) (n := 0) (Heap.get?_push_size _ rfl) rfl ?_
  rw [if_neg (by simp)]
  refine wpAny_bind ?_
  refine listUpdate_at (xs := #[]) (n := 0) (Heap.get?_push_size _ rfl) rfl ?_ (Nat.zero_le _) (by show (#[] ++ us.toArray).size ≤ sizeLine + 1; simp only [Array.size_append, List.size_toArray, List.length_nil]; omega)
  refine wpAny_pure ?_
  show wpAny (model prog w) A (do
      let o ← load s.heap.objs.size
      match o.data with
      | .seq xs _ => pure xs.toList
      | _ => unsupported "internal:collect") Q E { s with heap := (s.heap.push (seqObj "list" #[] 0)).update s.heap.objs.size (Obj.mapSeq (· ++ us.toArray)) }
  refine wpAny_bind ?_
  refine wpAny_load (get?_update_seq (Heap.get?_push_size _ rfl) _) ?_
  show wpAny _ _ (pure ((#[] : Array Value) ++ us.toArray).toList) Q E _
  rw [show ((#[] : Array Value) ++ us.toArray).toList = us by simp]
  exact wpAny_pure h
theorem sorted_tup {l : Addr} {us : List Value} {ltv : Value → Value → Bool} {Q : Value → Shared → Prop} (O : SrtO.Swo ltv) (tp : s.heap.IsTuple l us.toArray) (lz : us.length ≤ sizeLine)
    (sb : 2 ≤ us.length → ∀ (h₁ : Heap) (a : Addr), h₁.get? a = some (seqObj "list" us.toArray 0) → (∀ b o, s.heap.get? b = some o → b ≠ a ∧ h₁.get? b = some o) → SrtO.SortableO prog w A.in1.in1 { s with heap := h₁ } a us ltv)
    (h : ∀ res : List Value, SrtO.Srtd ltv res → SrtO.Stb ltv res us → Q (.ref (s.heap.objs.size + 1)) { s with heap := sortedAll s.heap us res.toArray }) :
    wpAny (model prog w) A (call (.builtin "sorted") [.ref l]) Q E s := by
  refine Calls.call_function_entry kind_sorted plain_sorted entry_sorted (args_sorted1 _) (by
  unfold Builtin.«sorted»
  refine wpAny_bind (m := checkCount "sorted" 1 1 _) ?_
  refine wpAny_pure ?_
  refine wpAny_bind (collect_tup tp ?_ lz)
  refine wpAny_bind (wpAny_newList ?_ lz)
  have zz : ((s.heap.push (seqObj "list" #[] 0)).update s.heap.objs.size (Obj.mapSeq (· ++ us.toArray))).objs.size = s.heap.objs.size + 1 := by
    rw [Heap.size_update, size_push']
  have gL : (((s.heap.push (seqObj "list" #[] 0)).update s.heap.objs.size (Obj.mapSeq (· ++ us.toArray))).push (seqObj "list" us.toArray 0)).get? (s.heap.objs.size + 1) = some (seqObj "list" us.toArray 0) := by
    rw [← zz]; exact Heap.get?_push_size _ rfl
  have kpt : ∀ b o, s.heap.get? b = some o → b ≠ s.heap.objs.size + 1 ∧ (((s.heap.push (seqObj "list" #[] 0)).update s.heap.objs.size (Obj.mapSeq (· ++ us.toArray))).push (seqObj "list" us.toArray 0)).get? b = some o := fun b o q => by
    have lt : b < s.heap.objs.size := Heap.lt_size q
    refine ⟨Nat.ne_of_lt (Nat.lt_succ_of_lt lt), Heap.get?_push_of_some _ ?_⟩
    rw [Heap.get?_update_ne _ _ _ _ (Nat.ne_of_lt lt)]
    exact Heap.get?_push_of_some _ q
  show wpAny _ _ _ _ _ { s with heap := ((s.heap.push (seqObj "list" #[] 0)).update s.heap.objs.size (Obj.mapSeq (· ++ us.toArray))).push (seqObj "list" us.toArray 0) }
  rw [zz]
  refine wpAny_bind (wpAny_holding (wpAny_call_entry slot_list_sort ⟨_, gL, rfl⟩ entry_list_sort (SrtO.list_sort_ord O gL lz (fun h2 => sb h2 _ _ gL kpt) fun res so st => ⟨_, rfl, ?_⟩) (args_list_sort _)))
  exact wpAny_pure ⟨_, rfl, h res so st⟩)
end
/-- sorted(t), a tuple of ints -/
def rSortedTI (K : PySem.W.Frag) : List V → Hp → VK → Prop := fun vs H Q => ∃ (a : Addr) (ns : List Int), vs = [V.ref a] ∧ SqT K H a (ns.map V.int) ∧
  ∀ (ns' : List Int) (p : Addr), ns'.Perm ns → ns'.Pairwise (· ≤ ·) → H p = none → Q (.ref p) (upd H p (.lst (ns'.map V.int)))
section
variable {G : Gb} {X : Cx}
theorem cr_sortedTI : CallR X (.builtin "sorted") (rSortedTI X.K) := by
  intro pins s σ H vs us Q I r h
  obtain ⟨a, ns, rfl, hs, q⟩ := h
  obtain ⟨its, rv, hl, hz⟩ := I.tuple hs
  rw [Vals.ref1 r]
  have hi := rv.ints
  refine sorted_tup SrtO.swo_int hl (by rw [← rv.length]; exact hz) (fun h2 h₁ a' _ _ => SrtO.ints_sortable hi h2) fun out h1 h2 => ?_
  obtain ⟨k1, k2, k3⟩ := SrtO.ints_out hi h1 h2
  obtain ⟨ep, he'⟩ := PyProof.Rows.sortedAll_at s.heap its out.toArray
  have hlen : ((out.map SrtO.iv).map V.int).length ≤ sizeLine := by
    rw [List.length_map, k2.length_eq]
    rw [List.length_map] at hz
    exact hz
  exact ⟨.ref _, upd H (s.heap.objs.size + 1) (.lst ((out.map SrtO.iv).map V.int)), I.laid (t' := s.toks) (fun _ _ => PyProof.Rows.sortedAll_old) (Nat.le_succ _) ⟨hlen, out, ep, vals_of_ints k1, he'⟩, rfl, q _ _ k2 k3 (I.hok.fresh (Nat.le_succ _))⟩
end
/-! ### by meaning -/
theorem sortI_perm (ns : List Int) : (sortI ns).Perm ns := List.mergeSort_perm _ _
theorem sortI_up (ns : List Int) : (sortI ns).Pairwise (· ≤ ·) := by
  have h := List.pairwise_mergeSort (le := fun a b : Int => decide (a ≤ b)) (fun a b c h1 h2 => by
    have h1 := of_decide_eq_true h1
    have h2 := of_decide_eq_true h2
    exact decide_eq_true (by omega)) (fun a b => by
    by_cases h : a ≤ b
    · rw [decide_eq_true h]; rfl
    · rw [decide_eq_true (show b ≤ a by omega), Bool.or_true]) ns
  exact h.imp fun h => of_decide_eq_true h
theorem sortI_only {ns ns' : List Int} (h1 : ns'.Perm ns) (h2 : ns'.Pairwise (· ≤ ·)) : ns' = sortI ns :=
  PySem.W.os_sorted_one (h1.trans (sortI_perm ns).symm) h2 (sortI_up ns)
theorem ints_of {m : Mp} {n : Nat} {H : Hp} : ∀ {ds : List D} {ns : List Int} {vs : List V}, omap intOf ds = some ns → RVs m n H vs ds → vs = ns.map V.int
  | [], ns, vs, e, h => by cases e; unfold RVs at h; exact h
  | d :: ds, ns, vs, e, h => by
    unfold RVs at h
    obtain ⟨v, r, rfl, h1, h2⟩ := h
    unfold omap at e
    cases q : intOf d with
    | none => rw [q] at e; cases e
    | some b =>
      rw [q] at e
      cases q2 : omap intOf ds with
      | none => rw [q2] at e; cases e
      | some cs =>
        rw [q2] at e
        cases e
        rw [ints_of q2 h2]
        cases d <;> first | cases q | skip
        unfold RV at h1
        subst h1
        rfl
theorem RVs.ints {m : Mp} {n : Nat} {H : Hp} : ∀ ns : List Int, RVs m n H (ns.map V.int) (ns.map EW.D.int)
  | [] => by show RVs m n H [] []; unfold RVs; rfl
  | i :: ns => by
    show RVs m n H (V.int i :: ns.map V.int) (EW.D.int i :: ns.map EW.D.int)
    unfold RVs
    exact ⟨_, _, rfl, by unfold RV; rfl, RVs.ints ns⟩
theorem omap_len {α β : Type} {f : α → Option β} : ∀ {xs : List α} {ys : List β}, omap f xs = some ys → ys.length = xs.length
  | [], ys, h => by cases h; rfl
  | x :: xs, ys, h => by
    unfold omap at h
    split at h
    · cases h
    · split at h
      · cases h
      · rename_i q
        cases h
        show _ + 1 = _ + 1
        rw [omap_len q]
section
variable {G : Gb} {X : Cx}
theorem bi_sorted (hK : X.K = G.K) : CallR X (.builtin "sorted") (rC G (b1 sortedD)) := rC_b1 fun d => by
  cases d with
  | tup ds =>
    refine impC cr_sortedTI fun xs H Q h => ?_
    · obtain ⟨m, s, Xp, v, e, R, hv, P⟩ := h
      subst e
      unfold RV at hv
      obtain ⟨p, vs, rfl, q1, q2, q3⟩ := hv
      unfold sortedD at P
      dsimp only at P
      split at P
      · rename_i ns hns
        have e := ints_of hns q3
        subst e
        refine ⟨p, ns, rfl, .of q1, fun ns' a h1 h2 ha => ?_⟩
        rw [sortI_only h1 h2]
        obtain ⟨m', r1, e1, h⟩ := R.lst ha (RVs.ints (m := m) (n := s.length) (H := H) (sortI ns)) (by rw [List.length_map, (sortI_perm ns).length_eq]; rw [List.length_map] at q2; exact q2)
        exact P.ok1 e1 r1 _ h
      · exact P.elim
  | ref i =>
    refine impC cr_sortedI fun xs H Q h => ?_
    · obtain ⟨m, s, Xp, v, e, R, hv, P⟩ := h
      subst e
      unfold RV at hv
      obtain ⟨_, rfl⟩ := hv
      unfold sortedD at P
      dsimp only at P
      split at P
      · rename_i ds hx
        split at P
        · rename_i ns hns
          obtain ⟨vs, q1, q2, z⟩ := R.lstAt hx
          have e := ints_of hns q2
          subst e
          refine ⟨m i, ns, rfl, by rw [hK]; exact q1, fun ns' a h1 h2 ha => ?_⟩
          rw [sortI_only h1 h2]
          obtain ⟨m', r1, e1, h⟩ := R.lst ha (RVs.ints (m := m) (n := s.length) (H := H) (sortI ns)) (by rw [List.length_map, (sortI_perm ns).length_eq, omap_len hns]; exact z)
          exact P.ok1 e1 r1 _ h
        · exact P.elim
      · exact P.elim
  | _ => exact rC_no fun xs H Q ⟨m, s, Xp, v, e, R, hv, P⟩ => False.elim P
end
end EW

set_option Elab.async false
set_option linter.all false
set_option maxRecDepth 100000
/-! M layer 8: calls of the program's own defs, methods, classes. -/
namespace EW
open PySem PySem.Spec PyProof.Rows L2

structure FI where
  ad : Addr
  fd : FuncData
  ps : List Str
/-- what a def promises: it runs by its meaning -/
def spM (G : Gb) (np : Nat) (h : List D → M D) : Sp := fun vs H Q E => vs.length = np ∧ ∃ m s ds, Rel G m s H ∧ RVs m s.length H vs ds ∧
  Post G m s H (fun x m' s' H' => ∀ cls dd, XR G m' s'.length H' cls dd x → E cls dd H') (h ds s) (fun d m' s' H' => ∀ v, RV m' s'.length H' v d → Q v H')
/-- what is written of the defs -/
structure DOk (G : Gb) (fi : Nat → FI) (mN : Nat → Str) : Prop where
  np : ∀ f, G.Q.np f = (fi f).ps.length
  bind : ∀ f n, G.Q.can f n = true → ∃ dvs ds, Binds G.K (fi f).fd (fi f).ps ds ∧ Vals dvs ds ∧ ∀ m k H, RVs m k H dvs (G.Q.dfl f n)
  meth : ∀ c k f, G.Q.meth c k = some f → Cls G.K (G.cA c) ∧ Meth G.K (G.cA c) (mN k) (fi f).ad ∧ ∀ x, G.Q.flds c x = true → G.fN x ≠ mN k
  init : ∀ c f, G.Q.init c = some f → Mk G.K (G.cA c) (fi f).ad
  plain : ∀ c, G.Q.plain c = true → PySem.W.makesIn G.K (G.cA c) = true ∧ PySem.W.findIn G.K (.ref (G.cA c)) "__init__" = some (some (.builtin "object.__init__")) ∧ PySem.W.keepIn G.K (.ref (G.cA c)) = true

section
variable {X : Cx} {CX : CXT} {k : Nat} {f C : Addr} {fd : FuncData} {ps : List Str} {sp : Sp} {dvs : List V} {ds : List Value} {E : AS → XK} {x : Str} {p pos : Pos} {e : Expr} {es : List Expr} {t : TA}
theorem pe_callSD0 (F : FnOk X.prog X.w X.K X.mg X.base CX k f fd ps sp) (hr : Room k X.A) (hg : Gl X x) (hm : X.mg x = some (.ref f)) (hk : PySem.W.keepIn X.K (.ref f) = true) (hb : Binds X.K fd ps ds) (hd : Vals dvs ds) (hx : ∀ σ, PassesAt CX X σ (E σ))
    (hdb : (x == ("__debug__" : Str)) = false) : PE X (.Call (.Name x p) [] [] pos) (tCallSD sp dvs E tNil) := by
  refine ⟨fun pins s σ H Q I h => ?_⟩
  refine wpAny_Call_Name_kw (ld_glob I hg hm ?_ hdb)
  exact PySem.W.callWith_K0 I.kIn hk (run_fnSD (us := []) F hr hb hd (hx σ) I .nil h)
theorem run_makeSD {pins : List (Addr × Obj)} {σ : AS} {H : Hp} {s : Shared} {Q : VK} {us : List Value} {vs : List V} (M : Mk X.K C f) (F : FnOk X.prog X.w X.K X.mg X.base CX k f fd ps sp) (hr : Room (k + 1) X.A) (hb : Binds X.K fd ps ds) (hd : Vals dvs ds)
    (hx : PassesAt CX X σ (E σ)) (I : L2.Inv X pins σ H s) (r : Vals vs us)
    (h : ∀ x dx, H x = none → H dx = none → dx ≠ x → sp (.ref x :: (vs ++ dvs)) (upd (upd H dx (.own x)) x (.ins C dx [])) (fun v H2 => v = .non ∧ Q (.ref x) H2) (E σ)) :
    wpAny (model X.prog X.w) X.A (call (.ref C) us) (EP X pins σ Q) X.xe s := by
  have hq := h (s.heap.objs.size + 1) s.heap.objs.size (I.hok.fresh (Nat.le_succ _)) (I.hok.fresh (Nat.le_refl _)) (Nat.ne_of_lt (Nat.lt_succ_self _))
  have I2 := Inv.made (C := C) I
  have r2 : Vals (V.ref (s.heap.objs.size + 1) :: (vs ++ dvs)) (Value.ref (s.heap.objs.size + 1) :: (us ++ ds)) := .cons rfl (r.append hd)
  have hl : (Value.ref (s.heap.objs.size + 1) :: us ++ ds).length = ps.length := by
    have e := r2.length
    rw [F.len _ _ _ _ hq] at e
    exact e.symm
  refine wpAny_call (make_map (f := f) I.kIn M.makes M.init (beq_iff_eq.mp M.fn) (codeAny_mono (F.run _ X.stack _ _ ⟨Value.ref (s.heap.objs.size + 1) :: us, []⟩ (Value.ref (s.heap.objs.size + 1) :: (us ++ ds)) _ _ (E σ) (hr.make C us [])
    (I2.env0.make C us []) (hb _ (Value.ref (s.heap.objs.size + 1) :: us) I2.kIn hl) r2 hq) fun r s' hq' => ?_))
  cases r with
  | error e => exact hx pins _ _ e s' I2 hq'
  | ok fl =>
    cases fl with
    | ret u =>
      obtain ⟨v, H', I3, rv, ev, q3⟩ := I2.after hq'
      subst ev
      exact ⟨rv, ⟨V.ref (s.heap.objs.size + 1), H', I3, rfl, q3⟩⟩
    | next => exact False.elim hq'
    | brk => exact False.elim hq'
    | cont => exact False.elim hq'
/-- C(), where there is no __init__ but object's -/
theorem run_make0 {pins : List (Addr × Obj)} {σ : AS} {H : Hp} {s : Shared} {Q : VK} (I : L2.Inv X pins σ H s) (hm : PySem.W.makesIn X.K C = true) (hi : PySem.W.findIn X.K (.ref C) "__init__" = some (some (.builtin "object.__init__")))
    (h : ∀ x dx, H x = none → H dx = none → dx ≠ x → Q (.ref x) (upd (upd H dx (.own x)) x (.ins C dx []))) :
    wpAny (model X.prog X.w) X.A (call (.ref C) []) (EP X pins σ Q) X.xe s := by
  have hq := h (s.heap.objs.size + 1) s.heap.objs.size (I.hok.fresh (Nat.le_succ _)) (I.hok.fresh (Nat.le_refl _)) (Nat.ne_of_lt (Nat.lt_succ_self _))
  have I2 := Inv.made (C := C) I
  have Y := PySem.W.makes_of (M := model X.prog X.w) I.kIn hm
  refine wpAny_call (make_map0 I.kIn hm hi (fun self => PySem.W.Looks.of_pure (PySem.W.oi_bind self)) ?_)
  have g1 : ((s.heap.push PySem.W.emptyDict).push (PySem.W.instObj C s.heap.objs.size)).get? (s.heap.objs.size + 1) = some (PySem.W.instObj C s.heap.objs.size) := by
    have := Heap.get?_push_size (s.heap.push PySem.W.emptyDict) (o := PySem.W.instObj C s.heap.objs.size) rfl
    rwa [Heap.size_push] at this
  have t1 : PySem.W.Looks (model X.prog X.w) ((s.heap.push PySem.W.emptyDict).push (PySem.W.instObj C s.heap.objs.size)) (typeOf (.ref (s.heap.objs.size + 1))) (.ref C) := (PySem.W.Looks.ld g1).andThen .now
  have t2 : PySem.W.Looks (model X.prog X.w) ((s.heap.push PySem.W.emptyDict).push (PySem.W.instObj C s.heap.objs.size)) (isInstance (.ref (s.heap.objs.size + 1)) (.type "object")) true :=
    t1.andThen (Y.top.keeps fun b o e => Heap.get?_push_of_some _ (Heap.get?_push_of_some _ e))
  refine codeAny_call_builtin PySem.W.oi_plain PySem.W.entry_oi (@PySem.W.check_slot (model X.prog X.w) _ _ _ "object.__init__" "object" "__init__" (.ref (s.heap.objs.size + 1)) [] [] _ PySem.W.oi_kind PySem.W.oi_split t2 (PySem.W.oi_args (.ref (s.heap.objs.size + 1))) ?_)
  rw [PySem.W.oi_run]
  exact wpAny_pure (And.intro rfl ⟨V.ref (s.heap.objs.size + 1), _, I2, rfl, hq⟩)
end

/-! ### calls by meaning -/
/-- the defs that may be called, at most k levels -/
structure CalOk (G : Gb) (fi : Nat → FI) (C : Cal) (k : Nat) (base : Heap) : Prop where
  P : C.P = G.Q
  fn : ∀ f, FnOk G.P G.w G.K G.mg base (L2.CX G.P G.w) k (fi f).ad (fi f).fd (fi f).ps (spM G (G.Q.np f) (C.call f))
/-- the context is one of ours -/
structure XOk (G : Gb) (g : Pm) (X : Cx) : Prop where
  P : X.prog = G.P
  w : X.w = G.w
  K : X.K = G.K
  mg : X.mg = G.mg
  tk : Takes X g.W
  isx : ∀ p x c b, g.chi p x → x.fs = [] → G.Q.sub x.c c = some b → CallR X (.builtin "isinstance") (fun xs H Q => xs = [V.ref p, V.ref (G.xA c)] ∧ Q (.bl b) H)
section
variable {G : Gb} {g : Pm} {X : Cx} {fi : Nat → FI} {mN : Nat → Str} {C : Cal} {k : Nat}
theorem XOk.fn (o : XOk G g X) (hc : CalOk G fi C k X.base) (f : Nat) : FnOk X.prog X.w X.K X.mg X.base (L2.CX X.prog X.w) k (fi f).ad (fi f).fd (fi f).ps (spM G (G.Q.np f) (C.call f)) := by
  rw [o.P, o.w, o.K, o.mg]; exact hc.fn f
theorem XOk.pass (o : XOk G g X) (a : AS) : PassesAt (L2.CX X.prog X.w) X a (WE g.W a) := passAt o.tk a
/-- the promise, from the meaning -/
theorem sp_of {f n : Nat} {vs dvs : List V} {ds : List D} {m : Mp} {s : Sto} {H : Hp} {a : AS} {Q : VK} {K : D → Mp → Sto → Hp → Prop} (hC : C.P = G.Q) (R : Rel G m s H) (h : RVs m s.length H vs ds) (hd : ∀ m k H, RVs m k H dvs (G.Q.dfl f n))
    (P : Post G m s H (wX G g.W a) (callN C f n ds s) K) (hQ : ∀ d m' s' H', Ext m s H m' s' H' → Rel G m' s' H' → K d m' s' H' → ∀ v, RV m' s'.length H' v d → Q v H') : spM G (G.Q.np f) (C.call f) (vs ++ dvs) H Q (WE g.W a) := by
  unfold callN at P
  rw [hC] at P
  have hv := h.app (hd m s.length H)
  by_cases e : (ds ++ G.Q.dfl f n).length = G.Q.np f
  · rw [if_pos e] at P
    refine ⟨by rw [hv.len]; exact e, m, s, _, R, hv, ?_⟩
    exact P.imp fun d m1 s1 H1 e1 r1 k1 => hQ d m1 s1 H1 e1 r1 k1
  · rw [if_neg e] at P
    exact P.elim
theorem me_call {f n : Nat} {x : Str} {p pos : Pos} {e : Expr} {es : List Expr} {fs : Env → M (List D)} (o : XOk G g X) (D : DOk G fi mN) (hc : CalOk G fi C k X.base) (hr : Room k X.A) (hcn : G.Q.can f n = true) (hg : Gl X x) (hm : X.mg x = some (.ref (fi f).ad))
    (hk : PySem.W.keepIn G.K (.ref (fi f).ad) = true) (ha : PA X (e :: es) (tL G g fs))
    (hdb : (x == ("__debug__" : Str)) = false) (he : starEach (e :: es) X.env = (false, eval e X.env) :: starEach es X.env) (hpl : (backTo pos (starEach es X.env)).any (·.1) = false) :
    PE X (.Call (.Name x p) (e :: es) [] pos) (tE G g fun r => M.bind (fs r) (callN C f n)) := by
  obtain ⟨dvs, ds, h1, h2, h3⟩ := D.bind f n hcn
  refine impPE (pe_callSD (E := WE g.W) (o.fn hc f) hr hg hm (by rw [o.K]; exact hk) (by rw [o.K]; exact h1) h2 (fun a => o.pass a) ha hdb he hpl) fun a H Q h => ?_
  obtain ⟨m, r, s, R, E, P⟩ := h
  exact ⟨m, r, s, R, E, P.bind.imp fun d m1 s1 H1 e1 r1 P1 v hv => sp_of hc.P r1 hv h3 P1 fun d m2 s2 H2 _ _ k2 => k2⟩
theorem me_call0 {f : Nat} {x : Str} {p pos : Pos} (o : XOk G g X) (D : DOk G fi mN) (hc : CalOk G fi C k X.base) (hr : Room k X.A) (hcn : G.Q.can f 0 = true) (hg : Gl X x) (hm : X.mg x = some (.ref (fi f).ad)) (hk : PySem.W.keepIn G.K (.ref (fi f).ad) = true)
    (hdb : (x == ("__debug__" : Str)) = false) :
    PE X (.Call (.Name x p) [] [] pos) (tE G g fun r => M.bind (M.pure []) (callN C f 0)) := by
  obtain ⟨dvs, ds, h1, h2, h3⟩ := D.bind f 0 hcn
  refine impPE (pe_callSD0 (E := WE g.W) (o.fn hc f) hr hg hm (by rw [o.K]; exact hk) (by rw [o.K]; exact h1) h2 (fun a => o.pass a) hdb) fun a H Q h => ?_
  obtain ⟨m, r, s, R, E, P⟩ := h
  have P : Post G m s H (wX G g.W a) (callN C f 0 [] s) _ := P
  exact sp_of (vs := []) hc.P R (by unfold RVs; rfl) h3 P fun d m2 s2 H2 _ _ k2 => k2
theorem FR.look_none {fN : Nat → Str} {m : Mp} {n : Nat} {H : Hp} {z : Str} : ∀ {fs : List (Nat × D)} {vs : List (Str × V)}, FR fN m n H vs fs → (∀ p ∈ fs, fN p.1 ≠ z) → vs.lookup z = none
  | [], vs, h, _ => by unfold FR at h; subst h; rfl
  | p :: r, vs, h, i => by
    unfold FR at h
    obtain ⟨v, w, rfl, h1, h2⟩ := h
    rw [List.lookup_cons]
    have q2 : (z == fN p.1) = false := by simpa using fun q => i p List.mem_cons_self q.symm
    rw [q2]
    exact FR.look_none h2 fun p hp => i p (List.mem_cons_of_mem _ hp)
theorem methOf_cases (P : Prg) (d : D) (j n : Nat) (s : Sto) : methOf P d j n s = .no ∨ ∃ i c fs f, d = .ref i ∧ s[i]? = some (.ins c fs) ∧ P.meth c j = some f ∧ P.can f n = true ∧ methOf P d j n s = .ok f s := by
  unfold methOf
  cases d <;> (try dsimp only) <;> first | exact .inl rfl | skip
  split
  · rename_i c fs q
    split
    · rename_i f qf
      split
      · rename_i hcn
        exact .inr ⟨_, c, fs, f, rfl, q, qf, hcn, rfl⟩
      · exact .inl rfl
    · exact .inl rfl
  · exact .inl rfl
/-- o.m(e, ..): the receiver, the class's def, the arguments, the call -/
theorem me_meth {j : Nat} {apos pos : Pos} {ob : Expr} {args : List Expr} {fo : Env → M D} {fs : Env → M (List D)} {pl : Sem Bool} {na : Nat} (o : XOk G g X) (D : DOk G fi mN) (hc : CalOk G fi C k X.base) (hr : Room k X.A) (ho : PE X ob (tE G g fo)) (ha : PA X args (tL G g fs))
    (hst : args = [] ∧ (∀ r, fs r = M.pure []) ∨ ∃ e es, args = e :: es ∧ starEach (e :: es) X.env = (false, eval e X.env) :: starEach es X.env ∧ (backTo pos (starEach es X.env)).any (·.1) = false)
    (ht : eval (.Call (.Attribute ob (mN j) apos) args [] pos) X.env = (do
      let ov ← eval ob X.env
      standAt apos.atName
      let (f, first) ← holding [ov] (getMethod ov (mN j) pl)
      callWith pos f first (backTo pos (starEach args X.env)) (backToKw pos (keywordEach [] X.env)))) :
    PE X (.Call (.Attribute ob (mN j) apos) args [] pos) (tE G g fun r => M.bind (fo r) fun x => M.bind (methOf C.P x j na) fun f => M.bind (fs r) fun xs => callN C f na (x :: xs)) := by
  refine ⟨fun pins s a H Q I h => ?_⟩
  obtain ⟨m, r, st, R, E, P⟩ := h
  have P0 := P.bind
  refine PySem.W.methodCall_KW (pl := pl) (thn (ho.run pins s a H (fun x H1 => ∃ m1 s1 d, RV m1 s1.length H1 x d ∧ Rel G m1 s1 H1 ∧ RE g.chi m1 s1.length H1 a r ∧ Post G m1 s1 H1 (wX G g.W a) (M.bind (methOf C.P d j na) (fun f => M.bind (fs r) fun xs => callN C f na (d :: xs)) s1) (fun d m' s' H' => ∀ v, RV m' s'.length H' v d → Q v H')) I
    ⟨m, r, st, R, E, P0.imp fun d m1 s1 H1 e1 r1 P1 v hv => ⟨m1, s1, d, hv, r1, E.mono (e1.stay R), P1⟩⟩) fun u sh1 ⟨x, H1, I1, rx, m1, s1, d, hv, r1, E1, P1⟩ => ?_) ht
  have P2 := P1.bind
  rcases methOf_cases C.P d j na s1 with e | ⟨i, c, fds, f, rfl, hi, hmt, hcn, e⟩
  · rw [e] at P2; exact P2.elim
  rw [e] at P2
  have P3 := (P2.ok r1).bind
  obtain ⟨z, dx, vs, q1, q2⟩ := r1.obs i _ hi
  have hv0 := hv
  unfold RV at hv
  obtain ⟨_, rfl⟩ := hv
  obtain rfl : u = Value.ref (m1 i) := rx
  rw [hc.P] at hmt hcn
  obtain ⟨c1, c2, c3⟩ := D.meth c j f hmt
  obtain ⟨dvs, ds, b1, b2, b3⟩ := D.bind f na hcn
  refine getmeth_ok I1 q1 (by rw [o.K]; exact c1) (k := by rw [o.K]; exact c2) (q2.look_none fun p hp => c3 _ (z p hp)) ?_
  have fin : ∀ (us : List Value) (ws : List V) (xs : List _) (m2 : Mp) (s2 : Sto) (H2 : Hp) (sh2 : Shared), Ext m1 s1 H1 m2 s2 H2 → Rel G m2 s2 H2 → L2.Inv X pins a H2 sh2 → Vals ws us → RVs m2 s2.length H2 ws xs →
      Post G m2 s2 H2 (wX G g.W a) (callN C f na (.ref i :: xs) s2) (fun d m' s' H' => ∀ v, RV m' s'.length H' v d → Q v H') → wpAny (model X.prog X.w) X.A (call (.ref (fi f).ad) (.ref (m1 i) :: us)) (EP X pins a Q) X.xe sh2 := fun us ws xs m2 s2 H2 sh2 e2 r2 I2 hws hxs P4 => by
    refine run_fnSD (vs := V.ref (m1 i) :: ws) (E := WE g.W) (o.fn hc f) hr (by rw [o.K]; exact b1) b2 (o.pass a) I2 (.cons rfl hws) ?_
    refine sp_of (n := na) (ds := .ref i :: xs) hc.P r2 ?_ b3 P4 fun d m' s' H' _ _ k2 => k2
    unfold RVs
    exact ⟨_, ws, rfl, RV.mono (e2.stay r1) _ _ hv0, hxs⟩
  rcases hst with ⟨rfl, hf⟩ | ⟨e0, es0, rfl, h1, h2⟩
  · rw [hf r] at P3
    exact PySem.W.callWith_K0 (first := [.ref (m1 i)]) I1.kIn (by rw [o.K]; exact c2.kp) (fin [] [] [] m1 s1 H1 sh1 Ext.refl r1 I1 .nil (by unfold RVs; rfl) (P3.ok r1))
  · refine PySem.W.callWith_K (first := [.ref (m1 i)]) (h₀ := X.base) I1.ok.mod.kin (by rw [o.K]; exact c2.kp) (thn (ha.run pos pins sh1 a H1 (fun ws H2 => ∃ m2 s2 xs, Ext m1 s1 H1 m2 s2 H2 ∧ Rel G m2 s2 H2 ∧ RVs m2 s2.length H2 ws xs ∧
      Post G m2 s2 H2 (wX G g.W a) (callN C f na (.ref i :: xs) s2) (fun d m' s' H' => ∀ v, RV m' s'.length H' v d → Q v H')) I1 ⟨m1, r, s1, r1, E1, P3.imp fun xs m2 s2 H2 e2 r2 P4 ws hws => ⟨m2, s2, xs, e2, r2, hws, P4⟩⟩) fun us sh2 ⟨ws, H2, I2, hvals, m2, s2, xs, e2, r2, hxs, P4⟩ => ⟨I2.kIn, ?_⟩) h1 h2
    exact fin us ws xs m2 s2 H2 sh2 e2 r2 I2 hvals hxs P4

/-- a new instance in the store -/
theorem Rel.ins {m : Mp} {s : Sto} {H : Hp} {c : Nat} {x dx : Addr} (r : Rel G m s H) (hx : H x = none) (hdx : H dx = none) (ne : dx ≠ x) :
    ∃ m', Rel G m' (s ++ [.ins c []]) (upd (upd H dx (.own x)) x (.ins (G.cA c) dx [])) ∧ Ext m s H m' (s ++ [.ins c []]) (upd (upd H dx (.own x)) x (.ins (G.cA c) dx [])) ∧
      RV m' (s ++ [Ob.ins c []]).length (upd (upd H dx (.own x)) x (.ins (G.cA c) dx [])) (.ref x) (.ref s.length) := by
  have hx' : upd H dx (.own x) x = none := by rw [upd_ne (Ne.symm ne)]; exact hx
  obtain ⟨m', h1, h2, h3⟩ := r.new (o := .ins c []) (H' := upd (upd H dx (.own x)) x (.ins (G.cA c) dx [])) hx (fun a u q => upd_keep hx' a u (upd_keep hdx a u q)) rfl ⟨_, upd_same⟩ fun m' n' st =>
    ⟨(fun p hp => nomatch hp), dx, [], upd_same, by unfold FR; rfl⟩
  refine ⟨m', h2, h3, ?_⟩
  unfold RV
  exact ⟨by simp, by rw [h1]⟩
theorem me_make {c f na : Nat} {x : Str} {p pos : Pos} {args : List Expr} {fs : Env → M (List D)} (o : XOk G g X) (D : DOk G fi mN) (hc : CalOk G fi C k X.base) (hr : Room (k + 1) X.A) (hi : G.Q.init c = some f) (hcn : G.Q.can f na = true) (hg : Gl X x) (hm : X.mg x = some (.ref (G.cA c)))
    (ha : PA X args (tL G g fs)) (hst : args = [] ∧ (∀ r, fs r = M.pure []) ∨ ∃ e es, args = e :: es ∧ starEach (e :: es) X.env = (false, eval e X.env) :: starEach es X.env ∧ (backTo pos (starEach es X.env)).any (·.1) = false)
    (hdb : (x == ("__debug__" : Str)) = false) :
    PE X (.Call (.Name x p) args [] pos) (tE G g fun r => M.bind (fs r) fun xs => M.bind (newO (.ins c [])) fun ob => M.bind (callN C f na (ob :: xs)) fun v => if v = .non then M.pure ob else M.stuck) := by
  obtain ⟨dvs, ds, b1, b2, b3⟩ := D.bind f na hcn
  have mk := D.init c f hi
  refine ⟨fun pins s a H Q I h => ?_⟩
  obtain ⟨m, r, st, R, E, P⟩ := h
  have P0 := P.bind
  refine wpAny_Call_Name_kw (ld_glob I hg hm ?_ hdb)
  have fin : ∀ (us : List Value) (ws : List V) (xs : List _) (m2 : Mp) (s2 : Sto) (H2 : Hp) (sh2 : Shared), Rel G m2 s2 H2 → L2.Inv X pins a H2 sh2 → Vals ws us → RVs m2 s2.length H2 ws xs →
      Post G m2 s2 H2 (wX G g.W a) (M.bind (newO (.ins c [])) (fun ob => M.bind (callN C f na (ob :: xs)) fun v => if v = .non then M.pure ob else M.stuck) s2) (fun d m' s' H' => ∀ v, RV m' s'.length H' v d → Q v H') → wpAny (model X.prog X.w) X.A (call (.ref (G.cA c)) us) (EP X pins a Q) X.xe sh2 := fun us ws xs m2 s2 H2 sh2 r2 I2 hws hxs P4 => by
    refine run_makeSD (vs := ws) (E := WE g.W) (by rw [o.K]; exact mk) (o.fn hc f) hr (by rw [o.K]; exact b1) b2 (o.pass a) I2 hws fun y dy hy hdy ne => ?_
    obtain ⟨m3, r3, e3, h3⟩ := r2.ins (c := c) hy hdy ne
    have P5 := (P4.bind.ok1 (a := EW.D.ref s2.length) (s' := s2 ++ [Ob.ins c []]) e3 r3).bind
    refine sp_of (vs := V.ref y :: ws) (ds := .ref s2.length :: xs) hc.P r3 ?_ b3 P5 fun d m4 s4 H4 e4 r4 k4 v hv => ?_
    · unfold RVs
      exact ⟨_, ws, rfl, h3, RVs.mono (e3.stay r2) xs ws hxs⟩
    · by_cases q : d = .non
      · rw [if_pos q] at k4
        subst q
        exact ⟨hv, k4.ok r4 _ (RV.mono (e4.stay r3) _ _ h3)⟩
      · rw [if_neg q] at k4; exact k4.elim
  rcases hst with ⟨rfl, hf⟩ | ⟨e0, es0, rfl, h1, h2⟩
  · rw [hf r] at P0
    exact PySem.W.callWith_K0 I.kIn (by rw [o.K]; exact mk.kp) (fin [] [] [] m st H s R I .nil (by unfold RVs; rfl) (P0.ok R))
  · refine PySem.W.callWith_K (h₀ := X.base) I.ok.mod.kin (by rw [o.K]; exact mk.kp) (thn (ha.run pos pins s a H (fun ws H2 => ∃ m2 s2 xs, Rel G m2 s2 H2 ∧ RVs m2 s2.length H2 ws xs ∧
      Post G m2 s2 H2 (wX G g.W a) (M.bind (newO (.ins c [])) (fun ob => M.bind (callN C f na (ob :: xs)) fun v => if v = .non then M.pure ob else M.stuck) s2) (fun d m' s' H' => ∀ v, RV m' s'.length H' v d → Q v H')) I ⟨m, r, st, R, E, P0.imp fun xs m2 s2 H2 e2 r2 P4 ws hws => ⟨m2, s2, xs, r2, hws, P4⟩⟩) fun us sh2 ⟨ws, H2, I2, hvals, m2, s2, xs, r2, hxs, P4⟩ => ⟨I2.kIn, ?_⟩) h1 h2
    exact fin us ws xs m2 s2 H2 sh2 r2 I2 hvals hxs P4
theorem me_make0 {c : Nat} {x : Str} {p pos : Pos} (o : XOk G g X) (D : DOk G fi mN) (hp : G.Q.plain c = true) (hg : Gl X x) (hm : X.mg x = some (.ref (G.cA c))) (hdb : (x == ("__debug__" : Str)) = false) :
    PE X (.Call (.Name x p) [] [] pos) (tE G g fun _ => newO (.ins c [])) := by
  obtain ⟨d1, d2, d3⟩ := D.plain c hp
  refine ⟨fun pins s a H Q I h => ?_⟩
  obtain ⟨m, r, st, R, E, P⟩ := h
  refine wpAny_Call_Name_kw (ld_glob I hg hm ?_ hdb)
  refine PySem.W.callWith_K0 I.kIn (by rw [o.K]; exact d3) (run_make0 I (by rw [o.K]; exact d1) (by rw [o.K]; exact d2) fun y dy hy hdy ne => ?_)
  obtain ⟨m3, r3, e3, h3⟩ := R.ins (c := c) hy hdy ne
  exact P.ok1 (a := EW.D.ref st.length) (s' := st ++ [Ob.ins c []]) e3 r3 _ h3
end
end EW

set_option Elab.async false
set_option linter.all false
set_option maxRecDepth 100000
/-! M layer 9: what is walked; list comprehensions. -/
namespace EW
open PySem PySem.Spec PyProof.Rows L2

section
variable {G : Gb} {m m1 : Mp} {s s1 : Sto} {H H1 : Hp} {X : XP} {α β : Type}
/-- the origin stays -/
theorem Post.bindO {x : M α} {f : α → M β} {s0 : Sto} {K : β → Mp → Sto → Hp → Prop} (h : Post G m s H X (M.bind x f s0) K) :
    Post G m s H X (x s0) (fun a m1 s1 H1 => Post G m s H X (f a s1) K) := by
  unfold M.bind at h
  cases q : x s0 with
  | ok a s1 =>
    rw [q] at h
    exact fun _ _ _ _ => h
  | exc a s1 => rw [q] at h; exact h
  | no => rw [q] at h; exact h
theorem Post.rebase {q : Res α} {K : α → Mp → Sto → Hp → Prop} (e : Ext m s H m1 s1 H1) (h : Post G m s H X q K) : Post G m1 s1 H1 X q K := by
  cases q with
  | ok a s2 => exact fun m2 H2 e2 r2 => h m2 H2 (e.trans e2) r2
  | exc a s2 => exact fun m2 H2 e2 r2 => h m2 H2 (e.trans e2) r2
  | no => exact h
theorem Post.at_ {a : α} {s' : Sto} {m' : Mp} {H' : Hp} {K : α → Mp → Sto → Hp → Prop} (h : Post G m s H X (.ok a s') K) (e : Ext m s H m' s' H') (r : Rel G m' s' H') : K a m' s' H' := h m' H' e r

/-- an object that no store object is: what stands there may change -/
theorem Rel.side (r : Rel G m s H) {p : Addr} {xs : List V} {u : HO} (hp : H p = some (.lst xs)) (nown : ∀ (i : Nat) (o : Ob), s[i]? = some o → isRol o = false → m i ≠ p) :
    Rel G m s (upd H p u) ∧ Stay m s.length H m s.length (upd H p u) := by
  have tupK : ∀ a vs, H a = some (.tup vs) → upd H p u a = some (.tup vs) := fun a vs q => by
    rw [upd_ne]; exact q
    intro e; rw [e, hp] at q; cases q
  have S : Stay m s.length H m s.length (upd H p u) := ⟨Nat.le_refl _, fun _ _ => rfl, tupK⟩
  refine ⟨⟨r.inj, fun i o h => ?_⟩, S⟩
  refine OR.mono S (r.obs i o h) (fun q => upd_ne (nown i o h q)) fun _ ob w q => ?_
  rw [upd_ne]; exact q
  intro e; rw [e, hp] at q; cases q
/-- the list at p comes into the store -/
theorem Rel.adopt {m0 : Mp} {s0 : Sto} {H0 : Hp} (r : Rel G m s H) (e : Ext m0 s0 H0 m s H) {p : Addr} {vs : List V} {ds : List D} (hp : H p = some (.lst vs)) (h0 : H0 p = none) (nown : ∀ (i : Nat) (o : Ob), s[i]? = some o → isRol o = false → m i ≠ p)
    (h : RVs m s.length H vs ds) (z : vs.length ≤ sizeLine) :
    ∃ m', Rel G m' (s ++ [.lst ds]) H ∧ Ext m0 s0 H0 m' (s ++ [.lst ds]) H ∧ RV m' (s ++ [Ob.lst ds]).length H (.ref p) (.ref s.length) := by
  have S : Stay m s.length H (fun i => if i = s.length then p else m i) (s ++ [Ob.lst ds]).length H := ⟨by simp, fun i hi => by simp [Nat.ne_of_lt hi], fun _ _ q => q⟩
  have lt_of : ∀ {i : Nat} {u : Ob}, (s ++ [Ob.lst ds])[i]? = some u → i ≠ s.length → s[i]? = some u := fun {i u} h hi => by
    have hl : i < s.length := by
      have := (List.getElem?_eq_some_iff.mp h).1
      simp at this; omega
    rw [List.getElem?_append_left hl] at h
    exact h
  refine ⟨fun i => if i = s.length then p else m i, ⟨fun i j u v h1 h2 h3 h4 q => ?_, fun i u hu => ?_⟩, ⟨by have := e.len; simp; omega, fun i hi => ?_, fun i u hu => ?_, e.fr, e.dm, fun i h1 h2 => ?_⟩, ?_⟩
  · by_cases hi : i = s.length
    · by_cases hj : j = s.length
      · rw [hi, hj]
      · simp only [hi, if_true, if_neg hj] at q
        exact absurd q.symm (nown j v (lt_of h2 hj) h4)
    · by_cases hj : j = s.length
      · simp only [hj, if_true, if_neg hi] at q
        exact absurd q (nown i u (lt_of h1 hi) h3)
      · simp only [if_neg hi, if_neg hj] at q
        exact r.inj i j u v (lt_of h1 hi) (lt_of h2 hj) h3 h4 q
  · by_cases hi : i = s.length
    · subst hi
      simp at hu
      subst hu
      simp only [if_true]
      exact ⟨by rw [← h.len]; exact z, vs, hp, RVs.mono S ds vs h⟩
    · simp only [if_neg hi]
      exact OR.mono S (r.obs i u (lt_of hu hi)) (fun _ => rfl) fun _ _ _ q => q
  · have := e.len
    have hne : i ≠ s.length := by omega
    simp only [if_neg hne]
    exact e.mu i hi
  · obtain ⟨o', q1, q2, q3⟩ := e.rol i u hu
    exact ⟨o', by rw [List.getElem?_append_left (List.getElem?_eq_some_iff.mp q1).1]; exact q1, q2, q3⟩
  · by_cases hi : i = s.length
    · simp only [hi, if_true]; exact h0
    · simp only [if_neg hi]
      exact e.nw i h1 (by simp at h2; omega)
  · unfold RV
    exact ⟨by simp, by simp⟩
end

/-! ### what is walked -/
structure ItOk (G : Gb) (J : L2.It) (it : Itr) (m : Mp) (s : Sto) (H : Hp) : Prop where
  sz : it.n ≤ sizeLine
  go : ∀ m' s' H' i d, Stay m s.length H m' s'.length H' → Rel G m' s' H' → it.at_ i s' = some d → i < it.n → J.go i H' ∧ ∀ x H2, J.yld i H' x H2 → (∀ a o, H' a = some o → H2 a = some o) ∧ RV m' s'.length H2 x d
  stop : ∀ m' s' H', Stay m s.length H m' s'.length H' → Rel G m' s' H' → it.fin s' = true → J.stop it.n H'
def tI (G : Gb) (g : Pm) (fs : Env → M (List D)) (k : IK) : TI := fun a H R => ∃ m r s, Rel G m s H ∧ RE g.chi m s.length H a r ∧
  Post G m s H (wX G g.W a) (M.bind (fs r) (mkIt k) s) (fun it m' s' H' => ∀ J, ItOk G J it m' s' H' → R J H')
section
variable {G : Gb} {g : Pm} {X : Cx} {tg : Expr}
theorem impPI {iter : Expr} {w w' : TI} (h : PI X tg iter w) (k : ∀ a H R, w' a H R → w a H R) : PI X tg iter w' := ⟨fun pins s a H R I q => h.run pins s a H R I (k a H R q)⟩
theorem PI_or {iter : Expr} {w w' : TI} (h : PI X tg iter w) (h' : PI X tg iter w') : PI X tg iter (fun a H R => w a H R ∨ w' a H R) := ⟨fun pins s a H R I q => q.elim (h.run pins s a H R I) (h'.run pins s a H R I)⟩
theorem it_tup {m : Mp} {s : Sto} {H : Hp} {a : Addr} {vs : List V} {ds : List D} (K : PySem.W.Frag) (R : Rel G m s H) (h : H a = some (.tup vs)) (z : vs.length ≤ sizeLine) (r : RVs m s.length H vs ds) : ItOk G (Itt K a) (itTup ds) m s H where
  sz := by show ds.length ≤ _; rw [← r.len]; exact z
  go := fun m' s' H' i d e R' hd hi => by
    have st := e
    have h' := st.tup _ _ h
    have hd : ds[i]? = some d := hd
    obtain ⟨v, q1, q2⟩ := (RVs.mono st ds vs r).at_ hd
    refine ⟨⟨vs, v, .of h', q1⟩, fun x H2 ⟨e2, y⟩ => ?_⟩
    subst e2
    have := y vs (.of h')
    rw [q1] at this
    cases this
    exact ⟨fun _ _ q => q, q2⟩
  stop := fun m' s' H' e R' _ => ⟨vs, .of (e.tup _ _ h), by show vs.length ≤ ds.length; rw [r.len]; exact Nat.le_refl _⟩
theorem it_lst {m : Mp} {s : Sto} {H : Hp} {i0 n : Nat} (z : n ≤ sizeLine) (hi0 : i0 < s.length) : ItOk G (Itl G.K (m i0)) (itLst i0 n) m s H where
  sz := z
  go := fun m' s' H' i d e R' hd hi => by
    have hd : (lstAt s' i0).bind (fun xs => xs[i]?) = some d := hd
    cases q : lstAt s' i0 with
    | none => rw [q] at hd; cases hd
    | some xs =>
      rw [q] at hd
      obtain ⟨vs, q1, q2, _⟩ := R'.lstAt q
      obtain ⟨v, q3, q4⟩ := q2.at_ (i := i) (d := d) hd
      rw [e.mu i0 hi0] at q1
      refine ⟨⟨vs, v, q1, q3⟩, fun x H2 ⟨e2, y⟩ => ?_⟩
      subst e2
      have := y vs q1
      rw [q3] at this
      cases this
      exact ⟨fun _ _ q => q, q4⟩
  stop := fun m' s' H' e R' hf => by
    unfold itLst at hf
    dsimp only at hf
    cases q : lstAt s' i0 with
    | none => rw [q] at hf; cases hf
    | some xs =>
      rw [q] at hf
      obtain ⟨vs, q1, q2, _⟩ := R'.lstAt q
      rw [e.mu i0 hi0] at q1
      exact ⟨vs, q1, by rw [q2.len]; exact of_decide_eq_true hf⟩
theorem it_rng {m : Mp} {s : Sto} {H : Hp} {lo : Int} {n : Nat} (z : n ≤ sizeLine) : ItOk G (L2.Itr lo n) (itRng lo n) m s H where
  sz := z
  go := fun m' s' H' i d e R' hd hi => by
    have hd : some (D.int (lo + i)) = some d := hd
    cases hd
    refine ⟨hi, fun x H2 ⟨e2, y⟩ => ?_⟩
    subst e2
    subst y
    exact ⟨fun _ _ q => q, rfl⟩
  stop := fun _ _ _ _ _ _ => Nat.le_refl _

theorem mi_plain {e : Expr} {f : Env → M D} (hK : X.K = G.K) (he : PE X e (tE G g f)) : PI X tg e (tI G g (fun r => M.bind (f r) fun x => M.pure [x]) .plain) := by
  refine impPI (PI_or (pi_list he) (pi_tup he)) fun a H Rk h => ?_
  obtain ⟨m, r, s, R, E, P⟩ := h
  have P1 := P.bindO.bindO
  cases q : f r s with
  | no => rw [q] at P1; exact P1.elim
  | exc x s1 =>
    rw [q] at P1
    exact .inl ⟨m, r, s, R, E, by rw [q]; exact P1⟩
  | ok d s1 =>
    rw [q] at P1
    have key : ∀ m1 H1, Ext m s H m1 s1 H1 → Rel G m1 s1 H1 → Post G m s H (wX G g.W a) (mkIt .plain [d] s1) (fun it m' s' H' => ∀ J, ItOk G J it m' s' H' → Rk J H') := fun m1 H1 e1 r1 => by
      have z := P1 m1 H1 e1 r1
      exact z.at_ e1 r1
    have bad : (∀ m1 H1, Ext m s H m1 s1 H1 → Rel G m1 s1 H1 → False) → iList X.K (tE G g f) a H Rk := fun hb => ⟨m, r, s, R, E, by rw [q]; exact fun m1 H1 e1 r1 => (hb m1 H1 e1 r1).elim⟩
    cases d with
    | tup ds =>
      refine .inr ⟨m, r, s, R, E, ?_⟩
      rw [q]
      intro m1 H1 e1 r1 v hv
      have P2 := key m1 H1 e1 r1
      have P3 := P2.at_ (a := itTup ds) (s' := s1) e1 r1
      unfold RV at hv
      obtain ⟨p, vs, rfl, q1, q2, q3⟩ := hv
      exact ⟨p, rfl, ⟨vs, .of q1⟩, P3 _ (it_tup X.K r1 q1 q2 q3)⟩
    | ref i =>
      refine .inl ⟨m, r, s, R, E, ?_⟩
      rw [q]
      intro m1 H1 e1 r1 v hv
      have P2 := key m1 H1 e1 r1
      have P2 : Post G m s H (wX G g.W a) (itPlain (.ref i) s1) _ := P2
      unfold itPlain at P2
      dsimp only at P2
      split at P2
      · rename_i xs hx
        have P3 := P2.at_ (a := itLst i xs.length) (s' := s1) e1 r1
        obtain ⟨vs, q1, q2, z⟩ := r1.lstAt hx
        unfold RV at hv
        obtain ⟨hi, rfl⟩ := hv
        refine ⟨m1 i, rfl, ⟨vs, by rw [hK]; exact q1⟩, P3 _ ?_⟩
        rw [hK]
        exact it_lst z hi
      · exact P2.elim
    | non => exact .inl (bad fun m1 H1 e1 r1 => key m1 H1 e1 r1)
    | bl b => exact .inl (bad fun m1 H1 e1 r1 => key m1 H1 e1 r1)
    | int b => exact .inl (bad fun m1 H1 e1 r1 => key m1 H1 e1 r1)
    | str b => exact .inl (bad fun m1 H1 e1 r1 => key m1 H1 e1 r1)
theorem mi_range1 {e : Expr} {p pos : Pos} {fs : Env → M (List D)} (hg : Gl X "range") (hm : X.mg "range" = none) (ha : PA X [e] (tL G g fs)) (hs : starEach [e] X.env = [(false, eval e X.env)]) :
    PI X tg (.Call (.Name "range" p) [e] [] pos) (tI G g fs .range1) := impPI (pi_range1 hg hm ha hs) fun a H Rk h => by
  obtain ⟨m, r, s, R, E, P⟩ := h
  refine ⟨m, r, s, R, E, P.bindO.imp fun ds m1 s1 H1 e1 r1 P1 vs hv => ?_⟩
  rcases ds with _ | ⟨d, _ | ⟨d2, ds⟩⟩
  · exact False.elim P1
  · obtain ⟨v, rfl, hv1⟩ := hv.one_inv
    have P1 : Post G m s H (wX G g.W a) (itR1 d s1) _ := P1
    unfold itR1 at P1
    cases d <;> (try dsimp only at P1) <;> first | exact P1.elim | skip
    obtain ⟨⟨c1, c2⟩, P1⟩ := Post.ite P1
    unfold RV at hv1
    subst hv1
    rw [sizeLine_eq] at c2
    refine ⟨_, rfl, c1, by omega, P1.at_ e1 r1 _ (it_rng (by rw [sizeLine_eq]; omega))⟩
  · exact False.elim P1
theorem mi_range2 {e e2 : Expr} {p pos : Pos} {fs : Env → M (List D)} (hg : Gl X "range") (hm : X.mg "range" = none) (ha : PA X [e, e2] (tL G g fs)) (hs : starEach [e, e2] X.env = [(false, eval e X.env), (false, eval e2 X.env)]) (hs2 : starEach [e2] X.env = [(false, eval e2 X.env)]) :
    PI X tg (.Call (.Name "range" p) [e, e2] [] pos) (tI G g fs .range2) := impPI (pi_range2 hg hm ha hs hs2) fun a H Rk h => by
  obtain ⟨m, r, s, R, E, P⟩ := h
  refine ⟨m, r, s, R, E, P.bindO.imp fun ds m1 s1 H1 e1 r1 P1 vs hv => ?_⟩
  rcases ds with _ | ⟨d, _ | ⟨d2, _ | ⟨d3, ds⟩⟩⟩
  · exact False.elim P1
  · exact False.elim P1
  · obtain ⟨v, w, rfl, hv1, hw1⟩ := hv.two_inv
    have P1 : Post G m s H (wX G g.W a) (itR2 d d2 s1) _ := P1
    unfold itR2 at P1
    cases d <;> cases d2 <;> (try dsimp only at P1) <;> first | exact P1.elim | skip
    obtain ⟨⟨c1, c2, c3, c4, c5⟩, P1⟩ := Post.ite P1
    unfold RV at hv1 hw1
    subst hv1 hw1
    rw [sizeLine_eq] at c5
    exact ⟨_, _, rfl, ⟨c1, c2, c3, c4⟩, P1.at_ e1 r1 _ (it_rng (by rw [sizeLine_eq]; omega))⟩
  · exact False.elim P1
end

/-! ### targets -/
/-- the slots that a target stores -/
def Tg.slots : Tg → List Nat
  | .nm i => [i]
  | .tp is => is
  | .tp2 i js => i :: js
/-- b is a but at the slots -/
def Same' (is : List Nat) (a b : AS) : Prop := b.length = a.length ∧ ∀ j, j ∉ is → b[j]? = a[j]?
section
variable {G : Gb} {m : Mp} {s : Sto} {H : Hp} {chi : Addr → Exn → Prop}
theorem RE.set {n : Nat} {a : AS} {r : Env} {v : V} {d : D} (E : RE chi m n H a r) (h : RV m n H v d) (i : Nat) : RE chi m n H (a.set i (some v)) (r.set i (.val d)) := by
  have hl := E.len
  refine ⟨by simp [hl], fun j e q => ?_, fun j x q => ?_⟩
  · by_cases hj : i = j
    · subst hj
      have hi : i < r.length := by
        have := (List.getElem?_eq_some_iff.mp q).1
        simpa using this
      rw [List.getElem?_set_self hi] at q
      cases q
      exact ⟨v, by rw [List.getElem?_set_self (by omega)], h⟩
    · rw [List.getElem?_set_ne hj] at q ⊢
      exact E.val j e q
  · by_cases hj : i = j
    · subst hj
      have hi : i < r.length := by
        have := (List.getElem?_eq_some_iff.mp q).1
        simpa using this
      rw [List.getElem?_set_self hi] at q
      cases q
    · rw [List.getElem?_set_ne hj] at q ⊢
      exact E.exc j x q
/-- a target's reading -/
def gNames : List Nat → TGs
  | [] => gNil
  | i :: is => gCons (gName i) (gNames is)
/-- a tuple or a list of that length -/
def gSq (K : PySem.W.Frag) (n : Nat) (t : TGs) : TG := fun v a H Q => gTup K n t v a H Q ∨ gUnl K n t v a H Q
def gOf (K : PySem.W.Frag) : Tg → TG
  | .nm i => gName i
  | .tp is => gSq K is.length (gNames is)
  | .tp2 i js => gTup K 2 (gCons (gName i) (gCons (gTup K js.length (gNames js)) gNil))
theorem names_ok {Q : AS → Hp → Prop} : ∀ (is : List Nat) (ds : List D) (vs : List V) (a : AS) (r : Env), is.length = ds.length → RVs m s.length H vs ds → RE chi m s.length H a r →
    (∀ b, RE chi m s.length H b (setAll is ds r) → Same' is a b → Q b H) → gNames is vs a H Q
  | [], ds, vs, a, r, hl, h, E, k => by
    cases ds with
    | nil =>
      unfold RVs at h
      exact ⟨h, k a E ⟨rfl, fun _ _ => rfl⟩⟩
    | cons d ds => simp at hl
  | i :: is, ds, vs, a, r, hl, h, E, k => by
    cases ds with
    | nil => simp at hl
    | cons d ds =>
      unfold RVs at h
      obtain ⟨v, w, rfl, h1, h2⟩ := h
      refine ⟨v, w, rfl, ?_⟩
      refine names_ok is ds w (a.set i (some v)) (r.set i (.val d)) (by simpa using hl) h2 (E.set h1 i) fun b hb hs => k b hb ⟨by rw [hs.1]; simp, fun j hj => ?_⟩
      have hj' : j ≠ i ∧ j ∉ is := by simpa using hj
      rw [hs.2 j hj'.2, List.getElem?_set_ne (Ne.symm hj'.1)]
theorem tgt_ok {t : Tg} {d : D} {v : V} {a : AS} {r r' : Env} {Q : AS → Hp → Prop} (R : Rel G m s H) (e : bindT t d r s = .ok r' s) (h : RV m s.length H v d) (E : RE chi m s.length H a r)
    (k : ∀ b, RE chi m s.length H b r' → Same' t.slots a b → Q b H) : gOf G.K t v a H Q := by
  cases t with
  | nm i =>
    have e2 : r.set i (.val d) = r' := by
      have : (Res.ok (r.set i (Slot.val d)) s : Res Env) = .ok r' s := e
      injection this
    subst e2
    refine k _ (E.set h i) ⟨by simp, fun j hj => ?_⟩
    have hj' : j ≠ i := by simpa [Tg.slots] using hj
    rw [List.getElem?_set_ne (Ne.symm hj')]
  | tp is =>
    cases d with
    | tup ds =>
      have e : (if is.length = ds.length then M.pure (setAll is ds r) else M.stuck : M Env) s = .ok r' s := e
      split at e
      · rename_i hl
        have e2 : setAll is ds r = r' := by
          have : (Res.ok (setAll is ds r) s : Res Env) = .ok r' s := e
          injection this
        subst e2
        unfold RV at h
        obtain ⟨p, vs, rfl, q1, q2, q3⟩ := h
        exact .inl ⟨p, vs, rfl, .of q1, by rw [q3.len, hl], names_ok is ds vs a r hl q3 E k⟩
      · cases e
    | ref i =>
      have e : (match lstAt s i with
        | some ds => if is.length = ds.length then .ok (setAll is ds r) s else .no
        | none => .no : Res Env) = .ok r' s := e
      cases q : lstAt s i with
      | none => rw [q] at e; cases e
      | some ds =>
        rw [q] at e
        dsimp only at e
        split at e
        · rename_i hl
          have e2 : setAll is ds r = r' := by injection e
          subst e2
          unfold RV at h
          obtain ⟨h1, rfl⟩ := h
          obtain ⟨vs, q1, q2, q3⟩ := R.lstAt q
          exact .inr ⟨_, vs, rfl, q1, by rw [q2.len, hl], names_ok is ds vs a r hl q2 E k⟩
        · cases e
    | _ => cases e
  | tp2 i js =>
    have key : ∃ d1 ds2, d = .tup [d1, .tup ds2] := by
      cases d <;> first | (cases e; done) | skip
      rename_i ds
      rcases ds with _ | ⟨d1, _ | ⟨d2, _ | ⟨d3, ds⟩⟩⟩ <;> first | (cases e; done) | skip
      all_goals cases d2 <;> first | (cases e; done) | exact ⟨d1, _, rfl⟩
    obtain ⟨d1, ds2, rfl⟩ := key
    have e : (if js.length = ds2.length then M.pure (setAll js ds2 (r.set i (.val d1))) else M.stuck : M Env) s = .ok r' s := e
    by_cases hl : js.length = ds2.length
    · rw [if_pos hl] at e
      have e2 : setAll js ds2 (r.set i (.val d1)) = r' := by
        have : (Res.ok (setAll js ds2 (r.set i (Slot.val d1))) s : Res Env) = .ok r' s := e
        injection this
      subst e2
      unfold RV at h
      obtain ⟨p, vs, rfl, q1, q2, q3⟩ := h
      obtain ⟨v1, v2, rfl, h1, h2⟩ := q3.two_inv
      unfold RV at h2
      obtain ⟨p2, ws, rfl, q4, q5, q6⟩ := h2
      refine ⟨p, _, rfl, .of q1, rfl, v1, [.ref p2], rfl, .ref p2, [], rfl, p2, ws, rfl, .of q4, by rw [q6.len, hl], ?_⟩
      refine names_ok js ds2 ws _ _ hl q6 (E.set h1 i) fun b hb hs => ⟨rfl, k b hb ⟨by rw [hs.1]; simp, fun j hj => ?_⟩⟩
      have hj' : j ≠ i ∧ j ∉ js := by simpa [Tg.slots] using hj
      rw [hs.2 j hj'.2, List.getElem?_set_ne (Ne.symm hj'.1)]
    · rw [if_neg hl] at e
      cases e
/-- the target's rule, by the names' rules -/
theorem bindT_cases (t : Tg) (d : D) (r : Env) (s : Sto) : bindT t d r s = .no ∨ ∃ r', bindT t d r s = .ok r' s := by
  have ifc : ∀ (c : Prop) [Decidable c] (r1 : Env), (if c then M.pure r1 else M.stuck : M Env) s = .no ∨ ∃ r', (if c then M.pure r1 else M.stuck : M Env) s = .ok r' s := fun c _ r1 => by
    split
    · exact .inr ⟨_, rfl⟩
    · exact .inl rfl
  cases t with
  | nm i => exact .inr ⟨_, rfl⟩
  | tp is =>
    cases d with
    | tup ds => exact ifc _ _
    | ref m =>
      show (match lstAt s m with
        | some ds => if is.length = ds.length then Res.ok (setAll is ds r) s else Res.no
        | none => Res.no) = .no ∨ ∃ r', (match lstAt s m with
        | some ds => if is.length = ds.length then Res.ok (setAll is ds r) s else Res.no
        | none => Res.no) = .ok r' s
      cases lstAt s m with
      | none => exact .inl rfl
      | some ds =>
        dsimp only
        by_cases hl : is.length = ds.length
        · rw [if_pos hl]; exact .inr ⟨_, rfl⟩
        · rw [if_neg hl]; exact .inl rfl
    | _ => exact .inl rfl
  | tp2 i js =>
    cases d with
    | tup ds =>
      match ds with
      | [d, .tup ds] => exact ifc _ _
      | [] => exact .inl rfl
      | [d] => exact .inl rfl
      | [d, .non] => exact .inl rfl
      | [d, .bl _] => exact .inl rfl
      | [d, .int _] => exact .inl rfl
      | [d, .str _] => exact .inl rfl
      | [d, .ref _] => exact .inl rfl
      | d :: .non :: _ :: _ => exact .inl rfl
      | d :: .bl _ :: _ :: _ => exact .inl rfl
      | d :: .int _ :: _ :: _ => exact .inl rfl
      | d :: .str _ :: _ :: _ => exact .inl rfl
      | d :: .tup _ :: _ :: _ => exact .inl rfl
      | d :: .ref _ :: _ :: _ => exact .inl rfl
    | _ => exact .inl rfl
end
end EW

set_option Elab.async false
set_option linter.all false
set_option maxRecDepth 100000
/-! M layer 10: list comprehensions. -/
namespace EW
open PySem PySem.Spec PyProof.Rows L2

theorem M.bind_assoc {α β γ : Type} (x : M α) (f : α → M β) (k : β → M γ) : M.bind (M.bind x f) k = M.bind x fun a => M.bind (f a) k := by
  funext s
  show M.bind (M.bind x f) k s = M.bind x (fun a => M.bind (f a) k) s
  unfold M.bind
  cases x s <;> rfl
theorem wipe_get (a : AS) (j : Nat) : ∀ vs : List Nat, (wipe a vs)[j]? = if j ∈ vs then (a[j]?).map (fun _ => none) else a[j]?
  | [] => rfl
  | v :: vs => by
    unfold wipe
    by_cases h : v = j
    · subst h
      rw [List.getElem?_set_self', wipe_get a v vs]
      simp only [List.mem_cons, true_or, if_true]
      split <;> cases a[v]? <;> rfl
    · rw [List.getElem?_set_ne h, wipe_get a j vs]
      have e : (j ∈ v :: vs) = (j ∈ vs) := by simp [Ne.symm h]
      simp only [e]
theorem wipeE_get (r : Env) (j : Nat) : ∀ vs : List Nat, (wipeE r vs)[j]? = if j ∈ vs then (r[j]?).map (fun _ => Slot.non) else r[j]?
  | [] => rfl
  | v :: vs => by
    unfold wipeE
    by_cases h : v = j
    · subst h
      rw [List.getElem?_set_self', wipeE_get r v vs]
      simp only [List.mem_cons, true_or, if_true]
      split <;> cases r[v]? <;> rfl
    · rw [List.getElem?_set_ne h, wipeE_get r j vs]
      have e : (j ∈ v :: vs) = (j ∈ vs) := by simp [Ne.symm h]
      simp only [e]
theorem wipeE_length (r : Env) : ∀ vs : List Nat, (wipeE r vs).length = r.length
  | [] => rfl
  | v :: vs => by unfold wipeE; rw [List.length_set, wipeE_length r vs]
theorem RE.wipe {chi : Addr → Exn → Prop} {m : Mp} {n : Nat} {H : Hp} {a : AS} {r : Env} (E : RE chi m n H a r) (vs : List Nat) : RE chi m n H (L2.wipe a vs) (wipeE r vs) := by
  refine ⟨by rw [wipe_length, wipeE_length]; exact E.len, fun i d h => ?_, fun i x h => ?_⟩
  · rw [wipeE_get] at h
    rw [wipe_get]
    by_cases hi : i ∈ vs
    · rw [if_pos hi] at h
      cases q : r[i]? with
      | none => rw [q] at h; cases h
      | some z => rw [q] at h; cases h
    · rw [if_neg hi] at h ⊢
      exact E.val i d h
  · rw [wipeE_get] at h
    rw [wipe_get]
    by_cases hi : i ∈ vs
    · rw [if_pos hi] at h
      cases q : r[i]? with
      | none => rw [q] at h; cases h
      | some z => rw [q] at h; cases h
    · rw [if_neg hi] at h ⊢
      exact E.exc i x h
theorem wipe_same {is vs : List Nat} {a b : AS} (h : Same' is (L2.wipe a vs) b) (hs : ∀ i ∈ is, i ∈ vs) : L2.wipe b vs = L2.wipe a vs := by
  have hl : b.length = a.length := by rw [h.1, wipe_length]
  refine List.ext_getElem? fun j => ?_
  rw [wipe_get, wipe_get]
  by_cases hj : j ∈ vs
  · rw [if_pos hj, if_pos hj]
    by_cases hlt : j < a.length
    · rw [List.getElem?_eq_getElem hlt, List.getElem?_eq_getElem (by omega)]
      rfl
    · rw [List.getElem?_eq_none (by omega), List.getElem?_eq_none (by omega)]
  · rw [if_neg hj, if_neg hj]
    rw [h.2 j fun q => hj (hs j q), wipe_get, if_neg hj]

section
variable {G : Gb} {m m1 m0 : Mp} {s s1 s0 : Sto} {H H1 H0 : Hp}
def Nown (m : Mp) (s : Sto) (p : Addr) : Prop := ∀ (i : Nat) (o : Ob), s[i]? = some o → isRol o = false → m i ≠ p
theorem Nown.ext {p : Addr} {u : HO} (h : Nown m s p) (e : Ext m s H m1 s1 H1) (hp : H p = some u) : Nown m1 s1 p := fun i o h1 h2 q => by
  by_cases hi : i < s.length
  · obtain ⟨o0, h0⟩ : ∃ o0, s[i]? = some o0 := ⟨s[i], by simp [hi]⟩
    obtain ⟨o', z1, z2, _⟩ := e.rol i o0 h0
    rw [h1] at z1; cases z1
    exact h i o0 h0 (z2.symm.trans h2) ((e.mu i hi).symm.trans q)
  · have hl : i < s1.length := (List.getElem?_eq_some_iff.mp h1).1
    have z := e.nw i (Nat.le_of_not_lt hi) hl
    rw [q, hp] at z; cases z
theorem Ext.side (e : Ext m0 s0 H0 m s H) {p : Addr} {u : HO} (h0 : H0 p = none) : Ext m0 s0 H0 m s (upd H p u) := by
  have ne : ∀ a o, H0 a = some o → a ≠ p := fun a o q z => by subst z; rw [h0] at q; cases q
  refine ⟨e.len, e.mu, e.rol, fun a o q hn => ?_, fun a o q => ?_, e.nw⟩
  · rw [upd_ne (ne a o q)]; exact e.fr a o q hn
  · rw [upd_ne (ne a o q)]; exact e.dm a o q
end

/-- the meaning of a list comprehension -/
def lcM (fs : Env → M (List D)) (k : IK) (tg : Tg) (fc : Env → M Bool) (fe : Env → M D) (vs : List Nat) : Env → M D := fun r => M.bind (fs r) fun xs => M.bind (mkIt k xs) fun it =>
  M.bind (lcGo it (lcBody tg fc fe (wipeE r vs)) it.n 0 []) fun acc => newO (.lst acc)
/-- within a comprehension nothing is raised -/
def Pm.in_ (g : Pm) : Pm := ⟨fun _ _ _ _ => False, g.chi⟩
theorem M.bind_def {α β : Type} (x : M α) (f : α → M β) (s : Sto) : M.bind x f s = match x s with
    | .ok a s' => f a s'
    | .exc e s' => .exc e s'
    | .no => .no := rfl
theorem M.bind_inv {α β : Type} {x : M α} {f : α → M β} {s s' : Sto} {b : β} (h : M.bind x f s = .ok b s') : ∃ a s1, x s = .ok a s1 ∧ f a s1 = .ok b s' := by
  have h : (match x s with
    | .ok a s' => f a s'
    | .exc e s' => .exc e s'
    | .no => .no) = .ok b s' := h
  cases q : x s with
  | ok a s1 => rw [q] at h; exact ⟨a, s1, rfl, h⟩
  | exc e s1 => rw [q] at h; cases h
  | no => rw [q] at h; cases h
theorem M.pure_inv {α : Type} {a b : α} {s s' : Sto} (h : M.pure a s = .ok b s') : a = b ∧ s = s' := by
  have h : Res.ok a s = .ok b s' := h
  injection h with h1 h2
  exact ⟨h1, h2⟩
theorem body_ok {tg : Tg} {fc : Env → M Bool} {fe : Env → M D} {r0 : Env} {x : D} {s s2 : Sto} {rr : Option D} (h : lcBody tg fc fe r0 x s = .ok rr s2) :
    ∃ r1 b s3, bindT tg x r0 s = .ok r1 s ∧ fc r1 s = .ok b s3 ∧ ((b = true ∧ ∃ y, fe r1 s3 = .ok y s2 ∧ rr = some y) ∨ (b = false ∧ rr = none ∧ s2 = s3)) := by
  unfold lcBody at h
  obtain ⟨r1, s', e, h⟩ := M.bind_inv h
  obtain ⟨b, s3, e2, h⟩ := M.bind_inv h
  rcases bindT_cases tg x r0 s with q | ⟨r2, q⟩
  · rw [q] at e; cases e
  · rw [q] at e
    cases e
    refine ⟨r1, b, s3, q, e2, ?_⟩
    cases b with
    | true =>
      obtain ⟨y, s4, e3, h⟩ := M.bind_inv h
      obtain ⟨h1, h2⟩ := M.pure_inv h
      subst h1 h2
      exact .inl ⟨rfl, y, e3, rfl⟩
    | false =>
      obtain ⟨h1, h2⟩ := M.pure_inv h
      exact .inr ⟨rfl, h1.symm, h2.symm⟩
theorem lcGo_succ {it : Itr} {body : D → M (Option D)} {n i : Nat} {acc : List D} {s : Sto} : lcGo it body (n + 1) i acc s = match it.at_ i s with
    | none => .no
    | some x => match body x s with
      | .ok r s1 => lcGo it body n (i + 1) (acc ++ r.toList) s1
      | _ => .no := rfl
theorem lcGo_zero {it : Itr} {body : D → M (Option D)} {i : Nat} {acc : List D} {s : Sto} : lcGo it body 0 i acc s = if it.fin s then .ok acc s else .no := rfl
theorem lcGo_step {G : Gb} {m1 : Mp} {s1 s' : Sto} {H1 : Hp} {Xp : XP} {it : Itr} {body : D → M (Option D)} {n i : Nat} {acc : List D} {f : List D → M D} {K : D → Mp → Sto → Hp → Prop}
    (P : Post G m1 s1 H1 Xp (M.bind (lcGo it body (n + 1) i acc) f s') K) : ∃ d rr s2, it.at_ i s' = some d ∧ body d s' = .ok rr s2 ∧ Post G m1 s1 H1 Xp (M.bind (lcGo it body n (i + 1) (acc ++ rr.toList)) f s2) K := by
  have e : M.bind (lcGo it body (n + 1) i acc) f s' = match it.at_ i s' with
      | none => .no
      | some x => match body x s' with
        | .ok r s1 => M.bind (lcGo it body n (i + 1) (acc ++ r.toList)) f s1
        | _ => .no := by
    rw [M.bind_def, lcGo_succ]
    cases it.at_ i s' with
    | none => rfl
    | some x =>
      dsimp only
      cases body x s' <;> rfl
  rw [e] at P
  cases q : it.at_ i s' with
  | none => rw [q] at P; exact P.elim
  | some d =>
    rw [q] at P
    dsimp only at P
    cases q2 : body d s' with
    | no => rw [q2] at P; exact P.elim
    | exc x s2 => rw [q2] at P; exact P.elim
    | ok rr s2 =>
      rw [q2] at P
      exact ⟨d, rr, s2, rfl, q2, P⟩

section
variable {G : Gb} {g : Pm} {X : Cx}
theorem lc_read {fs : Env → M (List D)} {k : IK} {tg : Tg} {fc : Env → M Bool} {fe : Env → M D} {vs : List Nat} {a : AS} {H : Hp} {Q : VK} (hsl : ∀ i ∈ tg.slots, i ∈ vs) (h : tE G g (lcM fs k tg fc fe vs) a H Q) :
    tLc (tI G g fs k) (gOf G.K tg) (tB G g.in_ fc) (tE G g.in_ fe) vs a H Q := by
  obtain ⟨m, r, s, R, E, P⟩ := h
  refine ⟨m, r, s, R, E, ?_⟩
  have P0 : Post G m s H (wX G g.W a) (M.bind (M.bind (fs r) (mkIt k)) (fun it => M.bind (lcGo it (lcBody tg fc fe (wipeE r vs)) it.n 0 []) fun acc => newO (.lst acc)) s) (fun d m' s' H' => ∀ v, RV m' s'.length H' v d → Q v H') := by
    rw [M.bind_assoc]; exact P
  refine P0.bind.imp fun it m1 s1 H1 e1 r1 P1 J hJ p hp => ?_
  refine ⟨fun i mm Hc => mm = it.n - i ∧ i ≤ it.n ∧ ∃ m' s' accD accV, Rel G m' s' Hc ∧ Ext m1 s1 H1 m' s' Hc ∧ Hc p = some (.lst accV) ∧ Nown m' s' p ∧ RVs m' s'.length Hc accV accD ∧ accD.length ≤ i ∧
    Post G m1 s1 H1 (wX G g.W a) (M.bind (lcGo it (lcBody tg fc fe (wipeE r vs)) (it.n - i) i accD) (fun acc => newO (.lst acc)) s') (fun d m' s' H' => ∀ v, RV m' s'.length H' v d → Q v H'), ?_, ?_⟩
  · obtain ⟨z1, z2⟩ := r1.same (upd_keep (o := .lst []) hp)
    refine ⟨it.n - 0, rfl, Nat.zero_le _, m1, s1, [], [], z1, z2, upd_same, fun i o h1 h2 q => ?_, by unfold RVs; rfl, Nat.le_refl _, P1⟩
    obtain ⟨u, h3, _⟩ := OR.own (r1.obs i o h1) h2
    rw [q, hp] at h3; cases h3
  · rintro i mm Hc ⟨rfl, hi, m', s', accD, accV, R', e', hD', no', rv', hl', P'⟩
    by_cases hlt : i < it.n
    · obtain ⟨n, hn⟩ : ∃ n, it.n - i = n + 1 := ⟨it.n - i - 1, by omega⟩
      have hn2 : it.n - (i + 1) = n := by omega
      rw [hn] at P'
      obtain ⟨d, rr, s2, q1, q2, P2⟩ := lcGo_step P'
      obtain ⟨r2, b, s3, b1, b2, b3⟩ := body_ok q2
      obtain ⟨go, step⟩ := hJ.go m' s' Hc i d (e'.stay r1) R' q1 hlt
      refine .inr ⟨go, fun H' => ∃ mm, mm = it.n - (i + 1) ∧ i + 1 ≤ it.n ∧ ∃ m' s' accD accV, Rel G m' s' H' ∧ Ext m1 s1 H1 m' s' H' ∧ H' p = some (.lst accV) ∧ Nown m' s' p ∧ RVs m' s'.length H' accV accD ∧ accD.length ≤ i + 1 ∧
        Post G m1 s1 H1 (wX G g.W a) (M.bind (lcGo it (lcBody tg fc fe (wipeE r vs)) (it.n - (i + 1)) (i + 1) accD) (fun acc => newO (.lst acc)) s') (fun d m' s' H' => ∀ v, RV m' s'.length H' v d → Q v H'), fun H' ⟨mm, h1, h2⟩ => ⟨mm, by omega, h1, h2⟩, fun x H2 hy => ?_⟩
      obtain ⟨keep, hx⟩ := step x H2 hy
      obtain ⟨R2, e2⟩ := R'.same keep
      have E1 : RE g.chi m' s'.length H2 (L2.wipe a vs) (wipeE r vs) := ((E.mono (((e1.trans e').trans e2).stay R))).wipe vs
      refine tgt_ok R2 b1 hx E1 fun c hc hsm => ⟨wipe_same hsm hsl, m', r2, s', R2, hc, ?_⟩
      rw [b2]
      intro m3 H3 e3 R3 v hv
      subst hv
      have hD3 : H3 p = some (.lst accV) := e3.fr p _ (keep _ _ hD') no'
      have no3 : Nown m3 s3 p := no'.ext e3 (keep _ _ hD')
      have ee3 : Ext m1 s1 H1 m3 s3 H3 := (e'.trans e2).trans e3
      have rv3 : RVs m3 s3.length H3 accV accD := RVs.mono (e3.stay R2) _ _ (RVs.mono (e2.stay R') _ _ rv')
      rcases b3 with ⟨rfl, y, b4, rfl⟩ | ⟨rfl, rfl, rfl⟩
      · refine iteT ⟨m3, r2, s3, R3, hc.mono (e3.stay R2), ?_⟩
        rw [b4]
        intro m4 H4 e4 R4 yv hyv
        have hD4 : H4 p = some (.lst accV) := e4.fr p _ hD3 no3
        have no4 : Nown m4 s2 p := no3.ext e4 hD3
        have rv4 : RVs m4 s2.length H4 accV accD := RVs.mono (e4.stay R3) _ _ rv3
        have hz : accV.length < sizeLine := by rw [rv4.len]; exact Nat.lt_of_le_of_lt hl' (Nat.lt_of_lt_of_le hlt hJ.sz)
        refine ⟨accV, hD4, hz, it.n - (i + 1), rfl, hlt, m4, s2, accD ++ [y], accV ++ [yv], ?_⟩
        obtain ⟨R5, st5⟩ := R4.side (u := .lst (accV ++ [yv])) hD4 no4
        refine ⟨R5, (ee3.trans e4).side hp, upd_same, no4, (RVs.mono st5 _ _ rv4).app (.one (RV.mono st5 _ _ hyv)), by simp; exact hl', ?_⟩
        rw [hn2]; exact P2
      · refine iteF ⟨it.n - (i + 1), rfl, hlt, m3, s2, accD, accV, R3, ee3, hD3, no3, rv3, Nat.le_succ_of_le hl', ?_⟩
        rw [hn2]
        have P3 := P2
        simp only [Option.toList, List.append_nil] at P3
        exact P3
    · have hin : i = it.n := by omega
      subst hin
      rw [Nat.sub_self] at P'
      rw [M.bind_def, lcGo_zero] at P'
      cases q : it.fin s' with
      | false =>
        rw [q] at P'
        exact P'.elim
      | true =>
        rw [q] at P'
        have P2 : Post G m1 s1 H1 (wX G g.W a) (.ok (.ref s'.length) (s' ++ [.lst accD])) (fun d m' s' H' => ∀ v, RV m' s'.length H' v d → Q v H') := P'
        obtain ⟨m5, R5, e5, h5⟩ := R'.adopt e' hD' hp no' rv' (by rw [rv'.len]; exact Nat.le_trans hl' hJ.sz)
        exact .inl ⟨hJ.stop m' s' Hc (e'.stay r1) R' q, P2.at_ e5 R5 _ h5⟩
/-- as a value -/
theorem me_lc {elt tgE iter : Expr} {ifs : List Expr} {scope : Scope} {own : List (Str × Nat)} {pos : Pos} {fs : Env → M (List D)} {k : IK} {tg : Tg} {fc : Env → M Bool} {fe : Env → M D} (hc : X.calm = true) (hN : X.N.Nodup) (hi : PI X tgE iter (tI G g fs k)) (ok : BlkOk X.N X.env.scope scope own)
    (hg : ∀ (s : Shared) (H : Hp) (C : Addr) (cl : List (Str × Addr)) (fp : List Addr), PG (X.blk s H scope (compEnvC scope cl C X.env) fp) tgE (gOf G.K tg)) (ht : ∀ (s : Shared) (H : Hp) (C : Addr) (cl : List (Str × Addr)) (fp : List Addr), PTs (X.blk s H scope (compEnvC scope cl C X.env) fp) ifs (tB G g.in_ fc))
    (he : ∀ (s : Shared) (H : Hp) (C : Addr) (cl : List (Str × Addr)) (fp : List Addr), PE (X.blk s H scope (compEnvC scope cl C X.env) fp) elt (tE G g.in_ fe)) (hs : ∀ x, foldedSetIterable iter X.env x = pure x) (hsl : ∀ i ∈ tg.slots, i ∈ own.map (·.2)) :
    PE X (.ListComp elt [⟨tgE, iter, ifs, 0⟩] scope pos) (tE G g (lcM fs k tg fc fe (own.map (·.2)))) := impPE (pe_lc hc hN hi ok hg ht he hs) fun a H Q h => lc_read hsl h
end
end EW

set_option Elab.async false
set_option linter.all false
set_option maxRecDepth 100000
set_option maxHeartbeats 0
/-! M layer L: list comprehensions of two fors. -/
namespace EW
open PySem PySem.Spec PyProof.Rows L2
def lc2M (fs : Env → M (List D)) (k : IK) (tg : Tg) (fc : Env → M Bool) (fs1 : Env → M (List D)) (k1 : IK) (tg1 : Tg) (fc1 : Env → M Bool) (fe : Env → M D) (vs vs1 : List Nat) : Env → M D := fun r => M.bind (fs r) fun xs => M.bind (mkIt k xs) fun it =>
  M.bind (lcOut it tg fc (lcIn fs1 k1 tg1 fc1 fe vs1) (wipeE r vs) it.n 0 []) fun acc => newO (.lst acc)
theorem lcOut_zero {it : Itr} {tg : Tg} {fc : Env → M Bool} {inn : Env → List D → M (List D)} {r0 : Env} {i : Nat} {acc : List D} {s : Sto} : lcOut it tg fc inn r0 0 i acc s = if it.fin s then .ok acc s else .no := rfl
/-- one turn of the outer for -/
theorem lcOut_step {G : Gb} {m1 : Mp} {s1 s' : Sto} {H1 : Hp} {Xp : XP} {it : Itr} {tg : Tg} {fc : Env → M Bool} {inn : Env → List D → M (List D)} {r0 : Env} {n i : Nat} {acc : List D} {f : List D → M D} {K : D → Mp → Sto → Hp → Prop}
    (P : Post G m1 s1 H1 Xp (M.bind (lcOut it tg fc inn r0 (n + 1) i acc) f s') K) : ∃ d r1 b s2, it.at_ i s' = some d ∧ bindT tg d r0 s' = .ok r1 s' ∧ fc r1 s' = .ok b s2 ∧
      ((b = true ∧ ∃ acc2 s3, inn r1 acc s2 = .ok acc2 s3 ∧ acc2.length ≤ sizeLine ∧ Post G m1 s1 H1 Xp (M.bind (lcOut it tg fc inn r0 n (i + 1) acc2) f s3) K) ∨ (b = false ∧ Post G m1 s1 H1 Xp (M.bind (lcOut it tg fc inn r0 n (i + 1) acc) f s2) K)) := by
  rw [M.bind_def] at P
  unfold lcOut at P
  cases q : it.at_ i s' with
  | none => rw [q] at P; exact P.elim
  | some d =>
    rw [q] at P
    dsimp only at P
    rcases bindT_cases tg d r0 s' with q2 | ⟨r1, q2⟩
    · rw [q2] at P; exact P.elim
    · rw [q2] at P
      dsimp only at P
      cases q3 : fc r1 s' with
      | no => rw [q3] at P; exact P.elim
      | exc x s2 => rw [q3] at P; exact P.elim
      | ok b s2 =>
        rw [q3] at P
        refine ⟨d, r1, b, s2, rfl, q2, q3, ?_⟩
        cases b with
        | false =>
          refine .inr ⟨rfl, ?_⟩
          rw [M.bind_def]
          exact P
        | true =>
          dsimp only at P
          rw [if_pos rfl] at P
          cases q4 : inn r1 acc s2 with
          | no => rw [q4] at P; exact P.elim
          | exc x s3 => rw [q4] at P; exact P.elim
          | ok acc2 s3 =>
            rw [q4] at P
            dsimp only at P
            by_cases hz : acc2.length ≤ sizeLine
            · rw [if_pos hz] at P
              refine .inl ⟨rfl, acc2, s3, rfl, hz, ?_⟩
              rw [M.bind_def]
              exact P
            · rw [if_neg hz] at P; exact P.elim
/-- the inner for only adds -/
theorem lcGo_len {it : Itr} {body : D → M (Option D)} : ∀ {n i : Nat} {acc acc2 : List D} {s s2 : Sto}, lcGo it body n i acc s = .ok acc2 s2 → acc.length ≤ acc2.length
  | 0, i, acc, acc2, s, s2, h => by
    rw [lcGo_zero] at h
    split at h
    · cases h; exact Nat.le_refl _
    · cases h
  | n + 1, i, acc, acc2, s, s2, h => by
    rw [lcGo_succ] at h
    split at h
    · cases h
    · split at h
      · have := lcGo_len h
        rw [List.length_append] at this
        omega
      · cases h
theorem Stay.trans {m m' m'' : Mp} {n n' n'' : Nat} {H H' H'' : Hp} (a : Stay m n H m' n' H') (b : Stay m' n' H' m'' n'' H'') : Stay m n H m'' n'' H'' :=
  ⟨Nat.le_trans a.le b.le, fun i hi => (b.mu i (Nat.lt_of_lt_of_le hi a.le)).trans (a.mu i hi), fun x vs q => b.tup x vs (a.tup x vs q)⟩
section
variable {G : Gb} {g : Pm} {X : Cx}
theorem lc2_read {fs fs1 : Env → M (List D)} {k k1 : IK} {tg tg1 : Tg} {fc fc1 : Env → M Bool} {fe : Env → M D} {vs vs1 : List Nat} {a : AS} {H : Hp} {Q : VK} (hsl : ∀ i ∈ tg.slots, i ∈ vs) (hsl1 : ∀ i ∈ tg1.slots, i ∈ vs1) (h : tE G g (lc2M fs k tg fc fs1 k1 tg1 fc1 fe vs vs1) a H Q) :
    tLc2 (tI G g fs k) (gOf G.K tg) (tB G g.in_ fc) (tI G g.in_ fs1 k1) (gOf G.K tg1) (tB G g.in_ fc1) (tE G g.in_ fe) vs vs1 a H Q := by
  obtain ⟨m, r, s, R, E, P⟩ := h
  refine ⟨m, r, s, R, E, ?_⟩
  have P0 : Post G m s H (wX G g.W a) (M.bind (M.bind (fs r) (mkIt k)) (fun it => M.bind (lcOut it tg fc (lcIn fs1 k1 tg1 fc1 fe vs1) (wipeE r vs) it.n 0 []) fun acc => newO (.lst acc)) s) (fun d m' s' H' => ∀ v, RV m' s'.length H' v d → Q v H') := by
    rw [M.bind_assoc]; exact P
  refine P0.bind.imp fun it m1 s1 H1 e1 r1 P1 J hJ p hp => ?_
  refine ⟨fun i mm Hc => mm = it.n - i ∧ i ≤ it.n ∧ ∃ m' s' accD accV, Rel G m' s' Hc ∧ Ext m1 s1 H1 m' s' Hc ∧ Hc p = some (.lst accV) ∧ Nown m' s' p ∧ RVs m' s'.length Hc accV accD ∧ accD.length ≤ sizeLine ∧
    Post G m1 s1 H1 (wX G g.W a) (M.bind (lcOut it tg fc (lcIn fs1 k1 tg1 fc1 fe vs1) (wipeE r vs) (it.n - i) i accD) (fun acc => newO (.lst acc)) s') (fun d m' s' H' => ∀ v, RV m' s'.length H' v d → Q v H'), ?_, ?_⟩
  · obtain ⟨z1, z2⟩ := r1.same (upd_keep (o := .lst []) hp)
    refine ⟨it.n - 0, rfl, Nat.zero_le _, m1, s1, [], [], z1, z2, upd_same, fun i o h1 h2 q => ?_, by unfold RVs; rfl, Nat.zero_le _, P1⟩
    obtain ⟨u, h3, _⟩ := OR.own (r1.obs i o h1) h2
    rw [q, hp] at h3; cases h3
  · rintro i mm Hc ⟨rfl, hi, m', s', accD, accV, R', e', hD', no', rv', hl', P'⟩
    by_cases hlt : i < it.n
    · obtain ⟨n, hn⟩ : ∃ n, it.n - i = n + 1 := ⟨it.n - i - 1, by omega⟩
      have hn2 : it.n - (i + 1) = n := by omega
      rw [hn] at P'
      obtain ⟨d, r2, b, s2, q1, b1, b2, b3⟩ := lcOut_step P'
      obtain ⟨go, step⟩ := hJ.go m' s' Hc i d (e'.stay r1) R' q1 hlt
      refine .inr ⟨go, fun H' => ∃ mm, mm = it.n - (i + 1) ∧ i + 1 ≤ it.n ∧ ∃ m' s' accD accV, Rel G m' s' H' ∧ Ext m1 s1 H1 m' s' H' ∧ H' p = some (.lst accV) ∧ Nown m' s' p ∧ RVs m' s'.length H' accV accD ∧ accD.length ≤ sizeLine ∧
        Post G m1 s1 H1 (wX G g.W a) (M.bind (lcOut it tg fc (lcIn fs1 k1 tg1 fc1 fe vs1) (wipeE r vs) (it.n - (i + 1)) (i + 1) accD) (fun acc => newO (.lst acc)) s') (fun d m' s' H' => ∀ v, RV m' s'.length H' v d → Q v H'), fun H' ⟨mm, h1, h2⟩ => ⟨mm, by omega, h1, h2⟩, fun x H2 hy => ?_⟩
      obtain ⟨keep, hx⟩ := step x H2 hy
      obtain ⟨R2, e2⟩ := R'.same keep
      have E1 : RE g.chi m' s'.length H2 (L2.wipe a vs) (wipeE r vs) := ((E.mono (((e1.trans e').trans e2).stay R))).wipe vs
      refine tgt_ok R2 b1 hx E1 fun c hc hsm => ⟨wipe_same hsm hsl, m', r2, s', R2, hc, ?_⟩
      rw [b2]
      intro m3 H3 e3 R3 v hv
      subst hv
      have hD3 : H3 p = some (.lst accV) := e3.fr p _ (keep _ _ hD') no'
      have no3 : Nown m3 s2 p := no'.ext e3 (keep _ _ hD')
      have ee3 : Ext m1 s1 H1 m3 s2 H3 := (e'.trans e2).trans e3
      have rv3 : RVs m3 s2.length H3 accV accD := RVs.mono (e3.stay R2) _ _ (RVs.mono (e2.stay R') _ _ rv')
      rcases b3 with ⟨rfl, acc2, s3, b4, hz2, P2⟩ | ⟨rfl, P2⟩
      · refine iteT ⟨m3, r2, s2, R3, hc.mono (e3.stay R2), ?_⟩
        obtain ⟨xs1, sA, c1, c2⟩ := M.bind_inv b4
        obtain ⟨it1, sB, c3, c4⟩ := M.bind_inv c2
        have c5 : M.bind (fs1 r2) (mkIt k1) s2 = .ok it1 sB := by
          rw [M.bind_def, c1]
          exact c3
        rw [c5]
        intro mB HB eB RB J1 hJ1
        have hDB : HB p = some (.lst accV) := eB.fr p _ hD3 no3
        have noB : Nown mB sB p := no3.ext eB hD3
        have eeB : Ext m1 s1 H1 mB sB HB := ee3.trans eB
        have rvB : RVs mB sB.length HB accV accD := RVs.mono (eB.stay R3) _ _ rv3
        have EB : RE g.chi mB sB.length HB c r2 := (hc.mono (e3.stay R2)).mono (eB.stay R3)
        refine ⟨fun j kk Hj => kk = it1.n - j ∧ j ≤ it1.n ∧ ∃ m' s' aD aV, Rel G m' s' Hj ∧ Ext m1 s1 H1 m' s' Hj ∧ Stay mB sB.length HB m' s'.length Hj ∧ Hj p = some (.lst aV) ∧ Nown m' s' p ∧ RVs m' s'.length Hj aV aD ∧
          lcGo it1 (lcBody tg1 fc1 fe (wipeE r2 vs1)) (it1.n - j) j aD s' = .ok acc2 s3, ⟨it1.n, rfl, Nat.zero_le _, mB, sB, accD, accV, RB, eeB, ⟨Nat.le_refl _, fun _ _ => rfl, fun _ _ q => q⟩, hDB, noB, rvB, c4⟩, ?_⟩
        rintro j kk Hj ⟨rfl, hj, mj, sj, aD, aV, Rj, ej, stj, hDj, noj, rvj, cj⟩
        by_cases hjl : j < it1.n
        · obtain ⟨nj, hnj⟩ : ∃ n, it1.n - j = n + 1 := ⟨it1.n - j - 1, by omega⟩
          have hnj2 : it1.n - (j + 1) = nj := by omega
          rw [hnj, lcGo_succ] at cj
          cases q5 : it1.at_ j sj with
          | none => rw [q5] at cj; cases cj
          | some dj =>
            rw [q5] at cj
            dsimp only at cj
            cases q6 : lcBody tg1 fc1 fe (wipeE r2 vs1) dj sj with
            | no => rw [q6] at cj; cases cj
            | exc y s9 => rw [q6] at cj; cases cj
            | ok rr s4 =>
              rw [q6] at cj
              dsimp only at cj
              obtain ⟨r3, bj, s5, y1, y2, y3⟩ := body_ok q6
              obtain ⟨goj, stepj⟩ := hJ1.go mj sj Hj j dj stj Rj q5 hjl
              refine .inr ⟨goj, fun H' => ∃ kk, kk = it1.n - (j + 1) ∧ j + 1 ≤ it1.n ∧ ∃ m' s' aD aV, Rel G m' s' H' ∧ Ext m1 s1 H1 m' s' H' ∧ Stay mB sB.length HB m' s'.length H' ∧ H' p = some (.lst aV) ∧ Nown m' s' p ∧ RVs m' s'.length H' aV aD ∧
                lcGo it1 (lcBody tg1 fc1 fe (wipeE r2 vs1)) (it1.n - (j + 1)) (j + 1) aD s' = .ok acc2 s3, fun H' ⟨kk, h1, h2⟩ => ⟨kk, by omega, h1, h2⟩, fun x H6 hy6 => ?_⟩
              obtain ⟨keep6, hx6⟩ := stepj x H6 hy6
              obtain ⟨R6, e6⟩ := Rj.same keep6
              have E6 : RE g.chi mj sj.length H6 (L2.wipe c vs1) (wipeE r2 vs1) := ((EB.mono stj).mono (e6.stay Rj)).wipe vs1
              refine tgt_ok R6 y1 hx6 E6 fun c6 hc6 hsm6 => ⟨wipe_same hsm6 hsl1, mj, r3, sj, R6, hc6, ?_⟩
              rw [y2]
              intro m7 H7 e7 R7 v7 hv7
              subst hv7
              have hD7 : H7 p = some (.lst aV) := e7.fr p _ (keep6 _ _ hDj) noj
              have no7 : Nown m7 s5 p := noj.ext e7 (keep6 _ _ hDj)
              have ee7 : Ext m1 s1 H1 m7 s5 H7 := (ej.trans e6).trans e7
              have rv7 : RVs m7 s5.length H7 aV aD := RVs.mono (e7.stay R6) _ _ (RVs.mono (e6.stay Rj) _ _ rvj)
              have st7 : Stay mB sB.length HB m7 s5.length H7 := (stj.trans (e6.stay Rj)).trans (e7.stay R6)
              rcases y3 with ⟨rfl, y, y4, rfl⟩ | ⟨rfl, rfl, rfl⟩
              · refine iteT ⟨m7, r3, s5, R7, hc6.mono (e7.stay R6), ?_⟩
                rw [y4]
                intro m8 H8 e8 R8 yv hyv
                have hD8 : H8 p = some (.lst aV) := e8.fr p _ hD7 no7
                have no8 : Nown m8 s4 p := no7.ext e8 hD7
                have rv8 : RVs m8 s4.length H8 aV aD := RVs.mono (e8.stay R7) _ _ rv7
                have hl8 := lcGo_len cj
                have hz : aV.length < sizeLine := by
                  rw [rv8.len]
                  simp only [Option.toList, List.length_append, List.length_singleton] at hl8
                  omega
                refine ⟨aV, hD8, hz, it1.n - (j + 1), rfl, hjl, m8, s4, aD ++ [y], aV ++ [yv], ?_⟩
                obtain ⟨R9, st9⟩ := R8.side (u := .lst (aV ++ [yv])) hD8 no8
                refine ⟨R9, (ee7.trans e8).side hp, (st7.trans (e8.stay R7)).trans st9, upd_same, no8, (RVs.mono st9 _ _ rv8).app (.one (RV.mono st9 _ _ hyv)), ?_⟩
                rw [hnj2]; exact cj
              · refine iteF ⟨it1.n - (j + 1), rfl, hjl, m7, s4, aD, aV, R7, ee7, st7, hD7, no7, rv7, ?_⟩
                rw [hnj2]
                simp only [Option.toList, List.append_nil] at cj
                exact cj
        · have hjn : j = it1.n := by omega
          subst hjn
          rw [Nat.sub_self, lcGo_zero] at cj
          cases q : it1.fin sj with
          | false => rw [q] at cj; cases cj
          | true =>
            rw [q] at cj
            cases cj
            refine .inl ⟨hJ1.stop mj s3 Hj stj Rj q, it.n - (i + 1), rfl, hlt, mj, s3, acc2, aV, Rj, ej, hDj, noj, rvj, hz2, ?_⟩
            rw [hn2]; exact P2
      · refine iteF ⟨it.n - (i + 1), rfl, hlt, m3, s2, accD, accV, R3, ee3, hD3, no3, rv3, hl', ?_⟩
        rw [hn2]; exact P2
    · have hin : i = it.n := by omega
      subst hin
      rw [Nat.sub_self] at P'
      rw [M.bind_def, lcOut_zero] at P'
      cases q : it.fin s' with
      | false =>
        rw [q] at P'
        exact P'.elim
      | true =>
        rw [q] at P'
        have P2 : Post G m1 s1 H1 (wX G g.W a) (.ok (.ref s'.length) (s' ++ [.lst accD])) (fun d m' s' H' => ∀ v, RV m' s'.length H' v d → Q v H') := P'
        obtain ⟨m5, R5, e5, h5⟩ := R'.adopt e' hD' hp no' rv' (by rw [rv'.len]; exact hl')
        exact .inl ⟨hJ.stop m' s' Hc (e'.stay r1) R' q, P2.at_ e5 R5 _ h5⟩
theorem me_lc2 {elt tgE iter tgE1 iter1 : Expr} {ifs ifs1 : List Expr} {scope : Scope} {own : List (Str × Nat)} {vs1 : List Nat} {pos : Pos} {fs fs1 : Env → M (List D)} {k k1 : IK} {tg tg1 : Tg} {fc fc1 : Env → M Bool} {fe : Env → M D} (hc : X.calm = true) (hN : X.N.Nodup) (hi : PI X tgE iter (tI G g fs k)) (ok : BlkOk X.N X.env.scope scope own) (hv : ∀ i ∈ vs1, i ∈ own.map (·.2))
    (hg : ∀ (s : Shared) (H : Hp) (C : Addr) (cl : List (Str × Addr)) (fp : List Addr), PG (X.blk s H scope (compEnvC scope cl C X.env) fp) tgE (gOf G.K tg)) (ht : ∀ (s : Shared) (H : Hp) (C : Addr) (cl : List (Str × Addr)) (fp : List Addr), PTs (X.blk s H scope (compEnvC scope cl C X.env) fp) ifs (tB G g.in_ fc))
    (hi1 : ∀ (s : Shared) (H : Hp) (C : Addr) (cl : List (Str × Addr)) (fp : List Addr), PI (X.blk s H scope (compEnvC scope cl C X.env) fp) tgE1 iter1 (tI G g.in_ fs1 k1))
    (hg1 : ∀ (s : Shared) (H : Hp) (C : Addr) (cl : List (Str × Addr)) (fp : List Addr), PG (X.blk s H scope (compEnvC scope cl C X.env) fp) tgE1 (gOf G.K tg1)) (ht1 : ∀ (s : Shared) (H : Hp) (C : Addr) (cl : List (Str × Addr)) (fp : List Addr), PTs (X.blk s H scope (compEnvC scope cl C X.env) fp) ifs1 (tB G g.in_ fc1))
    (he : ∀ (s : Shared) (H : Hp) (C : Addr) (cl : List (Str × Addr)) (fp : List Addr), PE (X.blk s H scope (compEnvC scope cl C X.env) fp) elt (tE G g.in_ fe)) (hs : ∀ x, foldedSetIterable iter X.env x = pure x) (hs1 : ∀ env x, foldedSetIterable iter1 env x = pure x) (hsl : ∀ i ∈ tg.slots, i ∈ own.map (·.2)) (hsl1 : ∀ i ∈ tg1.slots, i ∈ vs1) :
    PE X (.ListComp elt [⟨tgE, iter, ifs, 0⟩, ⟨tgE1, iter1, ifs1, 0⟩] scope pos) (tE G g (lc2M fs k tg fc fs1 k1 tg1 fc1 fe (own.map (·.2)) vs1)) := impPE (pe_lc2 hc hN hi ok hv hg ht hi1 hg1 ht1 he hs hs1) fun a H Q h => lc2_read hsl hsl1 h
end
end EW

set_option Elab.async false
set_option linter.all false
set_option maxRecDepth 100000
/-! M layer 11: statements. -/
namespace EW
open PySem PySem.Spec PyProof.Rows L2

def PostS (G : Gb) (g : Pm) (m : Mp) (s : Sto) (H : Hp) (q : SRes) (D : Ends) : Prop := match q with
  | .nx r s' => ∀ m' a' H', Ext m s H m' s' H' → Rel G m' s' H' → RE g.chi m' s'.length H' a' r → D.nx a' H'
  | .rt d s' => ∀ m' H' v, Ext m s H m' s' H' → Rel G m' s' H' → RV m' s'.length H' v d → D.rt v H'
  | .ex x r s' => ∀ m' a' H' cls dd, Ext m s H m' s' H' → Rel G m' s' H' → RE g.chi m' s'.length H' a' r → XR G m' s'.length H' cls dd x → g.W cls dd a' H'
  | .no => False
def tS (G : Gb) (g : Pm) (f : Env → Sto → SRes) : TS := fun D a H => ∃ m r s, Rel G m s H ∧ RE g.chi m s.length H a r ∧ PostS G g m s H (f r s) D
section
variable {G : Gb} {g : Pm} {m m1 : Mp} {s s1 : Sto} {H H1 : Hp} {D D' : Ends} {α : Type}
theorem PostS.rebase {q : SRes} (e : Ext m s H m1 s1 H1) (h : PostS G g m s H q D) : PostS G g m1 s1 H1 q D := by
  cases q with
  | nx r s2 => exact fun m2 a2 H2 e2 => h m2 a2 H2 (e.trans e2)
  | rt d s2 => exact fun m2 H2 v e2 => h m2 H2 v (e.trans e2)
  | ex x r s2 => exact fun m2 a2 H2 c d e2 => h m2 a2 H2 c d (e.trans e2)
  | no => exact h
theorem PostS.lift {x : M α} {r : Env} {k : α → Sto → SRes} {a : AS} (h : PostS G g m s H (EW.lift x r k s) D) (E : RE g.chi m s.length H a r) (R : Rel G m s H) :
    Post G m s H (wX G g.W a) (x s) (fun d m1 s1 H1 => PostS G g m s H (k d s1) D) := by
  unfold EW.lift at h
  cases q : x s with
  | ok d s1 => rw [q] at h; exact fun _ _ _ _ => h
  | exc e s1 =>
    rw [q] at h
    exact fun m1 H1 e1 r1 cls dd hx => h m1 a H1 cls dd e1 r1 (E.mono (e1.stay R)) hx
  | no => rw [q] at h; exact h
end
section
variable {G : Gb} {g : Pm} {X : Cx} {e : Expr} {fe : Env → M EW.D} {pos : Pos}
theorem mss_nil : PSs X [] (tS G g fun r s => .nx r s) := impPSs pss_nil fun D a H h => by
  obtain ⟨m, r, s, R, E, P⟩ := h
  exact P m a H Ext.refl R E
theorem mss_cons {st : Stmt} {rest : List Stmt} {f1 f2 : Env → Sto → SRes} (h1 : PS X st (tS G g f1)) (h2 : PSs X rest (tS G g f2)) :
    PSs X (st :: rest) (tS G g fun r s => match f1 r s with
      | .nx r1 s1 => f2 r1 s1
      | q => q) := impPSs (pss_cons h1 h2) fun D a H h => by
  obtain ⟨m, r, s, R, E, P⟩ := h
  refine ⟨m, r, s, R, E, ?_⟩
  dsimp only at P
  cases q : f1 r s with
  | nx r1 s1 =>
    rw [q] at P
    exact fun m1 a1 H1 e1 R1 E1 => ⟨m1, r1, s1, R1, E1, PostS.rebase e1 P⟩
  | rt d s1 => rw [q] at P; exact P
  | ex x r1 s1 => rw [q] at P; exact P
  | no => rw [q] at P; exact P
theorem ms_expr (he : PE X e (tE G g fe)) (hs : swapsWith e none pos.line X.env = pure false) : PS X (.Expr e pos) (tS G g fun r s => lift (fe r) r (fun _ s1 => .nx r s1) s) := impPS (ps_expr he hs) fun D a H h => by
  obtain ⟨m, r, s, R, E, P⟩ := h
  exact ⟨m, r, s, R, E, (P.lift E R).imp fun d m1 s1 H1 e1 R1 P1 v hv => P1 m1 a H1 e1 R1 (E.mono (e1.stay R))⟩
theorem ms_ret (he : PE X e (tE G g fe)) : PS X (.Return (some e) pos) (tS G g fun r s => lift (fe r) r (fun v s1 => .rt v s1) s) := impPS (ps_ret he) fun D a H h => by
  obtain ⟨m, r, s, R, E, P⟩ := h
  exact ⟨m, r, s, R, E, (P.lift E R).imp fun d m1 s1 H1 e1 R1 P1 v hv => P1 m1 H1 v e1 R1 hv⟩
theorem ms_retn : PS X (.Return none pos) (tS G g fun r s => .rt .non s) := impPS ps_retN fun D a H h => by
  obtain ⟨m, r, s, R, E, P⟩ := h
  exact P m H .non Ext.refl R (by unfold RV; rfl)
theorem ms_nop {st : Stmt} (h : PS X st tNext) : PS X st (tS G g fun r s => .nx r s) := impPS h fun D a H h => by
  obtain ⟨m, r, s, R, E, P⟩ := h
  exact P m a H Ext.refl R E
theorem ms_if {c : Expr} {p q : List Stmt} {tc : Env → M Bool} {f1 f2 : Env → Sto → SRes} (hc : PT X c (tB G g tc)) (h1 : PSs X p (tS G g f1)) (h2 : PSs X q (tS G g f2)) :
    PS X (.If c p q pos) (tS G g fun r s => match tc r s with
      | .ok k s1 => if k = true then f1 r s1 else f2 r s1
      | .exc x s1 => .ex x r s1
      | .no => .no) := impPS (ps_if hc h1 h2) fun D a H h => by
  obtain ⟨m, r, s, R, E, P⟩ := h
  refine ⟨m, r, s, R, E, ?_⟩
  dsimp only at P
  cases z : tc r s with
  | ok k s1 =>
    rw [z] at P
    intro m1 H1 e1 R1 v hv
    subst hv
    cases v with
    | true => exact iteT ⟨m1, r, s1, R1, E.mono (e1.stay R), PostS.rebase e1 P⟩
    | false => exact iteF ⟨m1, r, s1, R1, E.mono (e1.stay R), PostS.rebase e1 P⟩
  | exc x s1 =>
    rw [z] at P
    exact fun m1 H1 e1 R1 cls dd hx => P m1 a H1 cls dd e1 R1 (E.mono (e1.stay R)) hx
  | no => rw [z] at P; exact P
/-- target = value -/
theorem ms_asg {tgE : Expr} {t : Tg} (he : PE X e (tE G g fe)) (hg : PG X tgE (gOf G.K t)) (hs : swapsWithSole [tgE] e pos.line X.env = pure false) (hw : swappedStores [tgE] e X.env = pure none)
    (h1 : (assignEach [tgE] X.env).map (·.2) = [assign tgE X.env]) : PS X (.Assign [tgE] e pos) (tS G g fun r s => lift (M.bind (fe r) fun x => bindT t x r) r (fun r1 s1 => .nx r1 s1) s) := impPS (ps_asg he hg hs hw h1) fun D a H h => by
  obtain ⟨m, r, s, R, E, P⟩ := h
  refine ⟨m, r, s, R, E, (P.lift E R).bindO.imp fun d m1 s1 H1 e1 R1 P1 v hv => ?_⟩
  rcases bindT_cases t d r s1 with q | ⟨r1, q⟩
  · rw [q] at P1; exact P1.elim
  · rw [q] at P1
    have P2 := P1.at_ e1 R1
    exact tgt_ok R1 q hv (E.mono (e1.stay R)) fun b hb _ => P2 m1 b H1 e1 R1 hb
theorem FR.put {fN : Nat → Str} {m : Mp} {n : Nat} {H : Hp} {f : Nat} {v : V} {d : EW.D} : ∀ {fs : List (Nat × EW.D)} {vs : List (Str × V)}, FR fN m n H vs fs → (∀ p ∈ fs, fN p.1 = fN f → p.1 = f) → RV m n H v d → FR fN m n H (putF (fN f) v vs) (putA f d fs)
  | [], vs, h, _, hv => by
    unfold FR at h
    subst h
    show FR fN m n H [(fN f, v)] [(f, d)]
    unfold FR
    exact ⟨v, [], rfl, hv, by unfold FR; rfl⟩
  | p :: r, vs, h, i, hv => by
    unfold FR at h
    obtain ⟨w, u, rfl, h1, h2⟩ := h
    unfold putF putA
    by_cases q : p.1 = f
    · rw [if_pos (by rw [q]), if_pos q]
      subst q
      unfold FR
      exact ⟨v, u, rfl, hv, h2⟩
    · rw [if_neg fun z => q (i p List.mem_cons_self z), if_neg q]
      unfold FR
      exact ⟨w, _, rfl, h1, FR.put h2 (fun p hp => i p (List.mem_cons_of_mem _ hp)) hv⟩
theorem FR.len {fN : Nat → Str} {m : Mp} {n : Nat} {H : Hp} : ∀ {fs : List (Nat × EW.D)} {vs : List (Str × V)}, FR fN m n H vs fs → vs.length = fs.length
  | [], vs, h => by unfold FR at h; subst h; rfl
  | p :: r, vs, h => by
    unfold FR at h
    obtain ⟨w, u, rfl, h1, h2⟩ := h
    rw [List.length_cons, List.length_cons, FR.len h2]
theorem putA_mem {f : Nat} {v : EW.D} {P : Nat → Prop} : ∀ {fs : List (Nat × EW.D)}, (∀ p ∈ fs, P p.1) → P f → ∀ p ∈ putA f v fs, P p.1
  | [], _, hf, p, hp => by
    have e : p = (f, v) := by simpa [putA] using hp
    subst e; exact hf
  | q :: r, h, hf, p, hp => by
    unfold putA at hp
    split at hp
    · rcases List.mem_cons.mp hp with e | hp
      · subst e; exact hf
      · exact h p (List.mem_cons_of_mem _ hp)
    · rcases List.mem_cons.mp hp with e | hp
      · subst e; exact h _ List.mem_cons_self
      · exact putA_mem (fun p hp => h p (List.mem_cons_of_mem _ hp)) hf p hp
theorem setF_cases (P : Prg) (o : EW.D) (f : Nat) (v : EW.D) (s : Sto) : setF P o f v s = .no ∨ ∃ i c fs, o = .ref i ∧ s[i]? = some (.ins c fs) ∧ P.flds c f = true ∧ fs.length < 1000 ∧ setF P o f v s = .ok () (s.set i (.ins c (putA f v fs))) := by
  unfold setF
  cases o <;> (try dsimp only) <;> first | exact .inl rfl | skip
  split
  · rename_i c fs q
    split
    · rename_i hc
      obtain ⟨h1, h2⟩ := Bool.and_eq_true_iff.mp hc
      exact .inr ⟨_, c, fs, rfl, q, h1, of_decide_eq_true h2, rfl⟩
    · exact .inl rfl
  · exact .inl rfl
theorem ms_setf {o : Expr} {f : Nat} {fo : Env → M EW.D} {pos' : Pos} (F : FOk G) (hK : X.K = G.K) (ha : PE X o (tE G g fo)) (hv : PE X e (tE G g fe)) (hs : swapsWith e (some (.Attribute o (G.fN f) pos')) pos.line X.env = pure false) :
    PS X (.Assign [.Attribute o (G.fN f) pos'] e pos) (tS G g fun r s => lift (M.bind (fe r) fun v => M.bind (fo r) fun x => setF G.Q x f v) r (fun _ s1 => .nx r s1) s) := impPS (ps_fld ha hv hs) fun D a H h => by
  obtain ⟨m, r, s, R, E, P⟩ := h
  refine ⟨m, r, s, R, E, (P.lift E R).bindO.imp fun d m1 s1 H1 e1 R1 P1 v hv => ?_⟩
  refine ⟨m1, r, s1, R1, E.mono (e1.stay R), (Post.rebase e1 P1.bindO).imp fun d2 m2 s2 H2 e2 R2 P2 u hu => ?_⟩
  rcases setF_cases G.Q d2 f d s2 with q | ⟨i, c, fs, rfl, hi, hf, hl, q⟩
  · rw [q] at P2; exact P2.elim
  · rw [q] at P2
    unfold RV at hu
    obtain ⟨_, rfl⟩ := hu
    obtain ⟨z, dx, vs, q1, q2⟩ := R2.obs i _ hi
    obtain ⟨c1, c2⟩ := F.cls c f hf
    refine ⟨m2 i, G.cA c, dx, vs, rfl, q1, by rw [hK]; exact c1, by rw [hK]; exact c2, by rw [q2.len]; exact hl, ?_⟩
    have tupK : ∀ b ws, H2 b = some (.tup ws) → upd H2 (m2 i) (.ins (G.cA c) dx (putF (G.fN f) v vs)) b = some (.tup ws) := fun b ws z => by
      rw [upd_ne]; exact z
      intro e; rw [e, q1] at z; cases z
    have S : Stay m2 s2.length H2 m2 s2.length (upd H2 (m2 i) (.ins (G.cA c) dx (putF (G.fN f) v vs))) := ⟨Nat.le_refl _, fun _ _ => rfl, tupK⟩
    obtain ⟨R3, e3⟩ := R2.put (o' := .ins c (putA f d fs)) (u := .ins (G.cA c) dx (putF (G.fN f) v vs)) hi rfl rfl (fun _ e => HO.noConfusion e)
      ⟨putA_mem (P := fun x => G.Q.flds c x = true) z hf, dx, _, upd_same, FR.put (FR.mono S _ _ q2) (fun p hp q => F.inj c _ _ (z p hp) hf q) (RV.mono S _ _ (RV.mono (e2.stay R1) _ _ hv))⟩
    have e4 := (e1.trans e2).trans e3
    exact (P2.at_ e4 R3) m2 a _ e4 R3 (E.mono (e4.stay R))
end
end EW

set_option Elab.async false
set_option linter.all false
set_option maxRecDepth 100000
/-! M layer 12: stores by place, append, loops, raise, try. -/
namespace EW
open PySem PySem.Spec PyProof.Rows L2

section
variable {G : Gb} {g : Pm} {X : Cx} {e : Expr} {fe : Env → M EW.D} {pos : Pos}
theorem stay_upd {m : Mp} {n : Nat} {H : Hp} {p : Addr} {o u : HO} (h : H p = some o) (nt : ∀ vs, o ≠ .tup vs) : Stay m n H m n (upd H p u) :=
  ⟨Nat.le_refl _, fun _ _ => rfl, fun b ws z => by
    rw [upd_ne]; exact z
    intro e; rw [e, h] at z; exact nt ws (Option.some.inj z)⟩
/-- a list of ours gets other items -/
theorem Rel.lput {m : Mp} {s : Sto} {H : Hp} {i : Nat} {xs ys : List EW.D} {vs ws : List V} (R : Rel G m s H) (hi : s[i]? = some (.lst xs)) (h : H (m i) = some (.lst vs)) (hw : RVs m s.length H ws ys) (z : ys.length ≤ sizeLine) :
    Rel G m (s.set i (.lst ys)) (upd H (m i) (.lst ws)) ∧ Ext m s H m (s.set i (.lst ys)) (upd H (m i) (.lst ws)) :=
  R.put (o' := .lst ys) (u := .lst ws) hi rfl rfl (fun _ e => HO.noConfusion e) ⟨z, ws, upd_same, RVs.mono (stay_upd h fun _ e => HO.noConfusion e) _ _ hw⟩
/-! ### o[i] = v -/
def rS (G : Gb) : TSet := fun o i v H Q => ∃ m s a b c X, Rel G m s H ∧ RV m s.length H o a ∧ RV m s.length H i b ∧ RV m s.length H v c ∧ Post G m s H X (setI a b c s) (fun _ m' s' H' => Q H')
theorem set_item : PSet X (rS G) := by
  intro pins sh σ H o i v ov iv u Q I ro ri rv ⟨m, s, da, db, dc, Xp, R, h1, h2, h3, P⟩
  unfold setI at P
  cases da <;> (try dsimp only at P) <;> first | exact P.elim | skip
  cases db <;> (try dsimp only at P) <;> first | exact P.elim | skip
  rename_i k j
  split at P
  · rename_i xs q
    split at P
    · rename_i n hn
      unfold RV at h1 h2
      obtain ⟨_, rfl⟩ := h1
      subst h2
      obtain ⟨z, vs, q1, q2⟩ := R.obs k _ q
      refine set_list pins sh σ H _ _ v ov iv u Q I ro ri rv ⟨m k, vs, j, n, rfl, rfl, q1, by rw [q2.len]; exact hn, ?_⟩
      obtain ⟨R1, e1⟩ := R.lput q q1 (q2.set n h3) (by simpa using z)
      exact P.at_ e1 R1
    · exact P.elim
  · exact P.elim
theorem ms_seti {o i : Expr} {fo fi : Env → M EW.D} {pos' : Pos} (hv : PE X e (tE G g fe)) (ho : PE X o (tE G g fo)) (hi : PE X i (tE G g fi))
    (ha : ∀ v, assign (.Subscript o i pos') X.env v = (do
      let ov ← holding [v] (eval o X.env)
      let iv ← holding [v, ov] (eval i X.env)
      standAt pos'
      holding [v, ov, iv] (setItem ov iv v)
      release [v, ov, iv] [])) (hs : swapsWithSole [.Subscript o i pos'] e pos.line X.env = pure false) :
    PS X (.Assign [.Subscript o i pos'] e pos) (tS G g fun r s => lift (M.bind (fe r) fun v => M.bind (fo r) fun x => M.bind (fi r) fun y => setI x y v) r (fun _ s1 => .nx r s1) s) := impPS (ps_asg hv (pg_sub ho hi set_item ha) hs) fun D a H h => by
  obtain ⟨m, r, s, R, E, P⟩ := h
  refine ⟨m, r, s, R, E, (P.lift E R).bindO.imp fun d m1 s1 H1 e1 R1 P1 v hv => ?_⟩
  refine ⟨m1, r, s1, R1, E.mono (e1.stay R), (Post.rebase e1 P1.bindO).imp fun d2 m2 s2 H2 e2 R2 P2 u hu => ?_⟩
  refine ⟨m2, r, s2, R2, E.mono ((e1.trans e2).stay R), (Post.rebase (e1.trans e2) P2.bindO).imp fun d3 m3 s3 H3 e3 R3 P3 w hw => ?_⟩
  refine ⟨m3, s3, d2, d3, d, _, R3, RV.mono (e3.stay R2) _ _ hu, hw, RV.mono ((e2.trans e3).stay R1) _ _ hv, (Post.rebase ((e1.trans e2).trans e3) P3).imp fun _ m4 s4 H4 e4 R4 P4 => ?_⟩
  have e5 := ((e1.trans e2).trans e3).trans e4
  exact P4 m4 a H4 e5 R4 (E.mono (e5.stay R))

/-! ### methods of built-in types -/
def rB (G : Gb) (f : EW.D → List EW.D → M EW.D) : V → List V → Hp → VK → Prop := fun x xs H Q => ∃ m s a ds X, Rel G m s H ∧ RV m s.length H x a ∧ RVs m s.length H xs ds ∧ Post G m s H X (f a ds s) (fun d m' s' H' => ∀ v, RV m' s'.length H' v d → Q v H')
theorem bm_append : MtR X "list.append" (rB G (bms .append)) := by
  intro pins sh σ H x xs v us Q I rx rs ⟨m, s, da, ds, Xp, R, h1, h2, P⟩
  rcases ds with _ | ⟨d, _ | ⟨d2, ds⟩⟩
  · exact False.elim P
  · have P : Post G m s H Xp (appD da d s) _ := P
    unfold appD at P
    cases da <;> (try dsimp only at P) <;> first | exact P.elim | skip
    split at P
    · rename_i ys q
      obtain ⟨c, P⟩ := Post.ite P
      unfold RV at h1
      obtain ⟨_, rfl⟩ := h1
      obtain ⟨w, rfl, hw⟩ := h2.one_inv
      obtain ⟨z, vs, q1, q2⟩ := R.obs _ _ q
      refine mt_append pins sh σ H _ _ v us Q I rx rs ⟨_, vs, w, rfl, rfl, q1, by rw [q2.len]; exact c, ?_⟩
      obtain ⟨R1, e1⟩ := R.lput q q1 (q2.app (.one hw)) (by simp; omega)
      exact P.at_ e1 R1 _ (by unfold RV; rfl)
    · exact P.elim
  · exact False.elim P
theorem bm_join (hK : X.K = G.K) : MtR X "str.join" (rB G (bms .join)) := by
  intro pins sh σ H x xs v us Q I rx rs ⟨m, s, da, ds, Xp, R, h1, h2, P0⟩
  rcases ds with _ | ⟨d, _ | ⟨d2, ds⟩⟩
  · exact False.elim P0
  · have P : Post G m s H Xp (joinD da d s) _ := P0
    clear P0
    unfold joinD at P
    cases da <;> (try dsimp only at P) <;> first | exact P.elim | skip
    rename_i a
    unfold RV at h1
    subst h1
    obtain ⟨w, rfl, hw⟩ := h2.one_inv
    split at P
    · rename_i ws hs
      split at P
      · rename_i ys hy
        obtain ⟨c, P⟩ := Post.ite P
        have key : ∀ p vs, RVs m s.length H vs ws → (SqL X.K H p vs ∨ SqT X.K H p vs) → w = .ref p → wpAny (model X.prog X.w) X.A (call (.builtin "str.join") (v :: us)) (EP X pins σ Q) X.xe sh := fun p vs q1 q2 e => by
          subst e
          rw [txts_of hy q1] at q2
          refine mt_join pins sh σ H _ _ v us Q I rx rs ⟨_, p, _, rfl, rfl, q2, ?_, ?_⟩
          · rw [List.map_map, List.length_map, len_strOf]
            rw [show (List.map ((fun x => x.length) ∘ strOf) ys) = ys.map (·.length) from List.map_congr_left fun y _ => len_strOf y]
            exact c
          · refine P.ok R _ ?_
            unfold RV
            congr 1
            refine TL.ext_tl ?_
            rw [TL.join_eq, TL.tl_join, List.map_map]
            show TL.joinL a (List.map (TL.tl ∘ strOf) ys) = TL.joinL a ys
            rw [show List.map (TL.tl ∘ strOf) ys = ys from (List.map_congr_left fun y _ => rfl).trans (List.map_id ys)]
        unfold seqOf at hs
        cases d <;> (try dsimp only at hs) <;> first | (cases hs; done) | skip
        · cases hs
          unfold RV at hw
          obtain ⟨p, vs, rfl, q1, q2, q3⟩ := hw
          exact key p vs q3 (.inr (.of q1)) rfl
        · rename_i i
          unfold RV at hw
          obtain ⟨_, rfl⟩ := hw
          have hl : lstAt s i = some ws := hs
          obtain ⟨vs, q1, q2, _⟩ := R.lstAt hl
          exact key _ vs q2 (.inl (by rw [hK]; exact q1)) rfl
      · exact P.elim
    · exact P.elim
  · exact False.elim P0
theorem chkB_cases (b : BM) (d : EW.D) (s : Sto) : chkB b d s = .no ∨ (chkB b d s = .ok () s ∧ ((bmT b = .lst ∧ ∃ i xs, d = .ref i ∧ s[i]? = some (.lst xs)) ∨ (bmT b = .dic ∧ ∃ i xs, d = .ref i ∧ s[i]? = some (.dic xs)) ∨ (bmT b = .str ∧ ∃ x, d = .str x))) := by
  unfold chkB
  cases q : bmT b <;> cases d <;> (try dsimp only) <;> first | exact .inl rfl | skip
  · exact .inr ⟨rfl, .inr (.inr ⟨rfl, _, rfl⟩)⟩
  · split
    · rename_i xs h
      exact .inr ⟨rfl, .inl ⟨rfl, _, xs, rfl, h⟩⟩
    · exact .inl rfl
  · split
    · rename_i xs h
      exact .inr ⟨rfl, .inr (.inl ⟨rfl, _, xs, rfl, h⟩)⟩
    · exact .inl rfl
theorem me_bm {b : BM} {id : String} {name : Str} {apos : Pos} {o e0 : Expr} {es : List Expr} {fo : Env → M EW.D} {fs : Env → M (List EW.D)} (hK : X.K = G.K) (pa : PlainAttrs (tyN (bmT b))) (slot : PySem.Slot (tyN (bmT b)) name id) (hty : typeOf (.builtin id) = pure (.type "method_descriptor")) (hm : MtR X id (rB G (bms b))) (ho : PE X o (tE G g fo)) (ha : PA X (e0 :: es) (tL G g fs))
    (hbase : attributeBase o name X.env (eval o X.env) = eval o X.env)
    (hfew : ((backTo pos (starEach (e0 :: es) X.env)).all (fun x => !x.1) && (backToKw pos (keywordEach [] X.env)).all (fun x => x.1.isSome)
      && decide ((e0 :: es).length + ([] : List Keyword).length + (if ([] : List Keyword).isEmpty then 0 else 1) < 30)) = true)
    (hline : (apos.endLine == pos.line) = true) (hs : starEach (e0 :: es) X.env = (false, eval e0 X.env) :: starEach es X.env) (hplain : (backTo pos (starEach es X.env)).any (·.1) = false) :
    PE X (.Call (.Attribute o name apos) (e0 :: es) [] pos) (tE G g fun r => M.bind (fo r) fun x => M.bind (chkB b x) fun _ => M.bind (fs r) fun xs => bms b x xs) := impPE (pe_bm pa slot hty hm ho ha hbase hfew hline hs hplain) fun a H Q h => by
  obtain ⟨m, r, s, R, E, P⟩ := h
  refine ⟨m, r, s, R, E, P.bindO.imp fun d m1 s1 H1 e1 R1 P1 v hv => ?_⟩
  have P1 := Post.rebase e1 P1
  have P2 := P1.bindO
  rcases chkB_cases b d s1 with q | ⟨q, hq⟩
  · rw [q] at P2; exact P2.elim
  · rw [q] at P2
    have P3 := P2.ok R1
    refine ⟨?_, m1, r, s1, R1, E.mono (e1.stay R), P3.bindO.imp fun ds m2 s2 H2 e2 R2 P4 us hu => ⟨m2, s2, d, ds, _, R2, RV.mono (e2.stay R1) _ _ hv, hu, Post.rebase e2 P4⟩⟩
    rw [hK]
    rcases hq with ⟨hb, i, xs, rfl, hi⟩ | ⟨hb, i, xs, rfl, hi⟩ | ⟨hb, x, rfl⟩
    · unfold RV at hv
      obtain ⟨_, rfl⟩ := hv
      obtain ⟨_, vs, q1, _⟩ := R1.obs i _ hi
      exact .inl ⟨by rw [hb]; rfl, vs, .of q1⟩
    · unfold RV at hv
      obtain ⟨_, rfl⟩ := hv
      obtain ⟨_, vs, q1, _⟩ := R1.obs i _ hi
      exact .inr (.inr (.inl ⟨by rw [hb]; rfl, .inl ⟨vs, q1⟩⟩))
    · unfold RV at hv
      subst hv
      show tyN (bmT b) = "str"
      rw [hb]; rfl
/-- name = [..] on one line -/
theorem ms_asgLc {i : Nat} {y : Str} {py : Pos} {elt tgE iter : Expr} {ifs : List Expr} {scope : Scope} {own : List (Str × Nat)} {pos spos : Pos} {fs : Env → M (List EW.D)} {k : IK} {tg : Tg} {fc : Env → M Bool} {fel : Env → M EW.D} (hc : X.calm = true) (hN : X.N.Nodup) (hy : X.N[i]? = some y) (hyl : X.env.scope.names.lookup y = some .local)
    (hsw : swapsWith (.ListComp elt [⟨tgE, iter, ifs, 0⟩] scope pos) (some (.Name y py)) spos.line X.env = pure true) (hi : PI X tgE iter (tI G g fs k)) (ok : BlkOk X.N X.env.scope scope own)
    (hg : ∀ (s : Shared) (H : Hp) (C : Addr) (cl : List (Str × Addr)) (fp : List Addr), PG (X.blk s H scope (compEnvC scope cl C X.env) fp) tgE (gOf G.K tg)) (ht : ∀ (s : Shared) (H : Hp) (C : Addr) (cl : List (Str × Addr)) (fp : List Addr), PTs (X.blk s H scope (compEnvC scope cl C X.env) fp) ifs (tB G g.in_ fc))
    (he : ∀ (s : Shared) (H : Hp) (C : Addr) (cl : List (Str × Addr)) (fp : List Addr), PE (X.blk s H scope (compEnvC scope cl C X.env) fp) elt (tE G g.in_ fel)) (hs : ∀ x, foldedSetIterable iter X.env x = pure x) (hsl : ∀ i ∈ tg.slots, i ∈ own.map (·.2)) :
    PS X (.Assign [.Name y py] (.ListComp elt [⟨tgE, iter, ifs, 0⟩] scope pos) spos) (tS G g fun r s => lift (M.bind (lcM fs k tg fc fel (own.map (·.2)) r) fun x => bindT (.nm i) x r) r (fun r1 s1 => .nx r1 s1) s) := impPS (ps_setLc hc hN hy hyl hsw hi ok hg ht he hs) fun D a H h => by
  obtain ⟨m, r, s, R, E, P⟩ := h
  refine lc_read hsl ⟨m, r, s, R, E, (P.lift E R).bindO.imp fun d m1 s1 H1 e1 R1 P1 v hv => ?_⟩
  have P2 : Post G m s H (wX G g.W a) (.ok (r.set i (.val d)) s1) _ := P1
  exact (P2.at_ e1 R1) m1 _ H1 e1 R1 ((E.mono (e1.stay R)).set hv i)

/-! ### loops -/
theorem ms_for {tgE iter : Expr} {body : List Stmt} {t : Tg} {k : IK} {fs : Env → M (List EW.D)} {fb : Env → Sto → SRes} (hp : PassesOwn (model X.prog X.w) X.A X.env X.xe) (hc : X.calm = true) (hi : PI X tgE iter (tI G g fs k)) (hg : PG X tgE (gOf G.K t)) (hb : PSs X body (tS G g fb))
    (hs : ∀ x, foldedSetIterable iter X.env x = pure x) :
    PS X (.For tgE iter body [] pos) (tS G g fun r s => match M.bind (fs r) (mkIt k) s with
      | .ok it s1 => forGo it t fb it.n 0 r s1
      | .exc x s1 => .ex x r s1
      | .no => .no) := impPS (ps_for hp hc hi hg hb hs) fun D a H h => by
  obtain ⟨m, r, s, R, E, P⟩ := h
  refine ⟨m, r, s, R, E, ?_⟩
  dsimp only at P
  cases q : M.bind (fs r) (mkIt k) s with
  | no => rw [q] at P; exact P
  | exc x s1 =>
    rw [q] at P
    exact fun m1 H1 e1 R1 cls dd hx => P m1 a H1 cls dd e1 R1 (E.mono (e1.stay R)) hx
  | ok it s1 =>
    rw [q] at P
    intro m1 H1 e1 R1 J hJ
    have P := PostS.rebase e1 P
    refine ⟨fun i mm a' Hc => mm = it.n - i ∧ i ≤ it.n ∧ ∃ m' r' s', Rel G m' s' Hc ∧ RE g.chi m' s'.length Hc a' r' ∧ Ext m1 s1 H1 m' s' Hc ∧ PostS G g m1 s1 H1 (forGo it t fb (it.n - i) i r' s') D, ⟨it.n, rfl, Nat.zero_le _, m1, r, s1, R1, E.mono (e1.stay R), Ext.refl, P⟩, ?_⟩
    rintro i mm a' Hc ⟨rfl, hi, m', r', s', R', E', e', P'⟩
    by_cases hlt : i < it.n
    · obtain ⟨n, hn⟩ : ∃ n, it.n - i = n + 1 := ⟨it.n - i - 1, by omega⟩
      have hn2 : it.n - (i + 1) = n := by omega
      rw [hn] at P'
      unfold forGo at P'
      cases q1 : it.at_ i s' with
      | none => rw [q1] at P'; exact P'.elim
      | some d =>
        rw [q1] at P'
        dsimp only at P'
        rcases bindT_cases t d r' s' with q2 | ⟨r2, q2⟩
        · rw [q2] at P'; exact P'.elim
        · rw [q2] at P'
          dsimp only at P'
          obtain ⟨go, step⟩ := hJ.go m' s' Hc i d (e'.stay R1) R' q1 hlt
          refine .inr ⟨go, fun a'' H' => ∃ mm, mm = it.n - (i + 1) ∧ i + 1 ≤ it.n ∧ ∃ m' r' s', Rel G m' s' H' ∧ RE g.chi m' s'.length H' a'' r' ∧ Ext m1 s1 H1 m' s' H' ∧ PostS G g m1 s1 H1 (forGo it t fb (it.n - (i + 1)) (i + 1) r' s') D, fun a'' H' ⟨mm, h1, h2⟩ => ⟨mm, by omega, h1, h2⟩, fun x H2 hy => ?_⟩
          obtain ⟨keep, hx⟩ := step x H2 hy
          obtain ⟨R2, e2⟩ := R'.same keep
          refine tgt_ok R2 q2 hx (E'.mono (e2.stay R')) fun c hcc _ => ⟨m', r2, s', R2, hcc, ?_⟩
          have ee := e'.trans e2
          cases q3 : fb r2 s' with
          | nx r3 s3 =>
            rw [q3] at P'
            exact fun m3 a3 H3 e3 R3 E3 => ⟨_, rfl, hlt, m3, r3, s3, R3, E3, ee.trans e3, by rw [hn2]; exact P'⟩
          | rt d s3 => rw [q3] at P'; exact PostS.rebase ee P'
          | ex x r3 s3 => rw [q3] at P'; exact PostS.rebase ee P'
          | no => rw [q3] at P'; exact P'
    · have hin : i = it.n := by omega
      subst hin
      rw [Nat.sub_self] at P'
      unfold forGo at P'
      cases q1 : it.fin s' with
      | false => rw [q1] at P'; exact P'.elim
      | true =>
        rw [q1] at P'
        exact .inl ⟨hJ.stop m' s' Hc (e'.stay R1) R' q1, P' m' a' Hc e' R' E'⟩
theorem ms_while {c : Expr} {body : List Stmt} {tc : Env → M Bool} {fb : Env → Sto → SRes} {L : Nat} (hp : PassesOwn (model X.prog X.w) X.A X.env X.xe) (hc : PT X c (tB G g tc)) (hb : PSs X body (tS G g fb)) :
    PS X (.While c body [] pos) (tS G g fun r s => whGo tc fb L r s) := impPS (ps_while hp hc hb) fun D a H h => by
  obtain ⟨m, r, s, R, E, P⟩ := h
  refine ⟨fun n a' Hc => ∃ m' r' s', Rel G m' s' Hc ∧ RE g.chi m' s'.length Hc a' r' ∧ Ext m s H m' s' Hc ∧ PostS G g m s H (whGo tc fb n r' s') D, ⟨L, m, r, s, R, E, Ext.refl, P⟩, ?_⟩
  rintro n a' Hc ⟨m', r', s', R', E', e', P'⟩
  cases n with
  | zero => exact P'.elim
  | succ n =>
    refine ⟨m', r', s', R', E', ?_⟩
    unfold whGo at P'
    cases q : tc r' s' with
    | no => rw [q] at P'; exact P'.elim
    | exc x s1 =>
      rw [q] at P'
      exact fun m1 H1 e1 R1 cls dd hx => P' m1 a' H1 cls dd (e'.trans e1) R1 (E'.mono (e1.stay R')) hx
    | ok b s1 =>
      rw [q] at P'
      intro m1 H1 e1 R1 v hv
      subst hv
      have ee := e'.trans e1
      cases v with
      | false => exact iteF (P' m1 a' H1 ee R1 (E'.mono (e1.stay R')))
      | true =>
        refine iteT ⟨fun a'' H' => ∃ m' r' s', Rel G m' s' H' ∧ RE g.chi m' s'.length H' a'' r' ∧ Ext m s H m' s' H' ∧ PostS G g m s H (whGo tc fb n r' s') D, fun a'' H' h => ⟨n, Nat.lt_succ_self n, h⟩, m1, r', s1, R1, E'.mono (e1.stay R'), ?_⟩
        dsimp only at P'
        cases q3 : fb r' s1 with
        | nx r3 s3 =>
          rw [q3] at P'
          exact fun m3 a3 H3 e3 R3 E3 => ⟨m3, r3, s3, R3, E3, ee.trans e3, P'⟩
        | rt d s3 => rw [q3] at P'; exact PostS.rebase ee P'
        | ex x r3 s3 => rw [q3] at P'; exact PostS.rebase ee P'
        | no => rw [q3] at P'; exact P'
end
end EW

set_option Elab.async false
set_option linter.all false
set_option maxRecDepth 100000
/-! M layer 13: exceptions. -/
namespace EW
open PySem PySem.Spec PyProof.Rows L2

/-- what is written of the exception classes -/
structure EOk (G : Gb) : Prop where
  can : ∀ c, G.Q.xr c = true → PySem.W.excIn G.K (G.xA c) He.veBase "ValueError.__new__" = true ∧ PySem.W.keepIn G.K (.ref (G.xA c)) = true ∧ PySem.W.subIn G.K (.ref (G.xA c)) (.type "BaseException") = some true ∧ PySem.W.typeIn G.K (.ref (G.xA c)) = some (.type "type")
  sub : ∀ x c b, G.Q.sub x c = some b → PySem.W.exmOne G.K (.ref (G.xA x)) (.ref (G.xA c)) = some b ∧ PySem.W.kitOne G.K (.ref (G.xA x)) (.ref (G.xA c)) = some b ∧ ExcC G.K (G.xA x)
section
variable {G : Gb} {g : Pm} {X : Cx}
theorem ms_raise {c j : Nat} {x msg : Str} {p p2 pos2 pos : Pos} (o : XOk G g X) (eo : EOk G) (hc : X.calm = true) (hg : Gl X x) (hm : X.mg x = some (.ref (G.xA c))) (hdb : (x == ("__debug__" : Str)) = false) (hx : G.Q.xr c = true) :
    PS X (.Raise (some (.Call (.Name x p) [.Constant (.str msg) j p2] [] pos2)) none pos) (tS G g fun r s => if G.Q.xr c = true then .ex ⟨c, []⟩ r s else .no) := by
  obtain ⟨h1, h2, h3, h4⟩ := eo.can c hx
  refine impPS (ps_raise hc o.tk (pmk_own PySem.F.excBase_ValueError (by rw [o.K]; exact h1) hm (by rw [o.K]; exact h2) (raises_own (by rw [o.K]; exact h3) (by rw [o.K]; exact h4)) hg hdb)) fun D a H h => ?_
  obtain ⟨m, r, s, R, E, P⟩ := h
  have P : PostS G g m s H (if G.Q.xr c = true then .ex ⟨c, []⟩ r s else .no) D := P
  rw [if_pos hx] at P
  exact P m a H _ _ Ext.refl R E ⟨rfl, rfl⟩
theorem slotX_cases (r : Env) (i : Nat) (s : Sto) : slotX r i s = .no ∨ ∃ x, r[i]? = some (.exc x) ∧ slotX r i s = .ok x s := by
  unfold slotX
  split
  · rename_i d q
    exact .inr ⟨d, q, rfl⟩
  · exact .inl rfl
/-- isinstance(e, C) of the exception that is held -/
theorem me_isx {i c : Nat} {x y z : Str} {p p2 p3 pos : Pos} (o : XOk G g X) (hg : Gl X x) (hm : X.mg x = none) (hv : bootBuiltins x = some (.builtin "isinstance"))
    (hN : X.N[i]? = some y) (hvy : Vis X.env.scope y) (hdy : (y == ("__debug__" : Str)) = false) (hcy : (y == ("__classdict__" : Str)) = false)
    (hgz : Gl X z) (hmz : X.mg z = some (.ref (G.xA c))) (hdz : (z == ("__debug__" : Str)) = false) (hn : x ≠ "__name__") (hdb : (x == ("__debug__" : Str)) = false) :
    PE X (.Call (.Name x p) [.Name y p2, .Name z p3] [] pos) (tE G g fun r => M.bind (slotX r i) fun x => isxD G.Q x c) := by
  refine ⟨fun pins s a H Q I h => ?_⟩
  obtain ⟨m, r, st, R, E, P⟩ := h
  have P1 := P.bindO
  rcases slotX_cases r i st with q | ⟨ex, q, q2⟩
  · rw [q] at P1; exact P1.elim
  · rw [q2] at P1
    have P2 := P1.ok R
    unfold isxD at P2
    obtain ⟨hf, P2⟩ := Post.ite P2
    split at P2
    · rename_i b hb
      obtain ⟨v, h1, h2⟩ := E.exc i ex q
      exact (pe_callB (o.isx v ex c b h2 hf hb) hg hm hv (pa_cons (pe_var hN hvy hdy hcy) (pa_cons (pe_glob hgz hmz (v := .ref (G.xA c)) rfl hdz) pa_nil rfl) rfl) hn hdb rfl rfl).run pins s a H Q I ⟨_, h1, rfl, P2.ok R _ rfl⟩
    · exact P2.elim

/-- what an except suite knows: the exception at a -/
def chiS (G : Gb) (a : Addr) (cls : Value) (d : Option Addr) : Addr → Exn → Prop := fun p x => p = a ∧ cls = .ref (G.xA x.c) ∧ (x.fs = [] → d = none)
def Pm.suite (G : Gb) (a : Addr) (cls : Value) (d : Option Addr) : Pm := ⟨fun _ _ _ _ => False, chiS G a cls d⟩
theorem clrX_get (r : Env) (j : Nat) : (∀ d, (clrX r)[j]? = some (.val d) ↔ r[j]? = some (.val d)) ∧ ∀ x, (clrX r)[j]? ≠ some (.exc x) := by
  unfold clrX
  rw [List.getElem?_map]
  cases r[j]? with
  | none => exact ⟨fun d => ⟨fun h => (by cases h), fun h => (by cases h)⟩, fun x h => (by cases h)⟩
  | some z =>
    cases z with
    | non => exact ⟨fun d => ⟨fun h => (by cases h), fun h => (by cases h)⟩, fun x h => (by cases h)⟩
    | val e => exact ⟨fun d => ⟨fun h => h, fun h => h⟩, fun x h => (by cases h)⟩
    | exc e => exact ⟨fun d => ⟨fun h => (by cases h), fun h => (by cases h)⟩, fun x h => (by cases h)⟩
theorem RE.exc' {chi chi' : Addr → Exn → Prop} {m : Mp} {n : Nat} {H : Hp} {a : AS} {r : Env} {p : Addr} {x : Exn} (E : RE chi m n H a r) (hno : ∀ p x, ¬ chi p x) (hx : chi' p x) (i : Nat) : RE chi' m n H (a.set i (some (.ref p))) (r.set i (.exc x)) := by
  have hl := E.len
  refine ⟨by simp [hl], fun j e q => ?_, fun j y q => ?_⟩
  · by_cases hj : i = j
    · subst hj
      have hi : i < r.length := by
        have := (List.getElem?_eq_some_iff.mp q).1
        simpa using this
      rw [List.getElem?_set_self hi] at q
      cases q
    · rw [List.getElem?_set_ne hj] at q ⊢
      exact E.val j e q
  · by_cases hj : i = j
    · subst hj
      have hi : i < r.length := by
        have := (List.getElem?_eq_some_iff.mp q).1
        simpa using this
      rw [List.getElem?_set_self hi] at q
      cases q
      exact ⟨p, by rw [List.getElem?_set_self (by omega)], hx⟩
    · rw [List.getElem?_set_ne hj] at q ⊢
      obtain ⟨p', _, h2⟩ := E.exc j y q
      exact absurd h2 (hno p' y)
theorem RE.gone {chi chi' : Addr → Exn → Prop} {m : Mp} {n : Nat} {H : Hp} {a : AS} {r : Env} (E : RE chi m n H a r) (i : Nat) : RE chi' m n H (a.set i none) ((clrX r).set i .non) := by
  have hl := E.len
  refine ⟨by simp [clrX, hl], fun j e q => ?_, fun j y q => ?_⟩
  · by_cases hj : i = j
    · subst hj
      have hi : i < (clrX r).length := by
        have := (List.getElem?_eq_some_iff.mp q).1
        simpa using this
      rw [List.getElem?_set_self hi] at q
      cases q
    · rw [List.getElem?_set_ne hj] at q ⊢
      exact E.val j e (((clrX_get r j).1 e).mp q)
  · by_cases hj : i = j
    · subst hj
      have hi : i < (clrX r).length := by
        have := (List.getElem?_eq_some_iff.mp q).1
        simpa using this
      rw [List.getElem?_set_self hi] at q
      cases q
    · rw [List.getElem?_set_ne hj] at q
      exact absurd q ((clrX_get r j).2 y)
theorem RE.same {chi chi' : Addr → Exn → Prop} {m : Mp} {n : Nat} {H : Hp} {a : AS} {r : Env} (E : RE chi m n H a r) (h : ∀ p x, chi p x → chi' p x) : RE chi' m n H a r :=
  ⟨E.len, E.val, fun i x q => let ⟨p, h1, h2⟩ := E.exc i x q; ⟨p, h1, h p x h2⟩⟩
theorem RE.clr {chi chi' : Addr → Exn → Prop} {m : Mp} {n : Nat} {H : Hp} {a : AS} {r : Env} (E : RE chi m n H a r) : RE chi' m n H a (clrX r) := by
  refine ⟨by simp [clrX, E.len], fun j e q => E.val j e (((clrX_get r j).1 e).mp q), fun j y q => absurd q ((clrX_get r j).2 y)⟩

/-- the meaning of a try -/
def tryM (P : Prg) (c : Nat) (nm : Option Nat) (fb fh : Env → Sto → SRes) : Env → Sto → SRes := fun r s => match fb r s with
  | .ex x r1 s1 => match P.sub x.c c with
    | some true => (match fh (setN r1 nm (.exc x)) s1 with
      | .nx r2 s2 => .nx (setN (clrX r2) nm .non) s2
      | .rt d s2 => .rt d s2
      | _ => .no)
    | some false => .ex x r1 s1
    | none => .no
  | q => q
theorem ms_try_as {i c : Nat} {x n : Str} {np pos pos' : Pos} {body suite : List Stmt} {b0 : Stmt} {fb fh : Env → Sto → SRes} (o : XOk G g X) (eo : EOk G) (hno : ∀ p x, ¬ g.chi p x) (hs : X.stack = X.env :: X.outer) (hf : X.env.frame = some X.env.locals) (hN : X.N.Nodup) (hi : X.N[i]? = some n) (hln : X.env.kindOf n = some .local)
    (hgx : Gl X x) (hdx : (x == ("__debug__" : Str)) = false) (hmx : X.mg x = some (.ref (G.xA c)))
    (hb : ∀ (W : WX) (pn : List (Addr × Obj)) (xe : Value → Shared → Prop), Takes (X.tr pn xe) W → PassesOwn (model X.prog X.w) X.A X.env xe → PSs (X.tr pn xe) body (tS G ⟨W, g.chi⟩ fb))
    (hsu : ∀ (a : Addr) (oe : Obj) (cls : Value) (d : Option Addr) (pn : List (Addr × Obj)), Zc cls d oe → (∃ vs, oe.data = .fields vs) → PSs (X.suite a ((a, oe) :: pn)) (b0 :: suite) (tS G (Pm.suite G a cls d) fh)) :
    PS X (.Try body [.ExceptHandler (some (.Name x np)) (some n) (b0 :: suite) pos'] [] [] pos) (tS G g (tryM G.Q c (some i) fb fh)) := impPS (ps_try_as (tb := fun W => tS G ⟨W, g.chi⟩ fb) (ts := fun a cls d => tS G (Pm.suite G a cls d) fh) hs hf hN hi hln (c := .ref (G.xA c)) ⟨hgx, hdx, .inl hmx⟩ o.tk hb hsu) fun D a H h => by
  obtain ⟨m, r, s, R, E, P⟩ := h
  refine ⟨m, r, s, R, E, ?_⟩
  unfold tryM at P
  cases q : fb r s with
  | nx r1 s1 => rw [q] at P; exact P
  | rt d s1 => rw [q] at P; exact P
  | no => rw [q] at P; exact P
  | ex x r1 s1 =>
    rw [q] at P
    dsimp only at P
    intro m1 a1 H1 cls dd e1 R1 E1 hx
    obtain ⟨rfl, hx2⟩ := id hx
    cases q2 : G.Q.sub x.c c with
    | none => rw [q2] at P; exact P.elim
    | some b =>
      rw [q2] at P
      refine ⟨b, by rw [o.K]; exact (eo.sub _ _ _ q2).1, fun hb2 p hp => ?_, fun hb2 => ?_⟩
      · subst hb2
        dsimp only at P
        have hc1 : chiS G p (.ref (G.xA x.c)) dd p x := ⟨rfl, rfl, fun hfs => by rw [hfs] at hx2; exact hx2⟩
        refine ⟨m1, r1.set i (.exc x), s1, R1, E1.exc' hno hc1 i, ?_⟩
        · have P : PostS G g m s H (match fh (r1.set i (.exc x)) s1 with
            | .nx r2 s2 => .nx ((clrX r2).set i .non) s2
            | .rt d s2 => .rt d s2
            | _ => .no) D := P
          cases q3 : fh (r1.set i (.exc x)) s1 with
          | nx r2 s2 =>
            rw [q3] at P
            exact fun m2 a2 H2 e2 R2 E2 => P m2 _ H2 (e1.trans e2) R2 (E2.gone i)
          | rt d s2 =>
            rw [q3] at P
            exact fun m2 H2 v e2 R2 hv => P m2 H2 v (e1.trans e2) R2 hv
          | ex y r2 s2 => rw [q3] at P; exact P.elim
          | no => rw [q3] at P; exact P.elim
      · subst hb2
        dsimp only at P
        exact P m1 a1 H1 _ dd e1 R1 E1 hx
theorem ms_try_only {c : Nat} {x : Str} {np pos pos' : Pos} {body suite : List Stmt} {b0 : Stmt} {fb fh : Env → Sto → SRes} (o : XOk G g X) (eo : EOk G) (hno : ∀ p x, ¬ g.chi p x) (hs : X.stack = X.env :: X.outer) (hf : X.env.frame = some X.env.locals)
    (hgx : Gl X x) (hdx : (x == ("__debug__" : Str)) = false) (hmx : X.mg x = some (.ref (G.xA c)))
    (hb : ∀ (W : WX) (pn : List (Addr × Obj)) (xe : Value → Shared → Prop), Takes (X.tr pn xe) W → PassesOwn (model X.prog X.w) X.A X.env xe → PSs (X.tr pn xe) body (tS G ⟨W, g.chi⟩ fb))
    (hsu : ∀ (a : Addr) (oe : Obj) (cls : Value) (d : Option Addr) (pn : List (Addr × Obj)), Zc cls d oe → (∃ vs, oe.data = .fields vs) → PSs (X.suite a ((a, oe) :: pn)) (b0 :: suite) (tS G (Pm.suite G a cls d) fh)) :
    PS X (.Try body [.ExceptHandler (some (.Name x np)) none (b0 :: suite) pos'] [] [] pos) (tS G g (tryM G.Q c none fb fh)) := impPS (ps_try_only (tb := fun W => tS G ⟨W, g.chi⟩ fb) (ts := fun a cls d => tS G (Pm.suite G a cls d) fh) hs hf (c := .ref (G.xA c)) ⟨hgx, hdx, .inl hmx⟩ o.tk hb hsu) fun D a H h => by
  obtain ⟨m, r, s, R, E, P⟩ := h
  refine ⟨m, r, s, R, E, ?_⟩
  unfold tryM at P
  cases q : fb r s with
  | nx r1 s1 => rw [q] at P; exact P
  | rt d s1 => rw [q] at P; exact P
  | no => rw [q] at P; exact P
  | ex x r1 s1 =>
    rw [q] at P
    dsimp only at P
    intro m1 a1 H1 cls dd e1 R1 E1 hx
    obtain ⟨rfl, hx2⟩ := id hx
    cases q2 : G.Q.sub x.c c with
    | none => rw [q2] at P; exact P.elim
    | some b =>
      rw [q2] at P
      refine ⟨b, by rw [o.K]; exact (eo.sub _ _ _ q2).1, fun hb2 p hp => ?_, fun hb2 => ?_⟩
      · subst hb2
        dsimp only at P
        refine ⟨m1, r1, s1, R1, E1.same fun p x h => absurd h (hno p x), ?_⟩
        have P : PostS G g m s H (match fh r1 s1 with
            | .nx r2 s2 => .nx (clrX r2) s2
            | .rt d s2 => .rt d s2
            | _ => .no) D := P
        cases q3 : fh r1 s1 with
        | nx r2 s2 =>
          rw [q3] at P
          exact fun m2 a2 H2 e2 R2 E2 => P m2 _ H2 (e1.trans e2) R2 E2.clr
        | rt d s2 =>
          rw [q3] at P
          exact fun m2 H2 v e2 R2 hv => P m2 H2 v (e1.trans e2) R2 hv
        | ex y r2 s2 => rw [q3] at P; exact P.elim
        | no => rw [q3] at P; exact P.elim
      · subst hb2
        dsimp only at P
        exact P m1 a1 H1 _ dd e1 R1 E1 hx
/-- the suite's context is one of ours -/
theorem XOk.suite (o : XOk G g X) (eo : EOk G) {a : Addr} {oe : Obj} {cls : Value} {d : Option Addr} {pn : List (Addr × Obj)} (hz : Zc cls d oe) (hf : ∃ vs, oe.data = .fields vs) : XOk G (Pm.suite G a cls d) (X.suite a ((a, oe) :: pn)) :=
  ⟨o.P, o.w, o.K, o.mg, takes0, fun p x c b h hfs hb => by
    obtain ⟨rfl, h2, h3⟩ := h
    have hd := h3 hfs
    subst h2 hd
    obtain ⟨_, k1, k2⟩ := eo.sub _ _ _ hb
    refine impC (call_isE (pn := pn) (by rw [o.K]; exact k2) hz hf) fun xs H Q ⟨e, q⟩ => ?_
    subst e
    exact ⟨.ref (G.xA c), .ref (G.xA c), b, rfl, fun u r => r, by rw [o.K]; exact k1, q⟩⟩
theorem XOk.try_ (o : XOk G g X) {W : WX} {pn : List (Addr × Obj)} {xe : Value → Shared → Prop} (hno : ∀ p x, ¬ g.chi p x) (tk : Takes (X.tr pn xe) W) : XOk G ⟨W, g.chi⟩ (X.tr pn xe) :=
  ⟨o.P, o.w, o.K, o.mg, tk, fun p x c b h => absurd h (hno p x)⟩
theorem XOk.blk (o : XOk G g X) {s : Shared} {H : Hp} {scope : Scope} {cenv : PySem.Env} {fp : List Addr} (hno : ∀ p x, ¬ g.chi p x) : XOk G g.in_ (X.blk s H scope cenv fp) :=
  ⟨o.P, o.w, o.K, o.mg, takes0, fun p x c b h => absurd h (hno p x)⟩
end
end EW

set_option Elab.async false
set_option linter.all false
set_option maxRecDepth 100000
/-! M layer 14: the check of a small expression against the written one. -/
namespace EW
open PySem PySem.Spec PyProof.Rows L2

/-! ### small facts of the text -/
def nst : Expr → Bool
  | .Starred _ _ => false
  | _ => true
def notSup : Expr → Bool
  | .Call (.Name _ _) [] [] _ => false
  | _ => true
def notLc : Expr → Bool
  | .ListComp .. => false
  | .SetComp .. => false
  | .DictComp .. => false
  | _ => true
def notTup : Expr → Bool
  | .Tuple .. => false
  | .List .. => false
  | _ => true
def notSet : Expr → Bool
  | .Set .. => false
  | _ => true
def notSlice : Expr → Bool
  | .Slice .. => false
  | _ => true
def plainT : Expr → Bool
  | .UnaryOp .Not _ _ => false
  | .BoolOp .. => false
  | .IfExp .. => false
  | .Compare .. => false
  | _ => true
section
variable {env : PySem.Env}
theorem star_cons {e : Expr} {es : List Expr} (h : nst e = true) : starEach (e :: es) env = (false, eval e env) :: starEach es env := by
  cases e <;> first | rfl | cases h
theorem star_all : ∀ {es : List Expr}, es.all nst = true → starEach es env = es.map fun e => (false, eval e env)
  | [], _ => rfl
  | e :: es, h => by
    obtain ⟨h1, h2⟩ := Bool.and_eq_true_iff.mp (show (nst e && es.all nst) = true from h)
    rw [star_cons h1, star_all h2]
    rfl
theorem back_any {pos : Pos} {es : List Expr} (h : es.all nst = true) : (backTo pos (starEach es env)).any (·.1) = false := by
  rw [star_all h]
  unfold backTo
  rw [List.any_eq_false]
  intro p hp
  obtain ⟨q, hq, rfl⟩ := List.mem_map.mp hp
  obtain ⟨e, he, rfl⟩ := List.mem_map.mp hq
  simp
theorem back_all {pos : Pos} {es : List Expr} (h : es.all nst = true) : (backTo pos (starEach es env)).all (fun x => !x.1) = true := by
  rw [star_all h]
  unfold backTo
  rw [List.all_eq_true]
  intro p hp
  obtain ⟨q, hq, rfl⟩ := List.mem_map.mp hp
  obtain ⟨e, he, rfl⟩ := List.mem_map.mp hq
  simp
theorem abase {e : Expr} {f : Str} {w : Sem Value} (h : notSup e = true) : attributeBase e f env w = w := by
  unfold attributeBase
  split
  · cases h
  · rfl
theorem sw_no {e : Expr} {t : Option Expr} {l : Nat} (h : notLc e = true) : swapsWith e t l env = pure false := by
  cases e <;> first | rfl | cases h
theorem ss_no1 {t e : Expr} (h : notTup t = true) : swappedStores [t] e env = pure none := by
  cases t <;> first | (cases h; done) | (cases e <;> rfl)
theorem ss_no2 {t e : Expr} (h : notTup e = true) : swappedStores [t] e env = pure none := by
  cases e <;> first | (cases h; done) | (cases t <;> rfl)
theorem fold_no {e : Expr} (h : notSet e = true) (x : Value) : foldedSetIterable e env x = pure x := by
  cases e <;> first | rfl | cases h
theorem true_plain {e : Expr} (h : plainT e = true) (whole : Sem Value) : isTrue e env whole = (do let v ← whole; standAt e.pos; holding [v] (truthy v)) := by
  cases e
  case UnaryOp op x p => cases op <;> first | rfl | cases h
  all_goals first | rfl | cases h
theorem plainIx {e : Expr} (h : notSlice e = true) : PlainIx e := fun o i => by
  cases e <;> first | rfl | cases h
/-- the same of an assignment by a comprehension -/
def swB (sc : Scope) : Expr → Expr → Bool
  | .ListComp _ _ s pos, .Name t p => decide (sc.names.lookup t = some .local) && (p.line == pos.line) && !(s.names.any fun (n, k) => n == t && (k == .local || k == .cell))
  | _, _ => false
/-- one for at most -/
def oneGen : Expr → Bool
  | .ListComp _ [_] _ _ => true
  | .ListComp .. => false
  | _ => true
def lcOnly : Expr → Bool
  | .SetComp .. => false
  | .DictComp .. => false
  | _ => true
theorem sw_val {e t : Expr} {l : Nat} (hk : env.scope.kind = .function) (h : lcOnly e = true) : swapsWith e (some t) l env = pure (swB env.scope e t) := by
  cases e
  case ListComp elt gs s pos =>
    cases t
    case Name t p =>
      have hb : env.blockKind = .function := by unfold Env.blockKind; rw [hk]; rfl
      have hf : (env.blockKind == .function && env.kindOf t == some .local && p.line == pos.line && !(s.names.any fun (n, k) => n == t && (k == .local || k == .cell))) = swB env.scope (.ListComp elt gs s pos) (.Name t p) := by
        have e2 : (env.kindOf t == some NameKind.local) = decide (env.scope.names.lookup t = some .local) := by
          by_cases q : env.scope.names.lookup t = some .local
          · have : env.kindOf t = some .local := q
            rw [this, decide_eq_true q]; rfl
          · have : ¬ env.kindOf t = some .local := q
            rw [decide_eq_false q]
            exact beq_false_of_ne this
        unfold swB
        rw [hb, e2]
        rfl
      rw [← hf]
      rfl
    all_goals rfl
  all_goals first | rfl | cases h
end
/-- a name that is not one of the two odd ones -/
def nmB (x : Str) : Bool := !(x == ("__debug__" : Str)) && !(x == ("__classdict__" : Str)) && decide (x ≠ "__name__")
def visB (sc : Scope) (x : Str) : Bool := match sc.names.lookup x with
  | some .local => true
  | some .cell => true
  | some .free => true
  | _ => false
def glB (sc : Scope) (x : Str) : Bool := match sc.names.lookup x with
  | some .globalImplicit => true
  | _ => false
theorem nmB_ok {x : Str} (h : nmB x = true) : (x == ("__debug__" : Str)) = false ∧ (x == ("__classdict__" : Str)) = false ∧ x ≠ "__name__" := by
  unfold nmB at h
  simp only [Bool.and_eq_true, Bool.not_eq_true', decide_eq_true_eq] at h
  exact ⟨h.1.1, h.1.2, h.2⟩
theorem visB_ok {sc : Scope} {x : Str} (h : visB sc x = true) : Vis sc x := by
  unfold visB at h
  split at h <;> first | exact .inl (by assumption) | exact .inr (.inl (by assumption)) | exact .inr (.inr (by assumption)) | cases h
theorem glB_ok {sc : Scope} {x : Str} (h : glB sc x = true) : sc.names.lookup x = some .globalImplicit := by
  unfold glB at h
  split at h <;> first | assumption | cases h

/-! ### tables, contexts -/
structure Tab where
  fn : List (Str × Nat)
  cl : List (Str × Nat)
  ex : List (Str × Nat)
  con : List (Str × Nat)
  free : List Str
  fN : Nat → Str
  mN : Nat → Str
structure TabOk (G : Gb) (fi : Nat → FI) (T : Tab) : Prop where
  fn : ∀ p ∈ T.fn, G.mg p.1 = some (.ref (fi p.2).ad) ∧ PySem.W.keepIn G.K (.ref (fi p.2).ad) = true
  cl : ∀ p ∈ T.cl, G.mg p.1 = some (.ref (G.cA p.2))
  ex : ∀ p ∈ T.ex, G.mg p.1 = some (.ref (G.xA p.2))
  con : ∀ p ∈ T.con, ∃ u v, G.mg p.1 = some u ∧ RelV v u ∧ ∀ m n H, RV m n H v (G.Q.con p.2)
  free : ∀ x ∈ T.free, G.mg x = none
  fN : T.fN = G.fN
structure KC where
  sc : Scope
  N : List Str
  calm : Bool
  hx : Bool
  blk : Bool
structure KOk (G : Gb) (k : Nat) (base : Heap) (c : KC) (g : Pm) (X : Cx) : Prop where
  x : XOk G g X
  sc : X.env.scope = c.sc
  kf : X.env.scope.kind = .function
  N : X.N = c.N
  nd : X.N.Nodup
  calm : c.calm = true → X.calm = true
  room : c.calm = true → Room (k + 1) X.A
  un : X.A.units + 64 < cLine
  base : X.base = base
  chi : c.hx = false → ∀ p x, ¬ g.chi p x
  fnl : c.blk = false → ∀ x, X.fn x = true
/-- what all the program's texts know -/
structure GOk (G : Gb) (fi : Nat → FI) (TT : Tab) (C : Cal) (k : Nat) (base : Heap) : Prop where
  T : TabOk G fi TT
  F : FOk G
  D : DOk G fi TT.mN
  E : EOk G
  C : CalOk G fi C k base

/-! ### operators -/
def boB : BO → Operator → Bool
  | .add, .Add => true
  | .sub, .Sub => true
  | .mul, .Mult => true
  | .fdiv, .FloorDiv => true
  | .mod, .Mod => true
  | .pow, .Pow => true
  | .and, .BitAnd => true
  | .or, .BitOr => true
  | .xor, .BitXor => true
  | .shl, .LShift => true
  | .shr, .RShift => true
  | _, _ => false
theorem boB_ok {G : Gb} {X : Cx} {op : BO} {o : Operator} (h : boB op o = true) : OpR X (binaryOp o) (r2 G (bin op)) := by
  cases op <;> cases o <;> first | (cases h; done) | exact ob_add | exact ob_sub | exact ob_mul | exact ob_fdiv | exact ob_mod | exact ob_pow | exact ob_and | exact ob_or | exact ob_xor | exact ob_shl | exact ob_shr
def coB : CO → CmpOp → Bool
  | .eq, .Eq => true
  | .ne, .NotEq => true
  | .lt, .Lt => true
  | .le, .LtE => true
  | .gt, .Gt => true
  | .ge, .GtE => true
  | .is, .Is => true
  | .isnot, .IsNot => true
  | .isin, .In => true
  | .notin, .NotIn => true
  | _, _ => false
theorem coB_ok {G : Gb} {X : Cx} {op : CO} {o : CmpOp} (hK : X.K = G.K) (hu : X.A.units + 64 < cLine) (h : coB op o = true) : OpR X (compareOp o) (r2 G (cmp op)) := by
  cases op <;> cases o <;> first | (cases h; done) | exact cmp_eq hK hu | exact cmp_ne hK hu | exact cmp_is | exact cmp_isnot | exact cmp_lt | exact cmp_le | exact cmp_gt | exact cmp_ge | exact cmp_in hK | exact cmp_notin hK
/-- no set display stands behind in -/
def notSetB : CmpOp → Expr → Bool
  | .In, .Set .. => false
  | .NotIn, .Set .. => false
  | _, _ => true
theorem coB_mark {op : CO} {o : CmpOp} (h : coB op o = true) (b : Expr) (hs : notSetB o b = true) : behindInMarks o b = false := by
  cases b
  case Set => cases op <;> cases o <;> first | (cases h; done) | (cases hs; done) | exact nomark _
  all_goals rfl
theorem cmp_bl {op : CO} {o : CmpOp} (h : coB op o = true) (x y : D) (s : Sto) (d : D) (s' : Sto) (e : cmp op x y s = .ok d s') : ∃ k, d = .bl k := by
  cases op <;> first | (cases o <;> cases h; done) | skip
  all_goals
    unfold cmp at e
    dsimp only at e
    repeat' split at e
    all_goals first | exact ⟨_, (Res.ok.inj e).1.symm⟩ | cases e

/-! ### built-ins -/
def biN : BI → Str
  | .len => "len" | .abs => "abs" | .int => "int" | .min2 => "min" | .max2 => "max" | .all => "all" | .any => "any" | .lst => "list" | .tup => "tuple" | .sorted => "sorted" | .str => "str"
  | _ => ""
def biV : BI → Value
  | .len => .builtin "len" | .abs => .builtin "abs" | .int => .type "int" | .min2 => .builtin "min" | .max2 => .builtin "max" | .all => .builtin "all" | .any => .builtin "any" | .lst => .type "list" | .tup => .type "tuple" | .sorted => .builtin "sorted" | .str => .type "str"
  | _ => .none
def biK : BI → Bool
  | .len | .abs | .int | .min2 | .max2 | .all | .any | .lst | .tup | .sorted | .str => true
  | _ => false
/-- what needs no calm -/
def biH : BI → Bool
  | .len | .abs | .int | .lst | .tup | .str => true
  | _ => false
theorem biV_boot (b : BI) (h : biK b = true) : bootBuiltins (biN b) = some (biV b) := by
  cases b <;> first | (cases h; done) | decide +kernel
theorem me_bi {G : Gb} {g : Pm} {X : Cx} {b : BI} {p pos : Pos} {e : Expr} {es : List Expr} {f : Env → M (List D)} (hK : X.K = G.K) (hc0 : biH b = true ∨ X.calm = true) (h : biK b = true) (hg : Gl X (biN b)) (hm : X.mg (biN b) = none) (hn : nmB (biN b) = true) (ha : PA X (e :: es) (tL G g f)) (he : (e :: es).all nst = true) :
    PE X (.Call (.Name (biN b) p) (e :: es) [] pos) (tE G g fun r => M.bind (f r) (bis b)) := by
  obtain ⟨n1, n2, n3⟩ := nmB_ok hn
  obtain ⟨h1, h2⟩ := Bool.and_eq_true_iff.mp (show (nst e && es.all nst) = true from he)
  have hv := biV_boot b h
  have hc : biH b = false → X.calm = true := fun z => by
    rcases hc0 with q | q
    · rw [z] at q; cases q
    · exact q
  cases b <;> first | (cases h; done) | skip
  · exact me_callB (bi_len hK) hg hm hv ha n3 n1 (star_cons h1) (back_any h2)
  · exact me_callB bi_abs hg hm hv ha n3 n1 (star_cons h1) (back_any h2)
  · exact me_callTy bi_int hg hm hv ha n3 n1 (star_cons h1) (back_any h2)
  · exact me_callTy bi_str hg hm hv ha n3 n1 (star_cons h1) (back_any h2)
  · exact me_callB (bi_min2 (hc rfl)) hg hm hv ha n3 n1 (star_cons h1) (back_any h2)
  · exact me_callB (bi_max2 (hc rfl)) hg hm hv ha n3 n1 (star_cons h1) (back_any h2)
  · exact me_callB (bi_all hK (hc rfl)) hg hm hv ha n3 n1 (star_cons h1) (back_any h2)
  · exact me_callB (bi_any hK (hc rfl)) hg hm hv ha n3 n1 (star_cons h1) (back_any h2)
  · exact me_callB (bi_sorted hK) hg hm hv ha n3 n1 (star_cons h1) (back_any h2)
  · exact me_callTy (bi_tup hK) hg hm hv ha n3 n1 (star_cons h1) (back_any h2)
  · exact me_callTy (bi_lst hK) hg hm hv ha n3 n1 (star_cons h1) (back_any h2)
example (C : Cal) (r : Env) : den C r .nope = M.stuck := rfl
example (C : Cal) (r : Env) (a : CE) : den C r (.neg a) = M.bind (den C r a) neg := rfl
end EW

set_option Elab.async false
set_option linter.all false
set_option maxRecDepth 100000
/-! M layer 15: the check of expressions. -/
namespace EW
open PySem PySem.Spec PyProof.Rows L2

/-! ### one node -/
def qVar (c : KC) (i : Nat) : Expr → Bool
  | .Name x _ => decide (c.N[i]? = some x) && visB c.sc x && nmB x
  | _ => false
def qCon (T : Tab) (c : KC) (g : Nat) : Expr → Bool
  | .Name x _ => glB c.sc x && decide ((x, g) ∈ T.con) && nmB x
  | _ => false
def qConst (k : Const) : Expr → Bool
  | .Constant k' _ _ => decide (k' = k)
  | _ => false
def qBin (op : BO) (fa fb : Expr → Bool) : Expr → Bool
  | .BinOp a o b _ => boB op o && fa a && fb b
  | _ => false
def qUn (u : UnaryOp) (fa : Expr → Bool) : Expr → Bool
  | .UnaryOp o a _ => decide (o = u) && fa a
  | _ => false
def qBool (u : BoolOp) (f : List Expr → Bool) : Expr → Bool
  | .BoolOp o vs _ => decide (o = u) && !vs.isEmpty && f vs
  | _ => false
def qCmp (op : CO) (fa fb : Expr → Bool) : Expr → Bool
  | .Compare a [o] [b] _ => coB op o && notSetB o b && fa a && fb b
  | _ => false
def qChn (op op2 : CO) (fa fb fc : Expr → Bool) : Expr → Bool
  | .Compare a [o, o2] [b, c] _ => coB op o && coB op2 o2 && notSetB o2 c && fa a && fb b && fc c
  | _ => false
def qIfe (ft fa fb : Expr → Bool) : Expr → Bool
  | .IfExp t a b _ => ft t && fa a && fb b
  | _ => false
def qFld (T : Tab) (f : Nat) (fo : Expr → Bool) : Expr → Bool
  | .Attribute o x _ => decide (T.fN f = x) && notSup o && fo o
  | _ => false
def qIx (fo fi : Expr → Bool) : Expr → Bool
  | .Subscript o i _ => notSlice i && fo o && fi i
  | _ => false
def qPart (nope : Bool) (f : Expr → Bool) : Option Expr → Bool
  | none => nope
  | some e => !nope && f e
def qSlc (nl nh : Bool) (fo fl fh : Expr → Bool) : Expr → Bool
  | .Subscript o (.Slice lo hi none _) _ => fo o && qPart nl fl lo && qPart nh fh hi
  | _ => false
def qTup (n : Nat) (f : List Expr → Bool) : Expr → Bool
  | .Tuple es _ _ => decide (n ≤ 1000) && f es
  | _ => false
def qLst (n : Nat) (f : List Expr → Bool) : Expr → Bool
  | .List es _ => decide (n ≤ 1000) && f es
  | _ => false
/-- a call of a global name -/
def qCall (c : KC) (ok : Str → Bool) (f : List Expr → Bool) : Expr → Bool
  | .Call (.Name x _) es [] _ => glB c.sc x && nmB x && ok x && f es
  | _ => false
def qMeth (T : Tab) (m : Nat) (fo : Expr → Bool) (f : List Expr → Bool) : Expr → Bool
  | .Call (.Attribute o x a) es [] p => decide (T.mN m = x) && notSup o && (a.endLine == p.line) && decide (es.length < 30) && fo o && f es
  | _ => false
/-- what raises nothing -/
def quietE : CE → Bool
  | .var _ => true
  | .str _ => true
  | .int _ => true
  | .bi .len (.cons e .nil) => quietE e
  | .ix a b => quietE a && quietE b
  | _ => false
/-- the parts of an f-string -/
def fstE : CEs → Bool
  | .nil => true
  | .cons (.str _) r => fstE r
  | .cons (.bi .fmt (.cons e .nil)) r => quietE e && fstE r
  | _ => false
def qFmt (b : BI) (es : CEs) (f : List Expr → Bool) : Expr → Bool
  | .FormattedValue a k sp _ => decide (b = .fmt) && decide (k = -1) && sp.isNone && f [a]
  | .JoinedStr l _ => decide (b = .fstr) && decide (2 ≤ l.length) && fstE es && f l
  | _ => false
def bmN : BM → Str
  | .append => "append"
  | .join => "join"
  | _ => ""
def bmB : BM → Bool
  | .append => true
  | .join => true
  | _ => false
def qBm (b : BM) (fo : Expr → Bool) (f : List Expr → Bool) : Expr → Bool
  | .Call (.Attribute o x a) es [] p => decide (bmN b = x) && notSup o && (a.endLine == p.line) && decide (es.length < 30) && !es.isEmpty && fo o && f es
  | _ => false
def tyS : Ty → Str
  | .int => "int" | .bool => "bool" | .str => "str" | .tup => "tuple" | .lst => "list" | .dic => "dict" | .cls _ => ""
def qIsi (T : Tab) (c : KC) (fe : Expr → Bool) : List Ty → Expr → Bool
  | [t], .Call (.Name x _) [e, .Name z _] [] _ => decide (x = "isinstance") && glB c.sc x && decide (x ∈ T.free) && tyB t && decide (z = tyS t) && glB c.sc z && decide (z ∈ T.free) && nst e && fe e
  | _, _ => false
def qIsx (T : Tab) (c : KC) (i k : Nat) : Expr → Bool
  | .Call (.Name x _) [.Name y _, .Name z _] [] _ => decide (x = "isinstance") && glB c.sc x && decide (x ∈ T.free) && decide (c.N[i]? = some y) && visB c.sc y && nmB y && glB c.sc z && nmB z && decide ((z, k) ∈ T.ex)
  | _ => false
def tgN (c : KC) (i : Nat) : Expr → Bool
  | .Name x _ => decide (c.N[i]? = some x) && (decide (c.sc.names.lookup x = some .local) || (!c.blk && decide (c.sc.names.lookup x = some .cell)))
  | _ => false
def tgNs (c : KC) : List Nat → List Expr → Bool
  | [], [] => true
  | i :: is, e :: es => nst e && tgN c i e && tgNs c is es
  | _, _ => false
def tgTup (c : KC) (is : List Nat) : Expr → Bool
  | .Tuple es _ _ => c.calm && tgNs c is es
  | _ => false
def tgB (c : KC) : Tg → Expr → Bool
  | .nm i, e => tgN c i e
  | .tp is, e => tgTup c is e
  | .tp2 i js, .Tuple [a, b] _ _ => c.calm && nst a && nst b && tgN c i a && tgTup c js b
  | _, _ => false
/-- what a loop runs over -/
def itB (T : Tab) (c : KC) (k : IK) (f : List Expr → Bool) (e : Expr) : Bool := match k with
  | .plain => notSet e && f [e]
  | .range1 => (match e with
    | .Call (.Name x _) [a] [] _ => decide (x = "range") && glB c.sc x && decide (x ∈ T.free) && f [a]
    | _ => false)
  | .range2 => (match e with
    | .Call (.Name x _) [a, b] [] _ => decide (x = "range") && glB c.sc x && decide (x ∈ T.free) && f [a, b]
    | _ => false)
  | _ => false
def ownP (c : KC) (own : List Nat) : List (Str × Nat) := own.map fun i => (c.N.getD i "", i)
def KC.in_ (c : KC) (scope : Scope) : KC := { c with sc := relS scope c.sc, blk := true }
/-- [elt for tg in iter if ..] -/
def qLc (T : Tab) (c : KC) (own : List Nat) (tg : Tg) (k : IK) (nc : Nat) (fs : List Expr → Bool) (fc : KC → List Expr → Bool) (fe : KC → Expr → Bool) : Expr → Bool
  | .ListComp elt [⟨tgE, iter, ifs, z⟩] scope _ => decide (z = 0) && c.calm && !c.hx && blkC c.N c.sc scope (ownP c own) && decide (ifs.length ≤ 1) && tgB (c.in_ scope) tg tgE && (tg.slots.all fun i => decide (i ∈ own)) && itB T c k fs iter && fc (c.in_ scope) ifs && fe (c.in_ scope) elt
  | _ => false
/-- [elt for tg in iter if .. for tg1 in iter1 if ..] -/
def qLc2 (T : Tab) (c : KC) (own : List Nat) (tg : Tg) (k : IK) (own1 : List Nat) (tg1 : Tg) (k1 : IK) (fs : List Expr → Bool) (fc : KC → List Expr → Bool) (fs1 : KC → List Expr → Bool) (fc1 : KC → List Expr → Bool) (fe : KC → Expr → Bool) : Expr → Bool
  | .ListComp elt [⟨tgE, iter, ifs, z⟩, ⟨tgE1, iter1, ifs1, z1⟩] scope _ => decide (z = 0) && decide (z1 = 0) && c.calm && !c.hx && blkC c.N c.sc scope (ownP c own) && decide (ifs.length ≤ 1) && decide (ifs1.length ≤ 1) && tgB (c.in_ scope) tg tgE && tgB (c.in_ scope) tg1 tgE1 &&
    (tg.slots.all fun i => decide (i ∈ own)) && (tg1.slots.all fun i => decide (i ∈ own1)) && (own1.all fun i => decide (i ∈ own)) && itB T c k fs iter && itB T (c.in_ scope) k1 (fs1 (c.in_ scope)) iter1 && fc (c.in_ scope) ifs && fc1 (c.in_ scope) ifs1 && fe (c.in_ scope) elt
  | _ => false
/-! ### tests -/
def qNotT (f : Expr → Bool) : Expr → Bool
  | .UnaryOp .Not a _ => f a
  | _ => false
def qBoolT (f : List Expr → Bool) : Expr → Bool
  | .BoolOp _ vs _ => f vs
  | _ => false
mutual
def tOk : CE → Expr → Bool
  | .nt a => qNotT (tOk a)
  | .andl es => qBoolT (tOks es)
  | .orl es => qBoolT (tOks es)
  | .cmp _ _ _ => fun _ => true
  | .chn _ _ _ _ _ => fun _ => true
  | .var _ => plainT | .non => plainT | .bl _ => plainT | .int _ => plainT | .str _ => plainT | .con _ => plainT
  | .bin _ _ _ => plainT | .neg _ => plainT | .fld _ _ => plainT | .ix _ _ => plainT | .tup _ => plainT | .lst _ => plainT
  | .call _ _ => plainT | .meth _ _ _ => plainT | .bi _ _ => plainT | .bm _ _ _ => plainT | .isi _ _ => plainT | .isx _ _ => plainT
  | .lc _ _ _ _ _ _ => plainT | .lc2 _ _ _ _ _ _ _ _ _ _ _ => plainT | .slc _ _ _ => plainT
  | _ => fun _ => false
def tOks : CEs → List Expr → Bool
  | .nil => fun es => es.isEmpty
  | .cons a r => fun es => match es with
    | [] => false
    | e :: es => tOk a e && tOks r es
end
mutual
def cE (G : Prg) (T : Tab) : CE → KC → Expr → Bool
  | .var i => fun c => qVar c i
  | .non => fun _ => qConst .none
  | .bl b => fun _ => qConst (.bool b)
  | .int i => fun _ => qConst (.int i)
  | .str x => fun _ => qConst (.str (strOf x))
  | .con g => fun c => qCon T c g
  | .bin op a b => fun c => qBin op (cE G T a c) (cE G T b c)
  | .neg a => fun c => qUn .USub (cE G T a c)
  | .nt a => fun c => qUn .Not (cE G T a c)
  | .andl es => fun c => qBool .And (cEs G T es c)
  | .orl es => fun c => qBool .Or (cEs G T es c)
  | .cmp op a b => fun c => qCmp op (cE G T a c) (cE G T b c)
  | .chn op op2 a b d => fun c => qChn op op2 (cE G T a c) (cE G T b c) (cE G T d c)
  | .ife t a b => fun c => qIfe (fun e => cE G T t c e && tOk t e) (cE G T a c) (cE G T b c)
  | .fld o f => fun c => qFld T f (cE G T o c)
  | .ix o i => fun c => qIx (cE G T o c) (cE G T i c)
  | .slc o lo hi => fun c => qSlc lo.isNope hi.isNope (cE G T o c) (cE G T lo c) (cE G T hi c)
  | .tup es => fun c => qTup es.len (cEs G T es c)
  | .lst es => fun c => qLst es.len (cEs G T es c)
  | .lc own tg k src cond elt => fun c => qLc T c own tg k cond.len (cEs G T src c) (fun c' es => cEs G T cond c' es && tOks cond es) (fun c' e => cE G T elt c' e)
  | .lc2 own tg k src cond own1 tg1 k1 src1 cond1 elt => fun c => qLc2 T c own tg k own1 tg1 k1 (cEs G T src c) (fun c' es => cEs G T cond c' es && tOks cond es) (fun c' es => cEs G T src1 c' es) (fun c' es => cEs G T cond1 c' es && tOks cond1 es) (fun c' e => cE G T elt c' e)
  | .call f es => fun c => qCall c (fun x => c.calm && decide ((x, f) ∈ T.fn) && G.can f es.len) (cEs G T es c)
  | .make k es => fun c => qCall c (fun x => c.calm && decide ((x, k) ∈ T.cl) && (match G.init k with
    | some f => G.can f (es.len + 1)
    | none => G.plain k && decide (es.len = 0))) (cEs G T es c)
  | .meth m o es => fun c e => c.calm && qMeth T m (cE G T o c) (cEs G T es c) e
  | .bi b es => fun c e => qFmt b es (cEs G T es c) e || qCall c (fun x => (biH b || c.calm) && biK b && decide (x = biN b) && decide (x ∈ T.free) && decide (0 < es.len)) (cEs G T es c) e
  | .bm b o es => fun c e => bmB b && qBm b (cE G T o c) (cEs G T es c) e
  | .isi e ts => fun c => qIsi T c (cE G T e c) ts
  | .isx i k => fun c => qIsx T c i k
  | _ => fun _ _ => false
def cEs (G : Prg) (T : Tab) : CEs → KC → List Expr → Bool
  | .nil => fun _ es => es.isEmpty
  | .cons a r => fun c es => match es with
    | [] => false
    | e :: es => nst e && cE G T a c e && cEs G T r c es
end
theorem cEs_len {G : Prg} {T : Tab} : ∀ {es : CEs} {c : KC} {l : List Expr}, cEs G T es c l = true → l.length = es.len ∧ l.all nst = true
  | .nil, c, l, h => by
    have : l.isEmpty = true := h
    cases l with
    | nil => exact ⟨rfl, rfl⟩
    | cons a b => cases this
  | .cons a r, c, [], h => by cases h
  | .cons a r, c, e :: l, h => by
    have h : (nst e && cE G T a c e && cEs G T r c l) = true := h
    simp only [Bool.and_eq_true] at h
    obtain ⟨h1, h2⟩ := cEs_len h.2
    exact ⟨by show l.length + 1 = r.len + 1; rw [h1], by show (nst e && l.all nst) = true; rw [h.1.1, h2]; rfl⟩
theorem dens_len {C : Cal} {r : Env} : ∀ {es : CEs} {s s' : Sto} {ds : List D}, dens C r es s = .ok ds s' → ds.length = es.len
  | .nil, s, s', ds, h => by
    obtain ⟨e, _⟩ := M.pure_inv h
    subst e
    rfl
  | .cons a b, s, s', ds, h => by
    obtain ⟨x, s1, h1, h2⟩ := M.bind_inv h
    obtain ⟨y, s2, h3, h4⟩ := M.bind_inv h2
    obtain ⟨e, _⟩ := M.pure_inv h4
    subst e
    show y.length + 1 = b.len + 1
    rw [dens_len h3]
end EW

set_option Elab.async false
set_option linter.all false
set_option maxRecDepth 100000
/-! M layer 16: the check is sound: expressions. -/
namespace EW
open PySem PySem.Spec PyProof.Rows L2

section
variable {env : PySem.Env}
theorem asg_cons {e : Expr} {es : List Expr} (h : nst e = true) : assignEach (e :: es) env = (false, assign e env) :: assignEach es env := by
  cases e <;> first | rfl | cases h
end
theorem tgNs_nst {c : KC} : ∀ {is : List Nat} {es : List Expr}, tgNs c is es = true → es.all nst = true ∧ es.length = is.length
  | [], [], _ => ⟨rfl, rfl⟩
  | [], _ :: _, h => by cases h
  | _ :: _, [], h => by cases h
  | i :: is, e :: es, h => by
    have h : (nst e && tgN c i e && tgNs c is es) = true := h
    simp only [Bool.and_eq_true] at h
    obtain ⟨h1, h2⟩ := tgNs_nst h.2
    exact ⟨by show (nst e && es.all nst) = true; rw [h.1.1, h1]; rfl, by show es.length + 1 = is.length + 1; rw [h2]⟩
theorem asg_len {env : PySem.Env} : ∀ {es : List Expr}, es.all nst = true → (assignEach es env).length = es.length ∧ (assignEach es env).findIdx? (·.1) = none
  | [], _ => ⟨rfl, rfl⟩
  | e :: es, h => by
    obtain ⟨h1, h2⟩ := Bool.and_eq_true_iff.mp (show (nst e && es.all nst) = true from h)
    obtain ⟨h3, h4⟩ := asg_len (env := env) h2
    rw [asg_cons h1]
    refine ⟨by show (assignEach es env).length + 1 = es.length + 1; rw [h3], ?_⟩
    rw [List.findIdx?_cons, h4]
    rfl
section
variable {G : Gb} {k : Nat} {base : Heap} {c : KC} {g : Pm} {X : Cx}
theorem tgN_ok (o : KOk G k base c g X) {i : Nat} {e : Expr} (h : tgN c i e = true) : PG X e (gName i) := by
  cases e <;> first | (cases h; done) | skip
  rename_i x p
  have h : (decide (c.N[i]? = some x) && (decide (c.sc.names.lookup x = some .local) || (!c.blk && decide (c.sc.names.lookup x = some .cell)))) = true := h
  simp only [Bool.and_eq_true, Bool.or_eq_true, decide_eq_true_eq, Bool.not_eq_true'] at h
  obtain ⟨h1, h2⟩ := h
  have hN : X.N[i]? = some x := by rw [o.N]; exact h1
  rcases h2 with h2 | ⟨h2, h3⟩
  · exact pg_name o.nd hN (.inl (by rw [o.sc]; exact h2)) (.inr (by rw [o.sc]; exact h2))
  · exact pg_name o.nd hN (.inr (by rw [o.sc]; exact h3)) (.inl (o.fnl h2 x))
theorem tgNs_ok (o : KOk G k base c g X) : ∀ {is : List Nat} {es : List Expr}, tgNs c is es = true → PGs X es (gNames is)
  | [], [], _ => pgs_nil
  | [], _ :: _, h => by cases h
  | _ :: _, [], h => by cases h
  | i :: is, e :: es, h => by
    have h : (nst e && tgN c i e && tgNs c is es) = true := h
    simp only [Bool.and_eq_true] at h
    exact pgs_cons (tgN_ok o h.1.2) (tgNs_ok o h.2) (by rw [asg_cons h.1.1]; rfl)
theorem tgTup_ok (o : KOk G k base c g X) {is : List Nat} {e : Expr} (h : tgTup c is e = true) : PG X e (gTup G.K is.length (gNames is)) := by
  cases e <;> first | (cases h; done) | skip
  rename_i es kk p
  obtain ⟨h1, h2⟩ := Bool.and_eq_true_iff.mp (show (c.calm && tgNs c is es) = true from h)
  obtain ⟨h3, h4⟩ := tgNs_nst h2
  obtain ⟨h5, h6⟩ := asg_len (env := X.env) h3
  rw [← o.x.K]
  exact pg_tup (o.calm h1) (tgNs_ok o h2) (h5.trans h4) h6
theorem pg_or {X : Cx} {e : Expr} {t1 t2 : TG} (h1 : PG X e t1) (h2 : PG X e t2) : PG X e (fun v a H Q => t1 v a H Q ∨ t2 v a H Q) := ⟨fun pins s a H v u Q I r q => q.elim (fun z => h1.run pins s a H v u Q I r z) fun z => h2.run pins s a H v u Q I r z⟩
theorem tgSq_ok (o : KOk G k base c g X) {is : List Nat} {e : Expr} (h : tgTup c is e = true) : PG X e (gSq G.K is.length (gNames is)) := by
  cases e <;> first | (cases h; done) | skip
  rename_i es kk p
  obtain ⟨h1, h2⟩ := Bool.and_eq_true_iff.mp (show (c.calm && tgNs c is es) = true from h)
  obtain ⟨h3, h4⟩ := tgNs_nst h2
  obtain ⟨h5, h6⟩ := asg_len (env := X.env) h3
  rw [← o.x.K]
  exact pg_or (pg_tup (o.calm h1) (tgNs_ok o h2) (h5.trans h4) h6) (pg_unl (o.calm h1) (tgNs_ok o h2) (h5.trans h4) h6)
theorem tgB_ok (o : KOk G k base c g X) {t : Tg} {e : Expr} (h : tgB c t e = true) : PG X e (gOf G.K t) := by
  cases t with
  | nm i => exact tgN_ok o (show tgN c i e = true by cases e <;> exact h)
  | tp is => exact tgSq_ok o (show tgTup c is e = true by cases e <;> exact h)
  | tp2 i js =>
    unfold tgB at h
    split at h
    · rename_i q1; cases q1
    · rename_i q1; cases q1
    · rename_i i' js' a b kk p q1
      cases q1
      simp only [Bool.and_eq_true] at h
      obtain ⟨⟨⟨⟨h1, h2⟩, h3⟩, h4⟩, h5⟩ := h
      show PG X (.Tuple [a, b] kk p) (gTup G.K 2 (gCons (gName i) (gCons (gTup G.K js.length (gNames js)) gNil)))
      have e1 : ([a, b] : List Expr).all nst = true := by simp [h2, h3]
      obtain ⟨h6, h7⟩ := asg_len (env := X.env) e1
      have e2 := pg_tup (k := kk) (pos := p) (o.calm h1) (pgs_cons (tgN_ok o h4) (pgs_cons (tgTup_ok o h5) pgs_nil (by rw [asg_cons h3]; rfl)) (by rw [asg_cons h2]; rfl)) h6 h7
      rw [o.x.K] at e2
      exact e2
    · cases h
theorem Gl_of (o : KOk G k base c g X) {x : Str} (h : glB c.sc x = true) : Gl X x := by
  show X.env.scope.names.lookup x = _
  rw [o.sc]
  exact glB_ok h
theorem KOk.in_ (o : KOk G k base c g X) (hx : c.hx = false) {scope : Scope} (hk : scope.kind = .function) {s : Shared} {H : Hp} {C : Addr} {cl : List (Str × Addr)} {fp : List Addr} : KOk G k base (c.in_ scope) g.in_ (X.blk s H scope (compEnvC scope cl C X.env) fp) where
  x := o.x.blk (o.chi hx)
  sc := by show relS scope X.env.scope = relS scope c.sc; rw [o.sc]
  kf := hk
  N := o.N
  nd := o.nd
  calm := o.calm
  room := o.room
  un := o.un
  base := o.base
  chi := o.chi
  fnl := fun h => by cases h
/-- a chain of two comparisons, tested -/
theorem mt_chn {op op' : CmpOp} {o o' : D → D → M D} {ea eb ec : Expr} {fa fb fc : Env → M D} {pos : Pos} (ho : OpR X (compareOp op) (r2 G o)) (ho' : OpR X (compareOp op') (r2 G o')) (ha : PE X ea (tE G g fa)) (hb : PE X eb (tE G g fb)) (hc : PE X ec (tE G g fc))
    (hm : lastMarks [op, op'] [eb, ec] = false) (hbl : ∀ x y s d s', o' x y s = .ok d s' → ∃ k, d = .bl k) :
    PT X (.Compare ea [op, op'] [eb, ec] pos) (tB G g fun r => M.bind (M.bind (fa r) fun x => M.bind (fb r) fun y => M.bind (o x y) fun k => match k with
      | .bl true => M.bind (fc r) fun z => o' y z
      | .bl false => M.pure (.bl false)
      | _ => M.stuck) tru) := impPT (pt_chain ho ho' ha hb hc hm) fun a H Q h => by
  obtain ⟨m, r, s, R, E, P⟩ := h
  refine ⟨m, r, s, R, E, P.bind.bind.imp fun d m1 s1 H1 e1 r1 P1 v hv => ?_⟩
  refine ⟨m1, r, s1, r1, E.mono (e1.stay R), P1.bind.imp fun d2 m2 s2 H2 e2 r2 P2 u hu => ?_⟩
  refine ⟨m2, s2, d, d2, wX G g.W a, r2, RV.mono (e2.stay r1) d v hv, hu, P2.bind.imp fun k m3 s3 H3 e3 r3 P3 z hz => ?_⟩
  obtain ⟨k, rfl⟩ : ∃ b, k = .bl b := by
    cases k <;> first | exact ⟨_, rfl⟩ | exact False.elim P3
  refine ⟨k, hz, ?_⟩
  cases k with
  | false =>
    refine iteF ⟨false, rfl, ?_⟩
    have P4 := P3.ok r3
    have P4 : Post G m3 s3 H3 (wX G g.W a) (EW.tru (.bl false) s3) _ := P4
    exact P4.ok r3 _ rfl
  | true =>
    refine iteT ⟨m3, r, s3, r3, ((E.mono (e1.stay R)).mono (e2.stay r1)).mono (e3.stay r2), P3.bind.imp fun d4 m4 s4 H4 e4 r4 P4 w hw => ?_⟩
    refine ⟨m4, s4, d2, d4, wX G g.W a, r4, RV.mono (e4.stay r3) d2 u (RV.mono (e3.stay r2) d2 u hu), hw, ?_⟩
    have hbl' := hbl d2 d4 s4
    cases q : o' d2 d4 s4 with
    | ok z s5 =>
      rw [q] at P4 hbl'
      obtain ⟨k, rfl⟩ := hbl' z s5 rfl
      intro m5 H5 e5 r5 w5 hw5
      have hw' : w5 = .bl k := hw5
      subst hw'
      refine ⟨k, rfl, ?_⟩
      have P5 := P4 m5 H5 e5 r5
      have P5 : Post G m5 s5 H5 (wX G g.W a) (EW.tru (.bl k) s5) _ := P5
      exact P5.ok r5 _ rfl
    | exc z s5 => rw [q] at P4; exact P4
    | no => rw [q] at P4; exact P4
/-- the single test -/
theorem mw_and1 {ea : Expr} {pos : Pos} {ta : Env → M Bool} (ha : PT X ea (tB G g ta)) : PW X (.BoolOp .And [ea] pos) (tB G g ta) := pw_and1 ha
theorem mw_or1 {ea : Expr} {pos : Pos} {ta : Env → M Bool} (ha : PT X ea (tB G g ta)) : PW X (.BoolOp .Or [ea] pos) (tB G g ta) := pw_or1 ha
theorem PT.congr {e : Expr} {f f' : Env → M Bool} (h : PT X e (tB G g f)) (q : ∀ r s, f' r s = f r s) : PT X e (tB G g f') := by
  have : f' = f := funext fun r => funext fun s => q r s
  rw [this]; exact h
theorem PW.congr {e : Expr} {f f' : Env → M Bool} (h : PW X e (tB G g f)) (q : ∀ r s, f' r s = f r s) : PW X e (tB G g f') := by
  have : f' = f := funext fun r => funext fun s => q r s
  rw [this]; exact h
theorem PE.congr {e : Expr} {f f' : Env → M D} (h : PE X e (tE G g f)) (q : ∀ r s, f' r s = f r s) : PE X e (tE G g f') := by
  have : f' = f := funext fun r => funext fun s => q r s
  rw [this]; exact h
theorem tru_det {d : D} {s s' : Sto} {b : Bool} (h : tru d s = .ok b s') : s' = s := by
  rcases tru_cases d s with e | ⟨b', e⟩
  · rw [e] at h; cases h
  · rw [e] at h; cases h; rfl
/-- and, tested: the value's truth -/
theorem and_tru (fa fb : M D) (s : Sto) : M.bind (M.bind fa fun x => M.bind (tru x) fun b => if b = true then fb else M.pure x) tru s = M.bind (M.bind fa tru) (fun b => if b = true then M.bind fb tru else M.pure false) s := by
  rw [M.bind_assoc, M.bind_assoc]
  show M.bind fa _ s = M.bind fa _ s
  rw [M.bind_def, M.bind_def]
  cases fa s with
  | ok x s1 =>
    show M.bind (M.bind (tru x) _) tru s1 = M.bind (tru x) _ s1
    rw [M.bind_assoc, M.bind_def, M.bind_def]
    cases q : tru x s1 with
    | ok b s2 =>
      have := tru_det q
      subst this
      cases b with
      | true => rfl
      | false =>
        show tru x s2 = .ok false s2
        exact q
    | exc x s2 => rfl
    | no => rfl
  | exc x s1 => rfl
  | no => rfl
theorem or_tru (fa fb : M D) (s : Sto) : M.bind (M.bind fa fun x => M.bind (tru x) fun b => if b = true then M.pure x else fb) tru s = M.bind (M.bind fa tru) (fun b => if b = true then M.pure true else M.bind fb tru) s := by
  rw [M.bind_assoc, M.bind_assoc]
  show M.bind fa _ s = M.bind fa _ s
  rw [M.bind_def, M.bind_def]
  cases fa s with
  | ok x s1 =>
    show M.bind (M.bind (tru x) _) tru s1 = M.bind (tru x) _ s1
    rw [M.bind_assoc, M.bind_def, M.bind_def]
    cases q : tru x s1 with
    | ok b s2 =>
      have := tru_det q
      subst this
      cases b with
      | false => rfl
      | true =>
        show tru x s2 = .ok true s2
        exact q
    | exc x s2 => rfl
    | no => rfl
  | exc x s1 => rfl
  | no => rfl
theorem not_tru (fa : M D) (s : Sto) : M.bind (M.bind fa fun x => M.bind (tru x) fun b => M.pure (D.bl (!b))) tru s = M.bind (M.bind fa tru) (fun b => M.pure (!b)) s := by
  rw [M.bind_assoc, M.bind_assoc]
  show M.bind fa _ s = M.bind fa _ s
  rw [M.bind_def, M.bind_def]
  cases fa s with
  | ok x s1 =>
    show M.bind (M.bind (tru x) _) tru s1 = M.bind (tru x) _ s1
    rw [M.bind_assoc, M.bind_def, M.bind_def]
    cases q : tru x s1 with
    | ok b s2 => rfl
    | exc x s2 => rfl
    | no => rfl
  | exc x s1 => rfl
  | no => rfl
end
/-! ### f-strings -/
theorem quiet_ok {C : Cal} {r : Env} : ∀ {e : CE}, quietE e = true → ∀ (s : Sto), den C r e s = .no ∨ ∃ d s', den C r e s = .ok d s'
  | .var i, _, s => by
    show slotV r i s = .no ∨ ∃ d s', slotV r i s = .ok d s'
    unfold slotV
    split
    · exact .inr ⟨_, _, rfl⟩
    · exact .inl rfl
  | .str x, _, s => .inr ⟨_, _, rfl⟩
  | .int x, _, s => .inr ⟨_, _, rfl⟩
  | .bi .len (.cons e .nil), h, s => by
    rcases quiet_ok (C := C) (r := r) (e := e) h s with q | ⟨d, s', q⟩
    · left
      show M.bind (M.bind (den C r e) fun x => M.bind (dens C r .nil) fun xs => M.pure (x :: xs)) (b1 lenD) s = _
      unfold M.bind
      rw [q]
    · have e0 : den C r (.bi .len (.cons e .nil)) s = lenD d s' := by
        show M.bind (M.bind (den C r e) fun x => M.bind (dens C r .nil) fun xs => M.pure (x :: xs)) (b1 lenD) s = _
        unfold M.bind
        rw [q]
        rfl
      rw [e0]
      unfold lenD
      cases d <;> dsimp only
      all_goals first | exact .inl rfl | exact .inr ⟨_, _, rfl⟩ | skip
      · split
        · exact .inr ⟨_, _, rfl⟩
        · exact .inl rfl
      · split
        · exact .inr ⟨_, _, rfl⟩
        · exact .inl rfl
  | .ix a b, h, s => by
    obtain ⟨h1, h2⟩ := Bool.and_eq_true_iff.mp (show (quietE a && quietE b) = true from h)
    rcases quiet_ok (C := C) (r := r) h1 s with q | ⟨d, s', q⟩
    · left
      show M.bind (den C r a) (fun x => M.bind (den C r b) fun y => item x y) s = _
      unfold M.bind
      rw [q]
    · rcases quiet_ok (C := C) (r := r) h2 s' with p | ⟨e, s2, p⟩
      · left
        show M.bind (den C r a) (fun x => M.bind (den C r b) fun y => item x y) s = _
        unfold M.bind
        rw [q]
        dsimp only
        rw [p]
      · have e0 : den C r (.ix a b) s = item d e s2 := by
          show M.bind (den C r a) (fun x => M.bind (den C r b) fun y => item x y) s = _
          unfold M.bind
          rw [q]
          dsimp only
          rw [p]
        rw [e0]
        unfold item
        repeat' split
        all_goals first | exact .inl rfl | exact .inr ⟨_, _, rfl⟩
theorem fmt_quiet {C : Cal} {r : Env} {e : CE} (h : quietE e = true) (s : Sto) : den C r (.bi .fmt (.cons e .nil)) s = .no ∨ ∃ y s', den C r (.bi .fmt (.cons e .nil)) s = .ok (.str y) s' := by
  rcases quiet_ok (C := C) (r := r) h s with q | ⟨d, s', q⟩
  · left
    show M.bind (M.bind (den C r e) fun x => M.bind (dens C r .nil) fun xs => M.pure (x :: xs)) (b1 fmtD) s = _
    unfold M.bind
    rw [q]
  · have e0 : den C r (.bi .fmt (.cons e .nil)) s = fmtD d s' := by
      show M.bind (M.bind (den C r e) fun x => M.bind (dens C r .nil) fun xs => M.pure (x :: xs)) (b1 fmtD) s = _
      unfold M.bind
      rw [q]
      rfl
    rw [e0]
    unfold fmtD
    repeat' split
    all_goals first | exact .inl rfl | exact .inr ⟨_, _, rfl⟩
theorem fst_head {a : CE} {r' : CEs} (h : fstE (.cons a r') = true) : fstE r' = true ∧ ∀ (C : Cal) (r : Env) (s : Sto), den C r a s = .no ∨ ∃ y s', den C r a s = .ok (.str y) s' := by
  unfold fstE at h
  split at h
  · cases ‹CEs.cons a r' = _›
  · cases ‹CEs.cons a r' = _›
    exact ⟨h, fun C r s => .inr ⟨_, _, rfl⟩⟩
  · cases ‹CEs.cons a r' = _›
    obtain ⟨h1, h2⟩ := Bool.and_eq_true_iff.mp h
    exact ⟨h2, fun C r s => fmt_quiet h1 s⟩
  · cases h
theorem fst_cons (acc y : List Nat) (xs : List EW.D) (s : Sto) : fstrA acc (.str y :: xs) s = fstrA (acc ++ y) xs s := by
  unfold fstrA
  have e : omap txtOf (EW.D.str y :: xs) = (match omap txtOf xs with
    | none => none
    | some ys => some (y :: ys)) := by
    simp only [omap, EW.txtOf]
    cases omap txtOf xs <;> rfl
  rw [e]
  cases omap txtOf xs with
  | none => rfl
  | some ys => dsimp only; rw [List.flatten_cons, ← List.append_assoc]
theorem fst_step {C : Cal} {r : Env} {a : CE} {r' : CEs} {s s1 : Sto} {y acc : List Nat} (h : den C r a s = .ok (.str y) s1) : M.bind (dens C r (.cons a r')) (fstrA acc) s = M.bind (dens C r r') (fstrA (acc ++ y)) s1 := by
  show M.bind (M.bind (den C r a) fun x => M.bind (dens C r r') fun xs => M.pure (x :: xs)) (fstrA acc) s = _
  unfold M.bind
  rw [h]
  dsimp only
  cases dens C r r' s1 with
  | ok xs s2 => exact fst_cons acc y xs s2
  | exc _ _ => rfl
  | no => rfl
theorem fst_len {C : Cal} {r : Env} : ∀ {es : CEs} {acc : List Nat} {s : Sto}, fstE es = true → M.bind (dens C r es) (fstrA acc) s = .no ∨ acc.length ≤ sizeLine
  | .nil, acc, s, _ => by
    have e : M.bind (dens C r .nil) (fstrA acc) s = if (acc ++ ([] : List (List Nat)).flatten).length ≤ sizeLine then .ok (.str (acc ++ ([] : List (List Nat)).flatten)) s else .no := rfl
    rw [e]
    by_cases c : (acc ++ ([] : List (List Nat)).flatten).length ≤ sizeLine
    · right; simpa using c
    · left; rw [if_neg c]
  | .cons a r', acc, s, h => by
    obtain ⟨h1, h2⟩ := fst_head h
    rcases h2 C r s with q | ⟨y, s1, q⟩
    · left
      show M.bind (M.bind (den C r a) fun x => M.bind (dens C r r') fun xs => M.pure (x :: xs)) (fstrA acc) s = _
      unfold M.bind
      rw [q]
    · rw [fst_step q]
      rcases fst_len (es := r') (acc := acc ++ y) (s := s1) h1 with p | p
      · exact .inl p
      · right; rw [List.length_append] at p; omega
section
variable {G : Gb} {g : Pm} {X : Cx} {C : Cal}
def tes (G : Gb) (g : Pm) (C : Cal) : CEs → List TE
  | .nil => []
  | .cons a r => (tE G g fun ρ => den C ρ a) :: tes G g C r
theorem strOf_app (x y : List Nat) : strOf x ++ strOf y = strOf (x ++ y) := TL.ext_tl (by rw [TL.tl_append]; rfl)
theorem tJs_of {Xp : XP} {a : AS} {r : Env} {Q : VK} : ∀ {es : CEs} {acc : List Nat} {m : Mp} {s : Sto} {H : Hp}, fstE es = true → Rel G m s H → RE g.chi m s.length H a r →
    Post G m s H Xp (M.bind (dens C r es) (fstrA acc) s) (fun d m' s' H' => ∀ v, RV m' s'.length H' v d → Q v H') → tJs (tes G g C es) (strOf acc) a H (fun out H1 => Q (V.str out) H1)
  | .nil, acc, m, s, H, _, R, E, P => by
    have P : Post G m s H Xp (if (acc ++ ([] : List (List Nat)).flatten).length ≤ sizeLine then Res.ok (EW.D.str (acc ++ ([] : List (List Nat)).flatten)) s else .no) _ := P
    obtain ⟨c, P⟩ := Post.ite P
    have e : acc ++ ([] : List (List Nat)).flatten = acc := by simp
    rw [e] at P
    show Q (V.str (strOf acc)) H
    exact P.ok R (V.str (strOf acc)) (by unfold RV; rfl)
  | .cons ce r', acc, m, s, H, h, R, E, P => by
    obtain ⟨h1, h2⟩ := fst_head h
    rcases h2 C r s with q | ⟨y, s1, q⟩
    · have e : M.bind (dens C r (.cons ce r')) (fstrA acc) s = .no := by
        show M.bind (M.bind (den C r ce) fun x => M.bind (dens C r r') fun xs => M.pure (x :: xs)) (fstrA acc) s = _
        unfold M.bind
        rw [q]
      rw [e] at P
      exact P.elim
    · rw [fst_step q] at P
      refine ⟨m, r, s, R, E, ?_⟩
      show Post G m s H _ (den C r ce s) _
      rw [q]
      intro m1 H1 e1 r1 v hv
      unfold RV at hv
      subst hv
      have P1 := Post.rebase e1 P
      refine ⟨_, rfl, ?_, ?_⟩
      · rw [strOf_app, len_strOf]
        rcases fst_len (C := C) (r := r) (es := r') (acc := acc ++ y) (s := s1) h1 with p | p
        · rw [p] at P1; exact P1.elim
        · exact p
      · rw [strOf_app]
        exact tJs_of h1 r1 (E.mono (e1.stay R)) P1
theorem me_fstr {v1 v2 : Expr} {rest : List Expr} {es : CEs} {pos : Pos} (h : fstE es = true) (j : PJ X (v1 :: v2 :: rest) (tes G g C es)) : PE X (.JoinedStr (v1 :: v2 :: rest) pos) (tE G g fun r => den C r (.bi .fstr es)) := impPE (pe_joined j) fun a H Q q => by
  obtain ⟨m, r, s, R, E, P⟩ := q
  exact tJs_of (Xp := wX G g.W a) h R E P
end
end EW

set_option Elab.async false
set_option linter.all false
set_option maxRecDepth 100000
set_option maxHeartbeats 0
/-! M layer 17: the check is sound: expressions, all. -/
namespace EW
open PySem PySem.Spec PyProof.Rows L2

theorem tyN_S (t : Ty) (h : tyB t = true) : bootBuiltins (tyS t) = some (.type (tyN t)) := by
  cases t <;> first | (cases h; done) | decide +kernel
theorem tyS_nm (t : Ty) (h : tyB t = true) : nmB (tyS t) = true := by
  cases t <;> first | (cases h; done) | decide +kernel
theorem nm_isi : nmB "isinstance" = true := by decide +kernel
theorem boot_isi : bootBuiltins "isinstance" = some (.builtin "isinstance") := by decide +kernel
section
variable {G : Gb} {fi : Nat → FI} {T : Tab} {C : Cal} {k : Nat} {base : Heap}
/-- the shape of a call's arguments -/
theorem args_shape {X : Cx} {pos : Pos} {l : List Expr} {es : CEs} {fs : Env → M (List D)} (h1 : l.length = es.len) (h2 : l.all nst = true) (h0 : es.len = 0 → ∀ r, fs r = M.pure []) :
    l = [] ∧ (∀ r, fs r = M.pure []) ∨ ∃ e es', l = e :: es' ∧ starEach (e :: es') X.env = (false, eval e X.env) :: starEach es' X.env ∧ (backTo pos (starEach es' X.env)).any (·.1) = false := by
  cases l with
  | nil => exact .inl ⟨rfl, h0 h1.symm⟩
  | cons e l =>
    obtain ⟨h3, h4⟩ := Bool.and_eq_true_iff.mp (show (nst e && l.all nst) = true from h2)
    exact .inr ⟨e, l, rfl, star_cons h3, back_any h4⟩
theorem dens_zero {C : Cal} {es : CEs} (h : es.len = 0) (r : Env) : dens C r es = M.pure [] := by
  cases es with
  | nil => rfl
  | cons a b => cases h
theorem asgB_ok {X : Cx} {g : Pm} {c : KC} (o : KOk G k base c g X) {x : Str} (h : decide (x ∈ T.free) = true) (GO : GOk G fi T C k base) : X.mg x = none := by
  rw [o.x.mg]
  exact GO.T.free x (of_decide_eq_true h)
theorem itB_fold {c : KC} {ik : IK} {f : List Expr → Bool} {iter : Expr} (h : itB T c ik f iter = true) {env : PySem.Env} (x : Value) : foldedSetIterable iter env x = pure x := by
  unfold itB at h
  cases ik <;> dsimp only at h
  · exact fold_no (Bool.and_eq_true_iff.mp h).1 x
  · cases iter <;> first | (cases h; done) | rfl
  · cases iter <;> first | (cases h; done) | rfl
  all_goals cases h
mutual
theorem sE (GO : GOk G fi T C k base) : ∀ (ce : CE) {c : KC} {g : Pm} {X : Cx} {e : Expr}, KOk G k base c g X → cE G.Q T ce c e = true → PE X e (tE G g fun r => den C r ce)
  | .var i, c, g, X, e, o, h => by
    cases e <;> first | (cases h; done) | skip
    rename_i x p
    have h : (decide (c.N[i]? = some x) && visB c.sc x && nmB x) = true := h
    simp only [Bool.and_eq_true, decide_eq_true_eq] at h
    obtain ⟨n1, n2, _⟩ := nmB_ok h.2
    exact me_var (by rw [o.N]; exact h.1.1) (by rw [o.sc]; exact visB_ok h.1.2) n1 n2
  | .non, c, g, X, e, o, h => by
    cases e <;> first | (cases h; done) | skip
    have h := of_decide_eq_true (show decide _ = true from h)
    subst h
    exact me_const pe_non fun _ _ _ => rfl
  | .bl b, c, g, X, e, o, h => by
    cases e <;> first | (cases h; done) | skip
    have h := of_decide_eq_true (show decide _ = true from h)
    subst h
    exact me_const pe_bl fun _ _ _ => rfl
  | .int i, c, g, X, e, o, h => by
    cases e <;> first | (cases h; done) | skip
    have h := of_decide_eq_true (show decide _ = true from h)
    subst h
    exact me_const pe_int fun _ _ _ => rfl
  | .str x, c, g, X, e, o, h => by
    cases e <;> first | (cases h; done) | skip
    have h := of_decide_eq_true (show decide _ = true from h)
    subst h
    exact me_const pe_str fun _ _ _ => rfl
  | .con i, c, g, X, e, o, h => by
    cases e <;> first | (cases h; done) | skip
    rename_i x p
    have h : (glB c.sc x && decide ((x, i) ∈ T.con) && nmB x) = true := h
    simp only [Bool.and_eq_true, decide_eq_true_eq] at h
    obtain ⟨n1, n2, _⟩ := nmB_ok h.2
    obtain ⟨u, v, q1, q2, q3⟩ := GO.T.con _ h.1.2
    have q4 := me_const (G := G) (g := g) (pe_glob (X := X) (pos := p) (Gl_of o h.1.1) (by rw [o.x.mg]; exact q1) q2 n1) q3
    show PE X (.Name x p) (tE G g fun _ => M.pure (C.P.con i))
    rw [GO.C.P]
    exact q4
  | .bin op a b, c, g, X, e, o, h => by
    cases e <;> first | (cases h; done) | skip
    rename_i ea oo eb p
    have h : (boB op oo && cE G.Q T a c ea && cE G.Q T b c eb) = true := h
    simp only [Bool.and_eq_true] at h
    exact me_two (boB_ok h.1.1) (sE GO a o h.1.2) (sE GO b o h.2)
  | .neg a, c, g, X, e, o, h => by
    cases e <;> first | (cases h; done) | skip
    rename_i u ea p
    have h : (decide (u = .USub) && cE G.Q T a c ea) = true := h
    simp only [Bool.and_eq_true, decide_eq_true_eq] at h
    obtain ⟨rfl, h'⟩ := h
    exact me_neg (sE GO a o h')
  | .nt a, c, g, X, e, o, h => by
    cases e <;> first | (cases h; done) | skip
    rename_i u ea p
    have h : (decide (u = .Not) && cE G.Q T a c ea) = true := h
    simp only [Bool.and_eq_true, decide_eq_true_eq] at h
    obtain ⟨rfl, h'⟩ := h
    exact me_not o.x.K (sE GO a o h')
  | .andl es, c, g, X, e, o, h => by
    cases e <;> first | (cases h; done) | skip
    rename_i u vs p
    have h : (decide (u = .And) && !vs.isEmpty && cEs G.Q T es c vs) = true := h
    simp only [Bool.and_eq_true, decide_eq_true_eq] at h
    obtain ⟨⟨rfl, h0⟩, h'⟩ := h
    exact sAnd GO es o h' (by cases vs <;> first | (cases h0; done) | simp)
  | .orl es, c, g, X, e, o, h => by
    cases e <;> first | (cases h; done) | skip
    rename_i u vs p
    have h : (decide (u = .Or) && !vs.isEmpty && cEs G.Q T es c vs) = true := h
    simp only [Bool.and_eq_true, decide_eq_true_eq] at h
    obtain ⟨⟨rfl, h0⟩, h'⟩ := h
    exact sOr GO es o h' (by cases vs <;> first | (cases h0; done) | simp)
  | .cmp op a b, c, g, X, e, o, h => by
    cases e <;> first | (cases h; done) | skip
    rename_i ea ops l p
    rcases ops with _ | ⟨oo, _ | ⟨o2, ops⟩⟩ <;> first | (cases h; done) | skip
    rcases l with _ | ⟨eb, _ | ⟨ec, l⟩⟩ <;> first | (cases h; done) | skip
    have h : (coB op oo && notSetB oo eb && cE G.Q T a c ea && cE G.Q T b c eb) = true := h
    simp only [Bool.and_eq_true] at h
    exact me_cmp (coB_ok o.x.K o.un h.1.1.1) (sE GO a o h.1.2) (sE GO b o h.2) (coB_mark h.1.1.1 _ h.1.1.2)
  | .chn op op2 a b d, c, g, X, e, o, h => by
    cases e <;> first | (cases h; done) | skip
    rename_i ea ops l p
    rcases ops with _ | ⟨oo, _ | ⟨o2, _ | ⟨o3, ops⟩⟩⟩ <;> first | (cases h; done) | skip
    rcases l with _ | ⟨eb, _ | ⟨ec, _ | ⟨ed, l⟩⟩⟩ <;> first | (cases h; done) | skip
    have h : (coB op oo && coB op2 o2 && notSetB o2 ec && cE G.Q T a c ea && cE G.Q T b c eb && cE G.Q T d c ec) = true := h
    simp only [Bool.and_eq_true] at h
    obtain ⟨⟨⟨⟨⟨h1, h2⟩, h0⟩, h3⟩, h4⟩, h5⟩ := h
    exact me_chn (coB_ok o.x.K o.un h1) (coB_ok o.x.K o.un h2) (sE GO a o h3) (sE GO b o h4) (sE GO d o h5) (coB_mark h2 _ h0)
  | .ife t a b, c, g, X, e, o, h => by
    cases e <;> first | (cases h; done) | skip
    rename_i et ea eb p
    have h : ((cE G.Q T t c et && tOk t et) && cE G.Q T a c ea && cE G.Q T b c eb) = true := h
    simp only [Bool.and_eq_true] at h
    refine PE.congr (me_ife (sT GO t o h.1.1.1 h.1.1.2 (sE GO t o h.1.1.1)) (sE GO a o h.1.2) (sE GO b o h.2)) fun r s => ?_
    show M.bind (den C r t) _ s = M.bind (M.bind (den C r t) tru) _ s
    rw [M.bind_assoc]
  | .fld ob f, c, g, X, e, o, h => by
    cases e <;> first | (cases h; done) | skip
    rename_i eo x p
    have h : (decide (T.fN f = x) && notSup eo && cE G.Q T ob c eo) = true := h
    simp only [Bool.and_eq_true, decide_eq_true_eq] at h
    obtain ⟨⟨rfl, h1⟩, h2⟩ := h
    have q := me_fld (f := f) (pos := p) GO.F o.x.K (sE GO ob o h2) (abase h1)
    rw [← GO.T.fN, ← GO.C.P] at q
    exact q
  | .ix ob i, c, g, X, e, o, h => by
    cases e <;> first | (cases h; done) | skip
    rename_i eo ei p
    have h : (notSlice ei && cE G.Q T ob c eo && cE G.Q T i c ei) = true := h
    simp only [Bool.and_eq_true] at h
    exact me_ix o.x.K (sE GO ob o h.1.2) (sE GO i o h.2) (plainIx h.1.1)
  | .tup es, c, g, X, e, o, h => by
    cases e <;> first | (cases h; done) | skip
    rename_i l kk p
    have h : (decide (es.len ≤ 1000) && cEs G.Q T es c l) = true := h
    simp only [Bool.and_eq_true, decide_eq_true_eq] at h
    exact me_tup (sEs GO es o h.2) fun r s ds s' q => by
      rw [dens_len q, sizeLine_eq]; omega
  | .lst es, c, g, X, e, o, h => by
    cases e <;> first | (cases h; done) | skip
    rename_i l p
    have h : (decide (es.len ≤ 1000) && cEs G.Q T es c l) = true := h
    simp only [Bool.and_eq_true, decide_eq_true_eq] at h
    exact me_lst (sEs GO es o h.2) fun r s ds s' q => by
      rw [dens_len q, sizeLine_eq]; omega
  | .lc own tg ik src cond elt, c, g, X, e, o, h => by
    cases e <;> first | (cases h; done) | skip
    rename_i ee gs scope p
    rcases gs with _ | ⟨⟨tgE, iter, ifs, z⟩, _ | ⟨g2, gs⟩⟩ <;> first | (cases h; done) | skip
    have h : (decide (z = 0) && c.calm && !c.hx && blkC c.N c.sc scope (ownP c own) && decide (ifs.length ≤ 1) && tgB (c.in_ scope) tg tgE && (tg.slots.all fun i => decide (i ∈ own)) && itB T c ik (cEs G.Q T src c) iter && (cEs G.Q T cond (c.in_ scope) ifs && tOks cond ifs) && cE G.Q T elt (c.in_ scope) ee) = true := h
    simp only [Bool.and_eq_true, decide_eq_true_eq, Bool.not_eq_true'] at h
    obtain ⟨⟨⟨⟨⟨⟨⟨⟨⟨rfl, h1⟩, h2⟩, h3⟩, h4⟩, h5⟩, h6⟩, h7⟩, h8, h9⟩, h10⟩ := h
    have ok := blkOk_by h3
    have e1 : (ownP c own).map (·.2) = own := by
      unfold ownP
      rw [List.map_map]
      exact List.map_id' own
    rw [← o.sc, ← o.N] at ok
    have q := me_lc (G := G) (g := g) (pos := p) (elt := ee) (fs := fun r => dens C r src) (fc := fun r => denC C r cond) (fe := fun r => den C r elt) (o.calm h1) o.nd (sIt GO src o h7) ok (fun s H Cc cl fp => tgB_ok (o.in_ h2 ok.kind) h5)
      (fun s H Cc cl fp => sC GO cond (o.in_ h2 ok.kind) h8 h9 h4) (fun s H Cc cl fp => sE GO elt (o.in_ h2 ok.kind) h10) (fun x => by
        unfold itB at h7
        cases ik <;> dsimp only at h7
        · exact fold_no (Bool.and_eq_true_iff.mp h7).1 x
        · cases iter <;> first | (cases h7; done) | rfl
        · cases iter <;> first | (cases h7; done) | rfl
        all_goals cases h7) (fun i hi => by
        rw [e1]
        exact of_decide_eq_true (List.all_eq_true.mp h6 i hi))
    rw [e1] at q
    exact q
  | .lc2 own tg ik src cond own1 tg1 ik1 src1 cond1 elt, c, g, X, e, o, h => by
    cases e <;> first | (cases h; done) | skip
    rename_i ee gs scope p
    rcases gs with _ | ⟨⟨tgE, iter, ifs, z⟩, _ | ⟨⟨tgE1, iter1, ifs1, z1⟩, _ | ⟨g3, gs⟩⟩⟩ <;> first | (cases h; done) | skip
    have h : (decide (z = 0) && decide (z1 = 0) && c.calm && !c.hx && blkC c.N c.sc scope (ownP c own) && decide (ifs.length ≤ 1) && decide (ifs1.length ≤ 1) && tgB (c.in_ scope) tg tgE && tgB (c.in_ scope) tg1 tgE1 &&
      (tg.slots.all fun i => decide (i ∈ own)) && (tg1.slots.all fun i => decide (i ∈ own1)) && (own1.all fun i => decide (i ∈ own)) && itB T c ik (cEs G.Q T src c) iter && itB T (c.in_ scope) ik1 (cEs G.Q T src1 (c.in_ scope)) iter1 && (cEs G.Q T cond (c.in_ scope) ifs && tOks cond ifs) && (cEs G.Q T cond1 (c.in_ scope) ifs1 && tOks cond1 ifs1) && cE G.Q T elt (c.in_ scope) ee) = true := h
    simp only [Bool.and_eq_true, decide_eq_true_eq, Bool.not_eq_true'] at h
    obtain ⟨⟨⟨⟨⟨⟨⟨⟨⟨⟨⟨⟨⟨⟨⟨⟨rfl, rfl⟩, h1⟩, h2⟩, h3⟩, h4⟩, h5⟩, h6⟩, h7⟩, h8⟩, h9⟩, h10⟩, h11⟩, h12⟩, h13, h14⟩, h15, h16⟩, h17⟩ := h
    have ok := blkOk_by h3
    have e1 : (ownP c own).map (·.2) = own := by
      unfold ownP
      rw [List.map_map]
      exact List.map_id' own
    rw [← o.sc, ← o.N] at ok
    have q := me_lc2 (G := G) (g := g) (pos := p) (elt := ee) (vs1 := own1) (fs := fun r => dens C r src) (fs1 := fun r => dens C r src1) (fc := fun r => denC C r cond) (fc1 := fun r => denC C r cond1) (fe := fun r => den C r elt) (tg := tg) (tg1 := tg1) (o.calm h1) o.nd (sIt GO src o h11) ok
      (fun i hi => by rw [e1]; exact of_decide_eq_true (List.all_eq_true.mp h10 i hi)) (fun s H Cc cl fp => tgB_ok (o.in_ h2 ok.kind) h6)
      (fun s H Cc cl fp => sC GO cond (o.in_ h2 ok.kind) h13 h14 h4) (fun s H Cc cl fp => sIt GO src1 (o.in_ h2 ok.kind) h12) (fun s H Cc cl fp => tgB_ok (o.in_ h2 ok.kind) h7) (fun s H Cc cl fp => sC GO cond1 (o.in_ h2 ok.kind) h15 h16 h5) (fun s H Cc cl fp => sE GO elt (o.in_ h2 ok.kind) h17)
      (itB_fold h11) (fun _ => itB_fold h12) (fun i hi => by
        rw [e1]
        exact of_decide_eq_true (List.all_eq_true.mp h8 i hi)) (fun i hi => of_decide_eq_true (List.all_eq_true.mp h9 i hi))
    rw [e1] at q
    exact q
  | .call f es, c, g, X, e, o, h => by
    cases e <;> first | (cases h; done) | skip
    rename_i ef l kw p
    cases ef <;> first | (cases h; done) | skip
    rename_i x px
    cases kw <;> first | (cases h; done) | skip
    have h : (glB c.sc x && nmB x && (c.calm && decide ((x, f) ∈ T.fn) && G.Q.can f es.len) && cEs G.Q T es c l) = true := h
    simp only [Bool.and_eq_true, decide_eq_true_eq] at h
    obtain ⟨⟨⟨h1, h2⟩, ⟨h3, h4⟩, h5⟩, h6⟩ := h
    obtain ⟨n1, n2, n3⟩ := nmB_ok h2
    obtain ⟨m1, m2⟩ := GO.T.fn _ h4
    obtain ⟨l1, l2⟩ := cEs_len h6
    have hc : CalOk G fi C k X.base := by rw [o.base]; exact GO.C
    have hr := (o.room h3).mono (Nat.le_succ k)
    have hm : X.mg x = some (.ref (fi f).ad) := by rw [o.x.mg]; exact m1
    cases l with
    | nil =>
      have z : es.len = 0 := l1.symm
      refine PE.congr (me_call0 o.x GO.D hc hr (by rw [← z]; exact h5) (Gl_of o h1) hm m2 n1) fun r s => ?_
      show M.bind (dens C r es) (callN C f es.len) s = _
      rw [dens_zero z, z]
    | cons e1 l =>
      obtain ⟨h3', h4'⟩ := Bool.and_eq_true_iff.mp (show (nst e1 && l.all nst) = true from l2)
      exact me_call o.x GO.D hc hr h5 (Gl_of o h1) hm m2 (sEs GO es o h6) n1 (star_cons h3') (back_any h4')
  | .make cl es, c, g, X, e, o, h => by
    cases e <;> first | (cases h; done) | skip
    rename_i ef l kw p
    cases ef <;> first | (cases h; done) | skip
    rename_i x px
    cases kw <;> first | (cases h; done) | skip
    have h : (glB c.sc x && nmB x && (c.calm && decide ((x, cl) ∈ T.cl) && (match G.Q.init cl with
      | some f => G.Q.can f (es.len + 1)
      | none => G.Q.plain cl && decide (es.len = 0))) && cEs G.Q T es c l) = true := h
    simp only [Bool.and_eq_true, decide_eq_true_eq] at h
    obtain ⟨⟨⟨h1, h2⟩, ⟨h3, h4⟩, h5⟩, h6⟩ := h
    obtain ⟨n1, n2, n3⟩ := nmB_ok h2
    obtain ⟨l1, l2⟩ := cEs_len h6
    have hc : CalOk G fi C k X.base := by rw [o.base]; exact GO.C
    have hm : X.mg x = some (.ref (G.cA cl)) := by rw [o.x.mg]; exact GO.T.cl _ h4
    cases q : G.Q.init cl with
    | some f =>
      rw [q] at h5
      have e1 := me_make (pos := p) (p := px) o.x GO.D hc (o.room h3) q h5 (Gl_of o h1) hm (sEs GO es o h6) (args_shape l1 l2 dens_zero) n1
      refine PE.congr e1 fun r s => ?_
      show M.bind (dens C r es) (fun xs => match C.P.init cl with
        | some f => M.bind (newO (.ins cl [])) fun o => M.bind (callN C f (es.len + 1) (o :: xs)) fun v => if v = .non then M.pure o else M.stuck
        | none => if C.P.plain cl = true ∧ xs = [] then newO (.ins cl []) else M.stuck) s = _
      rw [GO.C.P, q]
    | none =>
      rw [q] at h5
      simp only [Bool.and_eq_true, decide_eq_true_eq] at h5
      have z : l = [] := List.length_eq_zero_iff.mp (l1.trans h5.2)
      subst z
      refine PE.congr (me_make0 (pos := p) (p := px) o.x GO.D h5.1 (Gl_of o h1) hm n1) fun r s => ?_
      show M.bind (dens C r es) (fun xs => match C.P.init cl with
        | some f => M.bind (newO (.ins cl [])) fun o => M.bind (callN C f (es.len + 1) (o :: xs)) fun v => if v = .non then M.pure o else M.stuck
        | none => if C.P.plain cl = true ∧ xs = [] then newO (.ins cl []) else M.stuck) s = _
      rw [GO.C.P, q, dens_zero h5.2]
      show (if G.Q.plain cl = true ∧ ([] : List D) = [] then newO (.ins cl []) else M.stuck) s = _
      rw [if_pos ⟨h5.1, rfl⟩]
  | .meth m ob es, c, g, X, e, o, h => by
    have hz := Bool.and_eq_true_iff.mp (show (c.calm && qMeth T m (cE G.Q T ob c) (cEs G.Q T es c) e) = true from h)
    clear h
    obtain ⟨h0, h⟩ := hz
    cases e <;> first | (cases h; done) | skip
    rename_i ef l kw p
    cases ef <;> first | (cases h; done) | skip
    rename_i eo x pa
    cases kw <;> first | (cases h; done) | skip
    have h : (decide (T.mN m = x) && notSup eo && (pa.endLine == p.line) && decide (l.length < 30) && cE G.Q T ob c eo && cEs G.Q T es c l) = true := h
    simp only [Bool.and_eq_true, decide_eq_true_eq] at h
    obtain ⟨⟨⟨⟨⟨rfl, h1⟩, h2⟩, h3⟩, h4⟩, h5⟩ := h
    obtain ⟨l1, l2⟩ := cEs_len h5
    have hc : CalOk G fi C k X.base := by rw [o.base]; exact GO.C
    refine me_meth (pl := do return (← importBound eo X.env).getD true) (na := es.len + 1) o.x GO.D hc ((o.room h0).mono (Nat.le_succ k)) (sE GO ob o h4) (sEs GO es o h5) (args_shape l1 l2 dens_zero) ?_
    rw [arm_eval_Call, abase h1]
    have hform : methodCallForm (l.length + ([] : List Keyword).length) (backTo p (starEach l X.env)) (backToKw p (keywordEach [] X.env)) = true := by
      unfold methodCallForm
      rw [back_all l2]
      show (true && true && decide (l.length + 0 + 0 < 30)) = true
      rw [decide_eq_true (by omega)]
      rfl
    have hpos : methodCallPos true eo X.env pa p = pure p := by unfold methodCallPos; simp [h2]
    unfold methodCall
    rw [hform, hpos]
    rfl
  | .bi b es, c, g, X, e, o, h => by
    have h0 := Bool.or_eq_true_iff.mp (show (qFmt b es (cEs G.Q T es c) e || qCall c (fun x => (biH b || c.calm) && biK b && decide (x = biN b) && decide (x ∈ T.free) && decide (0 < es.len)) (cEs G.Q T es c) e) = true from h)
    clear h
    rcases h0 with h | h
    · cases e <;> first | (cases h; done) | skip
      · rename_i ea k sp p
        have h : (decide (b = .fmt) && decide (k = -1) && sp.isNone && cEs G.Q T es c [ea]) = true := h
        simp only [Bool.and_eq_true, decide_eq_true_eq] at h
        obtain ⟨⟨⟨rfl, rfl⟩, h3⟩, h4⟩ := h
        cases sp <;> first | (cases h3; done) | skip
        have j := sJs GO es o h4
        cases es with
        | nil => cases h4
        | cons e1 r1 =>
          cases r1 with
          | cons _ _ =>
            have h4 : (nst ea && cE G.Q T e1 c ea && false) = true := h4
            rw [Bool.and_false] at h4
            cases h4
          | nil =>
            cases j with
            | cons hh _ =>
              refine impPE (me_fmt hh) fun a H Q q => ?_
              obtain ⟨m, r, s, R, E, P⟩ := q
              refine ⟨m, r, s, R, E, ?_⟩
              have e : den C r (.bi .fmt (.cons e1 .nil)) s = M.bind (den C r e1) fmtD s := by
                show M.bind (M.bind (den C r e1) fun x => M.bind (dens C r .nil) fun xs => M.pure (x :: xs)) (b1 fmtD) s = _
                unfold M.bind
                cases den C r e1 s <;> rfl
              have P : Post G m s H _ (den C r (.bi .fmt (.cons e1 .nil)) s) _ := P
              rw [e] at P
              exact P
      · rename_i l p
        have h : (decide (b = .fstr) && decide (2 ≤ l.length) && fstE es && cEs G.Q T es c l) = true := h
        simp only [Bool.and_eq_true, decide_eq_true_eq] at h
        obtain ⟨⟨⟨rfl, h2⟩, h3⟩, h4⟩ := h
        have j := sJs GO es o h4
        rcases l with _ | ⟨v1, _ | ⟨v2, l⟩⟩
        · simp at h2
        · simp at h2
        · exact me_fstr h3 j
    cases e <;> first | (cases h; done) | skip
    rename_i ef l kw p
    cases ef <;> first | (cases h; done) | skip
    rename_i x px
    cases kw <;> first | (cases h; done) | skip
    have h : (glB c.sc x && nmB x && ((biH b || c.calm) && biK b && decide (x = biN b) && decide (x ∈ T.free) && decide (0 < es.len)) && cEs G.Q T es c l) = true := h
    simp only [Bool.and_eq_true] at h
    obtain ⟨⟨⟨h1, h2⟩, ⟨⟨⟨h3, h4⟩, h5⟩, h6⟩, h7⟩, h8⟩ := h
    have h5 := of_decide_eq_true h5
    subst h5
    obtain ⟨l1, l2⟩ := cEs_len h8
    cases l with
    | nil =>
      have := of_decide_eq_true h7
      rw [← l1] at this
      cases this
    | cons e1 l =>
      have h3' : biH b = true ∨ X.calm = true := by
        rcases Bool.or_eq_true_iff.mp h3 with q | q
        · exact .inl q
        · exact .inr (o.calm q)
      exact me_bi o.x.K h3' h4 (Gl_of o h1) (asgB_ok o h6 GO) h2 (sEs GO es o h8) l2
  | .bm b ob es, c, g, X, e, o, h => by
    have hz := Bool.and_eq_true_iff.mp (show (bmB b && qBm b (cE G.Q T ob c) (cEs G.Q T es c) e) = true from h)
    clear h
    obtain ⟨h0, h⟩ := hz
    cases e <;> first | (cases h; done) | skip
    rename_i ef l kw p
    cases ef <;> first | (cases h; done) | skip
    rename_i eo x pa
    cases kw <;> first | (cases h; done) | skip
    have h : (decide (bmN b = x) && notSup eo && (pa.endLine == p.line) && decide (l.length < 30) && !l.isEmpty && cE G.Q T ob c eo && cEs G.Q T es c l) = true := h
    simp only [Bool.and_eq_true, decide_eq_true_eq] at h
    obtain ⟨⟨⟨⟨⟨⟨rfl, h1⟩, h2⟩, h3⟩, h4⟩, h5⟩, h6⟩ := h
    obtain ⟨l1, l2⟩ := cEs_len h6
    cases l with
    | nil => cases h4
    | cons e1 l =>
      obtain ⟨h3', h4'⟩ := Bool.and_eq_true_iff.mp (show (nst e1 && l.all nst) = true from l2)
      have few : ((backTo p (starEach (e1 :: l) X.env)).all (fun x => !x.1) && (backToKw p (keywordEach [] X.env)).all (fun x => x.1.isSome)
          && decide ((e1 :: l).length + ([] : List Keyword).length + (if ([] : List Keyword).isEmpty then 0 else 1) < 30)) = true := by
        rw [back_all l2]
        show (true && true && decide ((e1 :: l).length + 0 + 0 < 30)) = true
        rw [decide_eq_true (by omega)]
        rfl
      cases b <;> first | (cases h0; done) | skip
      · exact me_bm (b := .append) (id := "list.append") (name := "append") o.x.K PySem.F.plainAttrs_list slot_list_append type_list_append bm_append (sE GO ob o h5) (sEs GO es o h6) (abase h1) few h2 (star_cons h3') (back_any h4')
      · exact me_bm (b := .join) (id := "str.join") (name := "join") o.x.K PySem.F.plainAttrs_str PySem.F.slot_str_join PySem.F.type_str_join (bm_join o.x.K) (sE GO ob o h5) (sEs GO es o h6) (abase h1) few h2 (star_cons h3') (back_any h4')
  | .isi a ts, c, g, X, e, o, h => by
    rcases ts with _ | ⟨t, _ | ⟨t2, ts⟩⟩ <;> first | (cases h; done) | skip
    cases e <;> first | (cases h; done) | skip
    rename_i ef l kw p
    cases ef <;> first | (cases h; done) | skip
    rename_i x px
    rcases l with _ | ⟨e1, _ | ⟨e2, _ | ⟨e3, l⟩⟩⟩ <;> first | (cases h; done) | (cases e2 <;> cases h; done) | skip
    cases e2 <;> first | (cases h; done) | skip
    rename_i z pz
    cases kw <;> first | (cases h; done) | skip
    have h : (decide (x = "isinstance") && glB c.sc x && decide (x ∈ T.free) && tyB t && decide (z = tyS t) && glB c.sc z && decide (z ∈ T.free) && nst e1 && cE G.Q T a c e1) = true := h
    simp only [Bool.and_eq_true] at h
    obtain ⟨⟨⟨⟨⟨⟨⟨⟨h1, h2⟩, h3⟩, h4⟩, h5⟩, h6⟩, h7⟩, h8⟩, h9⟩ := h
    have h1 := of_decide_eq_true h1
    have h5 := of_decide_eq_true h5
    subst h1 h5
    obtain ⟨n1, n2, n3⟩ := nmB_ok nm_isi
    obtain ⟨n4, n5, n6⟩ := nmB_ok (tyS_nm t h4)
    exact me_isi t h4 (Gl_of o h2) (asgB_ok o h3 GO) boot_isi (sE GO a o h9) (Gl_of o h6) (asgB_ok o h7 GO) (tyN_S t h4) n3 n1 n6 n4 (star_cons h8)
  | .isx i kx, c, g, X, e, o, h => by
    cases e <;> first | (cases h; done) | skip
    rename_i ef l kw p
    cases ef <;> first | (cases h; done) | skip
    rename_i x px
    rcases l with _ | ⟨e1, _ | ⟨e2, _ | ⟨e3, l⟩⟩⟩ <;> first | (cases h; done) | (cases e1 <;> cases h; done) | (cases e1 <;> cases e2 <;> cases h; done) | skip
    cases e1 <;> first | (cases h; done) | skip
    rename_i y py
    cases e2 <;> first | (cases h; done) | skip
    rename_i z pz
    cases kw <;> first | (cases h; done) | skip
    have h : (decide (x = "isinstance") && glB c.sc x && decide (x ∈ T.free) && decide (c.N[i]? = some y) && visB c.sc y && nmB y && glB c.sc z && nmB z && decide ((z, kx) ∈ T.ex)) = true := h
    simp only [Bool.and_eq_true] at h
    obtain ⟨⟨⟨⟨⟨⟨⟨⟨h1, h2⟩, h3⟩, h4⟩, h5⟩, h6⟩, h7⟩, h8⟩, h9⟩ := h
    have h1 := of_decide_eq_true h1
    subst h1
    obtain ⟨n1, n2, n3⟩ := nmB_ok nm_isi
    obtain ⟨n4, n5, n6⟩ := nmB_ok h6
    obtain ⟨n7, n8, n9⟩ := nmB_ok h8
    have q := me_isx (G := G) (g := g) (p := px) (p2 := py) (p3 := pz) (pos := p) o.x (Gl_of o h2) (asgB_ok o h3 GO) boot_isi (by rw [o.N]; exact of_decide_eq_true h4) (by rw [o.sc]; exact visB_ok h5) n4 n5 (Gl_of o h7) (by rw [o.x.mg]; exact GO.T.ex _ (of_decide_eq_true h9)) n7 n3 n1
    rw [← GO.C.P] at q
    exact q
  | .slc ob lo hi, c, g, X, e, o, h => by
    cases e <;> first | (cases h; done) | skip
    rename_i eo ei p
    cases ei <;> first | (cases h; done) | skip
    rename_i elo ehi st p2
    cases st <;> first | (cases h; done) | skip
    have h : (cE G.Q T ob c eo && qPart lo.isNope (cE G.Q T lo c) elo && qPart hi.isNope (cE G.Q T hi c) ehi) = true := h
    simp only [Bool.and_eq_true] at h
    have pl : PO X elo (tO G g fun r => if lo.isNope = true then M.pure none else M.bind (den C r lo) intO) := by
      have h2 := h.1.2
      cases elo with
      | none =>
        have h2 : lo.isNope = true := h2
        rw [h2]
        exact mo_none
      | some e1 =>
        have h2 : (!lo.isNope && cE G.Q T lo c e1) = true := h2
        simp only [Bool.and_eq_true, Bool.not_eq_true'] at h2
        rw [h2.1]
        exact mo_some (sE GO lo o h2.2)
    have ph : PO X ehi (tO G g fun r => if hi.isNope = true then M.pure none else M.bind (den C r hi) intO) := by
      have h2 := h.2
      cases ehi with
      | none =>
        have h2 : hi.isNope = true := h2
        rw [h2]
        exact mo_none
      | some e1 =>
        have h2 : (!hi.isNope && cE G.Q T hi c e1) = true := h2
        simp only [Bool.and_eq_true, Bool.not_eq_true'] at h2
        rw [h2.1]
        exact mo_some (sE GO hi o h2.2)
    exact me_slc o.x.K (sE GO ob o h.1.1) pl ph
  | .nope, c, g, X, e, o, h => by cases h
  | .dct _ _, c, g, X, e, o, h => by cases h
  | .xfl _ _, c, g, X, e, o, h => by cases h
theorem sT (GO : GOk G fi T C k base) : ∀ (ce : CE) {c : KC} {g : Pm} {X : Cx} {e : Expr}, KOk G k base c g X → cE G.Q T ce c e = true → tOk ce e = true → PE X e (tE G g fun r => den C r ce) → PT X e (tB G g fun r => M.bind (den C r ce) tru)
  | .nt a, c, g, X, e, o, h, t, he => by
    cases e <;> first | (cases h; done) | skip
    rename_i u ea p
    have h : (decide (u = .Not) && cE G.Q T a c ea) = true := h
    simp only [Bool.and_eq_true, decide_eq_true_eq] at h
    obtain ⟨rfl, h'⟩ := h
    exact PT.congr (mt_not (sT GO a o h' t (sE GO a o h'))) fun r s => not_tru _ s
  | .andl es, c, g, X, e, o, h, t, he => by
    cases e <;> first | (cases h; done) | skip
    rename_i u vs p
    have h : (decide (u = .And) && !vs.isEmpty && cEs G.Q T es c vs) = true := h
    simp only [Bool.and_eq_true, decide_eq_true_eq] at h
    obtain ⟨⟨rfl, h0⟩, h'⟩ := h
    exact (sAndT GO es o h' t (by cases vs <;> first | (cases h0; done) | simp)).pt
  | .orl es, c, g, X, e, o, h, t, he => by
    cases e <;> first | (cases h; done) | skip
    rename_i u vs p
    have h : (decide (u = .Or) && !vs.isEmpty && cEs G.Q T es c vs) = true := h
    simp only [Bool.and_eq_true, decide_eq_true_eq] at h
    obtain ⟨⟨rfl, h0⟩, h'⟩ := h
    exact (sOrT GO es o h' t (by cases vs <;> first | (cases h0; done) | simp)).pt
  | .cmp op a b, c, g, X, e, o, h, t, he => by
    cases e <;> first | (cases h; done) | skip
    rename_i ea ops l p
    rcases ops with _ | ⟨oo, _ | ⟨o2, ops⟩⟩ <;> first | (cases h; done) | skip
    rcases l with _ | ⟨eb, _ | ⟨ec, l⟩⟩ <;> first | (cases h; done) | skip
    have h : (coB op oo && notSetB oo eb && cE G.Q T a c ea && cE G.Q T b c eb) = true := h
    simp only [Bool.and_eq_true] at h
    exact mt_cmp (coB_ok o.x.K o.un h.1.1.1) (sE GO a o h.1.2) (sE GO b o h.2) (coB_mark h.1.1.1 _ h.1.1.2) (cmp_bl h.1.1.1)
  | .chn op op2 a b d, c, g, X, e, o, h, t, he => by
    cases e <;> first | (cases h; done) | skip
    rename_i ea ops l p
    rcases ops with _ | ⟨oo, _ | ⟨o2, _ | ⟨o3, ops⟩⟩⟩ <;> first | (cases h; done) | skip
    rcases l with _ | ⟨eb, _ | ⟨ec, _ | ⟨ed, l⟩⟩⟩ <;> first | (cases h; done) | skip
    have h : (coB op oo && coB op2 o2 && notSetB o2 ec && cE G.Q T a c ea && cE G.Q T b c eb && cE G.Q T d c ec) = true := h
    simp only [Bool.and_eq_true] at h
    obtain ⟨⟨⟨⟨⟨h1, h2⟩, h0⟩, h3⟩, h4⟩, h5⟩ := h
    exact mt_chn (coB_ok o.x.K o.un h1) (coB_ok o.x.K o.un h2) (sE GO a o h3) (sE GO b o h4) (sE GO d o h5) (coB_mark h2 _ h0) (cmp_bl h2)
  | .var _, c, g, X, e, o, h, t, he => mt_plain o.x.K he (true_plain t)
  | .non, c, g, X, e, o, h, t, he => mt_plain o.x.K he (true_plain t)
  | .bl _, c, g, X, e, o, h, t, he => mt_plain o.x.K he (true_plain t)
  | .int _, c, g, X, e, o, h, t, he => mt_plain o.x.K he (true_plain t)
  | .str _, c, g, X, e, o, h, t, he => mt_plain o.x.K he (true_plain t)
  | .con _, c, g, X, e, o, h, t, he => mt_plain o.x.K he (true_plain t)
  | .bin _ _ _, c, g, X, e, o, h, t, he => mt_plain o.x.K he (true_plain t)
  | .neg _, c, g, X, e, o, h, t, he => mt_plain o.x.K he (true_plain t)
  | .fld _ _, c, g, X, e, o, h, t, he => mt_plain o.x.K he (true_plain t)
  | .ix _ _, c, g, X, e, o, h, t, he => mt_plain o.x.K he (true_plain t)
  | .tup _, c, g, X, e, o, h, t, he => mt_plain o.x.K he (true_plain t)
  | .lst _, c, g, X, e, o, h, t, he => mt_plain o.x.K he (true_plain t)
  | .call _ _, c, g, X, e, o, h, t, he => mt_plain o.x.K he (true_plain t)
  | .meth _ _ _, c, g, X, e, o, h, t, he => mt_plain o.x.K he (true_plain t)
  | .bi _ _, c, g, X, e, o, h, t, he => mt_plain o.x.K he (true_plain t)
  | .bm _ _ _, c, g, X, e, o, h, t, he => mt_plain o.x.K he (true_plain t)
  | .isi _ _, c, g, X, e, o, h, t, he => mt_plain o.x.K he (true_plain t)
  | .isx _ _, c, g, X, e, o, h, t, he => mt_plain o.x.K he (true_plain t)
  | .lc2 _ _ _ _ _ _ _ _ _ _ _, c, g, X, e, o, h, t, he => mt_plain o.x.K he (true_plain t)
  | .lc _ _ _ _ _ _, c, g, X, e, o, h, t, he => mt_plain o.x.K he (true_plain t)
  | .ife _ _ _, c, g, X, e, o, h, t, he => by cases t
  | .slc _ _ _, c, g, X, e, o, h, t, he => mt_plain o.x.K he (true_plain t)
  | .nope, c, g, X, e, o, h, t, he => by cases t
  | .dct _ _, c, g, X, e, o, h, t, he => by cases t
  | .xfl _ _, c, g, X, e, o, h, t, he => by cases t
  | .make _ _, c, g, X, e, o, h, t, he => by cases t
theorem sEs (GO : GOk G fi T C k base) : ∀ (ces : CEs) {c : KC} {g : Pm} {X : Cx} {l : List Expr}, KOk G k base c g X → cEs G.Q T ces c l = true → PA X l (tL G g fun r => dens C r ces)
  | .nil, c, g, X, [], o, h => ml_nil
  | .nil, c, g, X, _ :: _, o, h => by cases h
  | .cons a r, c, g, X, [], o, h => by cases h
  | .cons a r, c, g, X, e :: l, o, h => by
    have h : (nst e && cE G.Q T a c e && cEs G.Q T r c l) = true := h
    simp only [Bool.and_eq_true] at h
    exact ml_cons (sE GO a o h.1.2) (sEs GO r o h.2) (star_cons h.1.1)
theorem sAnd (GO : GOk G fi T C k base) : ∀ (ces : CEs) {c : KC} {g : Pm} {X : Cx} {l : List Expr} {p : Pos}, KOk G k base c g X → cEs G.Q T ces c l = true → l ≠ [] → PE X (.BoolOp .And l p) (tE G g fun r => denAnd C r ces)
  | .nil, c, g, X, [], p, o, h, z => absurd rfl z
  | .nil, c, g, X, _ :: _, p, o, h, z => by cases h
  | .cons a r, c, g, X, [], p, o, h, z => by cases h
  | .cons a .nil, c, g, X, e :: l, p, o, h, z => by
    have h : (nst e && cE G.Q T a c e && cEs G.Q T .nil c l) = true := h
    simp only [Bool.and_eq_true] at h
    cases l with
    | nil => exact pe_one (sE GO a o h.1.2)
    | cons _ _ => cases h.2
  | .cons a (.cons b r), c, g, X, e :: l, p, o, h, z => by
    have h : (nst e && cE G.Q T a c e && cEs G.Q T (.cons b r) c l) = true := h
    simp only [Bool.and_eq_true] at h
    cases l with
    | nil => cases h.2
    | cons e2 l => exact me_and o.x.K (sE GO a o h.1.2) (sAnd GO (.cons b r) o h.2 (by simp))
theorem sOr (GO : GOk G fi T C k base) : ∀ (ces : CEs) {c : KC} {g : Pm} {X : Cx} {l : List Expr} {p : Pos}, KOk G k base c g X → cEs G.Q T ces c l = true → l ≠ [] → PE X (.BoolOp .Or l p) (tE G g fun r => denOr C r ces)
  | .nil, c, g, X, [], p, o, h, z => absurd rfl z
  | .nil, c, g, X, _ :: _, p, o, h, z => by cases h
  | .cons a r, c, g, X, [], p, o, h, z => by cases h
  | .cons a .nil, c, g, X, e :: l, p, o, h, z => by
    have h : (nst e && cE G.Q T a c e && cEs G.Q T .nil c l) = true := h
    simp only [Bool.and_eq_true] at h
    cases l with
    | nil => exact pe_one (sE GO a o h.1.2)
    | cons _ _ => cases h.2
  | .cons a (.cons b r), c, g, X, e :: l, p, o, h, z => by
    have h : (nst e && cE G.Q T a c e && cEs G.Q T (.cons b r) c l) = true := h
    simp only [Bool.and_eq_true] at h
    cases l with
    | nil => cases h.2
    | cons e2 l => exact me_or o.x.K (sE GO a o h.1.2) (sOr GO (.cons b r) o h.2 (by simp))
theorem sAndT (GO : GOk G fi T C k base) : ∀ (ces : CEs) {c : KC} {g : Pm} {X : Cx} {l : List Expr} {p : Pos}, KOk G k base c g X → cEs G.Q T ces c l = true → tOks ces l = true → l ≠ [] → PW X (.BoolOp .And l p) (tB G g fun r => M.bind (denAnd C r ces) tru)
  | .nil, c, g, X, [], p, o, h, t, z => absurd rfl z
  | .nil, c, g, X, _ :: _, p, o, h, t, z => by cases h
  | .cons a r, c, g, X, [], p, o, h, t, z => by cases h
  | .cons a .nil, c, g, X, e :: l, p, o, h, t, z => by
    have h : (nst e && cE G.Q T a c e && cEs G.Q T .nil c l) = true := h
    simp only [Bool.and_eq_true] at h
    cases l with
    | nil => exact mw_and1 (sT GO a o h.1.2 (Bool.and_eq_true_iff.mp (show (tOk a e && tOks .nil []) = true from t)).1 (sE GO a o h.1.2))
    | cons _ _ => cases h.2
  | .cons a (.cons b r), c, g, X, e :: l, p, o, h, t, z => by
    have h : (nst e && cE G.Q T a c e && cEs G.Q T (.cons b r) c l) = true := h
    simp only [Bool.and_eq_true] at h
    obtain ⟨t1, t2⟩ := Bool.and_eq_true_iff.mp (show (tOk a e && tOks (.cons b r) l) = true from t)
    cases l with
    | nil => cases h.2
    | cons e2 l => exact PW.congr (mw_and (sT GO a o h.1.2 t1 (sE GO a o h.1.2)) (sAndT GO (.cons b r) o h.2 t2 (by simp))) fun r' s => and_tru _ _ s
theorem sOrT (GO : GOk G fi T C k base) : ∀ (ces : CEs) {c : KC} {g : Pm} {X : Cx} {l : List Expr} {p : Pos}, KOk G k base c g X → cEs G.Q T ces c l = true → tOks ces l = true → l ≠ [] → PW X (.BoolOp .Or l p) (tB G g fun r => M.bind (denOr C r ces) tru)
  | .nil, c, g, X, [], p, o, h, t, z => absurd rfl z
  | .nil, c, g, X, _ :: _, p, o, h, t, z => by cases h
  | .cons a r, c, g, X, [], p, o, h, t, z => by cases h
  | .cons a .nil, c, g, X, e :: l, p, o, h, t, z => by
    have h : (nst e && cE G.Q T a c e && cEs G.Q T .nil c l) = true := h
    simp only [Bool.and_eq_true] at h
    cases l with
    | nil => exact mw_or1 (sT GO a o h.1.2 (Bool.and_eq_true_iff.mp (show (tOk a e && tOks .nil []) = true from t)).1 (sE GO a o h.1.2))
    | cons _ _ => cases h.2
  | .cons a (.cons b r), c, g, X, e :: l, p, o, h, t, z => by
    have h : (nst e && cE G.Q T a c e && cEs G.Q T (.cons b r) c l) = true := h
    simp only [Bool.and_eq_true] at h
    obtain ⟨t1, t2⟩ := Bool.and_eq_true_iff.mp (show (tOk a e && tOks (.cons b r) l) = true from t)
    cases l with
    | nil => cases h.2
    | cons e2 l => exact PW.congr (mw_or (sT GO a o h.1.2 t1 (sE GO a o h.1.2)) (sOrT GO (.cons b r) o h.2 t2 (by simp))) fun r' s => or_tru _ _ s
theorem sC (GO : GOk G fi T C k base) : ∀ (ces : CEs) {c : KC} {g : Pm} {X : Cx} {l : List Expr}, KOk G k base c g X → cEs G.Q T ces c l = true → tOks ces l = true → l.length ≤ 1 → PTs X l (tB G g fun r => denC C r ces)
  | .nil, c, g, X, [], o, h, t, z => ⟨fun pins s a H Q I h => pts_nil.run pins s a H Q I (by
      obtain ⟨m, r, st, R, E, P⟩ := h
      exact P.ok R _ rfl)⟩
  | .nil, c, g, X, _ :: _, o, h, t, z => by cases h
  | .cons a r, c, g, X, [], o, h, t, z => by cases h
  | .cons a .nil, c, g, X, e :: l, o, h, t, z => by
    have h : (nst e && cE G.Q T a c e && cEs G.Q T .nil c l) = true := h
    simp only [Bool.and_eq_true] at h
    cases l with
    | nil => exact pts_one (sT GO a o h.1.2 (Bool.and_eq_true_iff.mp (show (tOk a e && tOks .nil []) = true from t)).1 (sE GO a o h.1.2))
    | cons _ _ => cases h.2
  | .cons a (.cons b r), c, g, X, e :: l, o, h, t, z => by
    have h : (nst e && cE G.Q T a c e && cEs G.Q T (.cons b r) c l) = true := h
    simp only [Bool.and_eq_true] at h
    cases l with
    | nil => cases h.2
    | cons e2 l => simp at z
theorem sIt (GO : GOk G fi T C k base) : ∀ (ces : CEs) {c : KC} {g : Pm} {X : Cx} {tg e : Expr} {ik : IK}, KOk G k base c g X → itB T c ik (cEs G.Q T ces c) e = true → PI X tg e (tI G g (fun r => dens C r ces) ik)
  | .nil, c, g, X, tg, e, ik, o, h => by
    unfold itB at h
    cases ik <;> dsimp only at h
    · obtain ⟨_, h⟩ := Bool.and_eq_true_iff.mp h; cases h
    · split at h
      · simp only [Bool.and_eq_true] at h; cases h.2
      · cases h
    · split at h
      · simp only [Bool.and_eq_true] at h; cases h.2
      · cases h
    all_goals cases h
  | .cons a r, c, g, X, tg, e, ik, o, h => by
    have ha : ∀ l, cEs G.Q T (.cons a r) c l = true → PA X l (tL G g fun r' => dens C r' (.cons a r)) := fun l h => sEs GO (.cons a r) o h
    unfold itB at h
    cases ik <;> dsimp only at h
    · obtain ⟨h0, h⟩ := Bool.and_eq_true_iff.mp h
      have h : (nst e && cE G.Q T a c e && cEs G.Q T r c []) = true := h
      simp only [Bool.and_eq_true] at h
      have z : r = .nil := by
        cases r with
        | nil => rfl
        | cons x y => cases h.2
      subst z
      exact mi_plain o.x.K (sE GO a o h.1.2)
    · split at h
      · simp only [Bool.and_eq_true] at h
        obtain ⟨⟨⟨h1, h2⟩, h3⟩, h4⟩ := h
        have h1 := of_decide_eq_true h1
        subst h1
        obtain ⟨l1, l2⟩ := cEs_len h4
        exact mi_range1 (Gl_of o h2) (asgB_ok o h3 GO) (ha _ h4) (star_all l2)
      · cases h
    · split at h
      · rename_i a1 b1 p1
        simp only [Bool.and_eq_true] at h
        obtain ⟨⟨⟨h1, h2⟩, h3⟩, h4⟩ := h
        have h1 := of_decide_eq_true h1
        subst h1
        obtain ⟨l1, l2⟩ := cEs_len h4
        exact mi_range2 (Gl_of o h2) (asgB_ok o h3 GO) (ha _ h4) (star_all l2) (star_all (Bool.and_eq_true_iff.mp (show (nst a1 && [b1].all nst) = true from l2)).2)
      · cases h
    all_goals cases h
theorem sJs (GO : GOk G fi T C k base) : ∀ (ces : CEs) {c : KC} {g : Pm} {X : Cx} {l : List Expr}, KOk G k base c g X → cEs G.Q T ces c l = true → PJ X l (tes G g C ces)
  | .nil, c, g, X, [], o, h => .nil
  | .nil, c, g, X, _ :: _, o, h => by cases h
  | .cons a r, c, g, X, [], o, h => by cases h
  | .cons a r, c, g, X, e :: l, o, h => by
    have h : (nst e && cE G.Q T a c e && cEs G.Q T r c l) = true := h
    simp only [Bool.and_eq_true] at h
    exact .cons (sE GO a o h.1.2) (sJs GO r o h.2)
end
end
end EW

set_option Elab.async false
set_option linter.all false
set_option maxRecDepth 100000
set_option maxHeartbeats 0
/-! M layer 18: the check of statements, sound. -/
namespace EW
open PySem PySem.Spec PyProof.Rows L2

def KC.suite (c : KC) : KC := { c with calm := false, hx := true }
def qExpr (f : Expr → Bool) : Stmt → Bool
  | .Expr e _ => notLc e && f e
  | _ => false
def qNop : Stmt → Bool
  | .Pass _ => true
  | .Expr (.Constant (.str _) _ _) _ => true
  | _ => false
def qAsg (c : KC) (t : Tg) (f : Expr → Bool) : Stmt → Bool
  | .Assign [tg] e _ => nst tg && tgB c t tg && (lcOnly e && oneGen e) && (notTup tg || notTup e) && f e
  | _ => false
def qSetf (T : Tab) (k : Nat) (fo fe : Expr → Bool) : Stmt → Bool
  | .Assign [.Attribute o x _] e _ => decide (T.fN k = x) && lcOnly e && fo o && fe e
  | _ => false
def qSeti (fo fi fe : Expr → Bool) : Stmt → Bool
  | .Assign [.Subscript o i _] e _ => notSlice i && lcOnly e && fo o && fi i && fe e
  | _ => false
def qRet (f : Expr → Bool) : Stmt → Bool
  | .Return (some e) _ => f e
  | _ => false
def qRetn : Stmt → Bool
  | .Return none _ => true
  | _ => false
def qIf (fc : Expr → Bool) (fa fb : List Stmt → Bool) : Stmt → Bool
  | .If c a b _ => fc c && fa a && fb b
  | _ => false
def qFor (T : Tab) (c : KC) (t : Tg) (k : IK) (fs : List Expr → Bool) (fb : List Stmt → Bool) : Stmt → Bool
  | .For tg iter b [] _ => c.calm && tgB c t tg && itB T c k fs iter && fb b
  | _ => false
def qWhl (c : KC) (fc : Expr → Bool) (fb : List Stmt → Bool) : Stmt → Bool
  | .While e b [] _ => c.calm && fc e && fb b
  | _ => false
def nmOk (c : KC) : Option Nat → Option Str → Bool
  | none, none => true
  | some i, some n => decide (c.N[i]? = some n) && decide (c.sc.names.lookup n = some .local)
  | _, _ => false
def qTry (T : Tab) (c : KC) (k : Nat) (nm : Option Nat) (fb fh : List Stmt → Bool) : Stmt → Bool
  | .Try b [.ExceptHandler (some (.Name x _)) n (b0 :: su) _] [] [] _ => !c.hx && glB c.sc x && nmB x && decide ((x, k) ∈ T.ex) && nmOk c nm n && fb b && fh (b0 :: su)
  | _ => false
def qRaise (G : Prg) (T : Tab) (c : KC) (k : Nat) : Stmt → Bool
  | .Raise (some (.Call (.Name x _) [.Constant (.str _) _ _] [] _)) none _ => c.calm && glB c.sc x && nmB x && decide ((x, k) ∈ T.ex) && G.xr k
  | _ => false
mutual
def cS (G : Prg) (T : Tab) : CS → KC → Stmt → Bool
  | .expr e => fun c => qExpr (cE G T e c)
  | .asg t e => fun c => qAsg c t (cE G T e c)
  | .setf o f e => fun c => qSetf T f (cE G T o c) (cE G T e c)
  | .seti o i e => fun c => qSeti (cE G T o c) (cE G T i c) (cE G T e c)
  | .ret e => fun c => qRet (cE G T e c)
  | .retn => fun _ => qRetn
  | .ite e a b => fun c => qIf (fun x => cE G T e c x && tOk e x) (cSs G T a c) (cSs G T b c)
  | .forS t k src b => fun c => qFor T c t k (cEs G T src c) (cSs G T b c)
  | .whl e b => fun c => qWhl c (fun x => cE G T e c x && tOk e x) (cSs G T b c)
  | .tryS b k nm h => fun c => qTry T c k nm (cSs G T b c) (cSs G T h c.suite)
  | .raise k => fun c => qRaise G T c k
  | .nop => fun _ => qNop
  | _ => fun _ _ => false
def cSs (G : Prg) (T : Tab) : CSs → KC → List Stmt → Bool
  | .nil => fun _ l => l.isEmpty
  | .cons a r => fun c l => match l with
    | [] => false
    | s :: l => cS G T a c s && cSs G T r c l
end
structure KOkS (G : Gb) (k : Nat) (base : Heap) (c : KC) (g : Pm) (X : Cx) : Prop extends KOk G k base c g X where
  st : X.stack = X.env :: X.outer
  fr : X.env.frame = some X.env.locals
  po : c.calm = true → PassesOwn (model X.prog X.w) X.A X.env X.xe
section
variable {G : Gb} {fi : Nat → FI} {T : Tab} {C : Cal} {k : Nat} {base : Heap}
/-- name = [..] that takes the name along -/
theorem sAsgLc (GO : GOk G fi T C k base) {i : Nat} {ce : CE} {c : KC} {g : Pm} {X : Cx} {e tg : Expr} {p : Pos} (o : KOk G k base c g X) (hone : oneGen e = true) (hsw : swB c.sc e tg = true) (ht : tgN c i tg = true) (h : cE G.Q T ce c e = true) :
    PS X (.Assign [tg] e p) (tS G g fun r s => lift (M.bind (den C r ce) fun x => bindT (.nm i) x r) r (fun r1 s1 => .nx r1 s1) s) := by
  unfold swB at hsw
  split at hsw
  · rename_i ee gs scope lp y py
    cases ce <;> first | (cases h; done) | (have h2 := (Bool.and_eq_true_iff.mp h).2; cases h2; done) | skip
    case lc2 => rcases gs with _ | ⟨⟨tgE, iter, ifs, z⟩, _ | ⟨g2, gs⟩⟩ <;> first | (cases h; done) | cases hone
    case isi e0 ts => rcases ts with _ | ⟨t, _ | ⟨t2, ts⟩⟩ <;> cases h
    rename_i own tgt ik src cond elt
    rcases gs with _ | ⟨⟨tgE, iter, ifs, z⟩, _ | ⟨g2, gs⟩⟩ <;> first | (cases h; done) | skip
    have h : (decide (z = 0) && c.calm && !c.hx && blkC c.N c.sc scope (ownP c own) && decide (ifs.length ≤ 1) && tgB (c.in_ scope) tgt tgE && (tgt.slots.all fun i => decide (i ∈ own)) && itB T c ik (cEs G.Q T src c) iter && (cEs G.Q T cond (c.in_ scope) ifs && tOks cond ifs) && cE G.Q T elt (c.in_ scope) ee) = true := h
    simp only [Bool.and_eq_true, decide_eq_true_eq, Bool.not_eq_true'] at h
    obtain ⟨⟨⟨⟨⟨⟨⟨⟨⟨rfl, h1⟩, h2⟩, h3⟩, h4⟩, h5⟩, h6⟩, h7⟩, h8, h9⟩, h10⟩ := h
    have ok := blkOk_by h3
    have e1 : (ownP c own).map (·.2) = own := by
      unfold ownP
      rw [List.map_map]
      exact List.map_id' own
    rw [← o.sc, ← o.N] at ok
    have ht : (decide (c.N[i]? = some y) && (decide (c.sc.names.lookup y = some .local) || (!c.blk && decide (c.sc.names.lookup y = some .cell)))) = true := ht
    have hy := of_decide_eq_true (Bool.and_eq_true_iff.mp ht).1
    simp only [Bool.and_eq_true, decide_eq_true_eq, Bool.not_eq_true'] at hsw
    have q := ms_asgLc (G := G) (g := g) (pos := lp) (spos := p) (py := py) (elt := ee) (fs := fun r => dens C r src) (fc := fun r => denC C r cond) (fel := fun r => den C r elt) (o.calm h1) o.nd (by rw [o.N]; exact hy) (by rw [o.sc]; exact hsw.1.1)
      (sw_true o.kf (by rw [o.sc]; exact hsw.1.1) hsw.1.2 hsw.2) (sIt GO src o h7) ok (fun s H Cc cl fp => tgB_ok (o.in_ h2 ok.kind) h5)
      (fun s H Cc cl fp => sC GO cond (o.in_ h2 ok.kind) h8 h9 h4) (fun s H Cc cl fp => sE GO elt (o.in_ h2 ok.kind) h10) (itB_fold h7) (fun i hi => by
        rw [e1]
        exact of_decide_eq_true (List.all_eq_true.mp h6 i hi))
    rw [e1] at q
    exact q
  · cases hsw
theorem sAsg (GO : GOk G fi T C k base) {t : Tg} {ce : CE} {c : KC} {g : Pm} {X : Cx} {st : Stmt} (o : KOk G k base c g X) (h : qAsg c t (cE G.Q T ce c) st = true) :
    PS X st (tS G g fun r s => lift (M.bind (den C r ce) fun x => bindT t x r) r (fun r1 s1 => .nx r1 s1) s) := by
  cases st <;> first | (cases h; done) | skip
  rename_i tgs e p
  rcases tgs with _ | ⟨tg, _ | ⟨t2, tgs⟩⟩ <;> first | (cases h; done) | skip
  have h : (nst tg && tgB c t tg && (lcOnly e && oneGen e) && (notTup tg || notTup e) && cE G.Q T ce c e) = true := h
  simp only [Bool.and_eq_true, Bool.or_eq_true] at h
  obtain ⟨⟨⟨⟨h1, h2⟩, h3, h3'⟩, h4⟩, h5⟩ := h
  cases q : swB c.sc e tg with
  | true =>
    have z : ∃ i, t = .nm i := by
      cases t with
      | nm i => exact ⟨i, rfl⟩
      | tp is => cases e <;> cases tg <;> first | (cases q; done) | (cases h2; done)
      | tp2 i is => cases e <;> cases tg <;> first | (cases q; done) | (cases h2; done)
    obtain ⟨i, rfl⟩ := z
    exact sAsgLc GO o h3' q (show tgN c i tg = true by cases tg <;> exact h2) h5
  | false =>
    refine ms_asg (sE GO ce o h5) (tgB_ok o h2) ?_ ?_ (by rw [asg_cons h1]; rfl)
    · show swapsWith e (some tg) p.line X.env = pure false
      rw [sw_val o.kf h3, o.sc, q]
    · rcases h4 with h4 | h4
      · exact ss_no1 h4
      · exact ss_no2 h4
theorem sRaise (GO : GOk G fi T C k base) {kx : Nat} {c : KC} {g : Pm} {X : Cx} {st : Stmt} (o : KOk G k base c g X) (h : qRaise G.Q T c kx st = true) :
    PS X st (tS G g fun r s => if G.Q.xr kx = true then .ex ⟨kx, []⟩ r s else .no) := by
  unfold qRaise at h
  split at h
  · rename_i x p1 msg j p2 p3 p4
    simp only [Bool.and_eq_true, decide_eq_true_eq] at h
    obtain ⟨⟨⟨⟨h1, h2⟩, h3⟩, h4⟩, h5⟩ := h
    exact ms_raise o.x GO.E (o.calm h1) (Gl_of o h2) (by rw [o.x.mg]; exact GO.T.ex _ h4) (nmB_ok h3).1 h5
  · cases h
theorem KOkS.tr {c : KC} {g : Pm} {X : Cx} (o : KOkS G k base c g X) (hno : ∀ p x, ¬ g.chi p x) {W : WX} {pn : List (Addr × Obj)} {xe : Value → Shared → Prop} (tk : Takes (X.tr pn xe) W) (po : PassesOwn (model X.prog X.w) X.A X.env xe) : KOkS G k base c ⟨W, g.chi⟩ (X.tr pn xe) :=
  ⟨⟨o.x.try_ hno tk, o.sc, o.kf, o.N, o.nd, o.calm, o.room, o.un, o.base, fun _ => hno, o.fnl⟩, o.st, o.fr, fun _ => po⟩
theorem KOkS.su {c : KC} {g : Pm} {X : Cx} (o : KOkS G k base c g X) (eo : EOk G) {a : Addr} {oe : Obj} {cls : Value} {d : Option Addr} {pn : List (Addr × Obj)} (hz : Zc cls d oe) (hf : ∃ vs, oe.data = .fields vs) : KOkS G k base c.suite (Pm.suite G a cls d) (X.suite a ((a, oe) :: pn)) :=
  ⟨⟨o.x.suite eo hz hf, o.sc, o.kf, o.N, o.nd, fun h => (by cases h), fun h => (by cases h), o.un, o.base, fun h => (by cases h), o.fnl⟩, o.st, o.fr, fun h => (by cases h)⟩
mutual
theorem sS (GO : GOk G fi T C k base) : ∀ (cs : CS) {c : KC} {g : Pm} {X : Cx} {st : Stmt}, KOkS G k base c g X → cS G.Q T cs c st = true → PS X st (tS G g fun r s => sem C r s cs)
  | .expr ce, c, g, X, st, o, h => by
    cases st <;> first | (cases h; done) | skip
    rename_i e p
    have h : (notLc e && cE G.Q T ce c e) = true := h
    simp only [Bool.and_eq_true] at h
    exact ms_expr (sE GO ce o.toKOk h.2) (sw_no h.1)
  | .asg t ce, c, g, X, st, o, h => sAsg GO o.toKOk h
  | .setf co f ce, c, g, X, st, o, h => by
    cases st <;> first | (cases h; done) | skip
    rename_i tgs e p
    rcases tgs with _ | ⟨tg, tgs⟩ <;> first | (cases h; done) | skip
    cases tg <;> first | (cases h; done) | skip
    rename_i eo x px
    cases tgs <;> first | (cases h; done) | skip
    have h : (decide (T.fN f = x) && lcOnly e && cE G.Q T co c eo && cE G.Q T ce c e) = true := h
    simp only [Bool.and_eq_true, decide_eq_true_eq] at h
    obtain ⟨⟨⟨rfl, h1⟩, h2⟩, h3⟩ := h
    have hs : swapsWith e (some (.Attribute eo (G.fN f) px)) p.line X.env = pure false := by
      rw [sw_val o.kf h1]
      cases e <;> rfl
    have q := ms_setf (f := f) (pos := p) (pos' := px) GO.F o.x.K (sE GO co o.toKOk h2) (sE GO ce o.toKOk h3) hs
    rw [← GO.T.fN, ← GO.C.P] at q
    exact q
  | .seti co ci ce, c, g, X, st, o, h => by
    cases st <;> first | (cases h; done) | skip
    rename_i tgs e p
    rcases tgs with _ | ⟨tg, tgs⟩ <;> first | (cases h; done) | skip
    cases tg <;> first | (cases h; done) | skip
    rename_i eo ei px
    cases tgs <;> first | (cases h; done) | skip
    have h : (notSlice ei && lcOnly e && cE G.Q T co c eo && cE G.Q T ci c ei && cE G.Q T ce c e) = true := h
    simp only [Bool.and_eq_true] at h
    obtain ⟨⟨⟨⟨h0, h1⟩, h2⟩, h3⟩, h4⟩ := h
    refine ms_seti (sE GO ce o.toKOk h4) (sE GO co o.toKOk h2) (sE GO ci o.toKOk h3) (fun v => ?_) ?_
    · cases ei <;> first | rfl | cases h0
    · show swapsWith e (some (.Subscript eo ei px)) p.line X.env = pure false
      rw [sw_val o.kf h1]
      cases e <;> rfl
  | .ret ce, c, g, X, st, o, h => by
    cases st <;> first | (cases h; done) | skip
    rename_i v p
    cases v <;> first | (cases h; done) | skip
    exact ms_ret (sE GO ce o.toKOk h)
  | .retn, c, g, X, st, o, h => by
    cases st <;> first | (cases h; done) | skip
    rename_i v p
    cases v <;> first | (cases h; done) | skip
    exact ms_retn
  | .ite ce a b, c, g, X, st, o, h => by
    cases st <;> first | (cases h; done) | skip
    rename_i e la lb p
    have h : ((cE G.Q T ce c e && tOk ce e) && cSs G.Q T a c la && cSs G.Q T b c lb) = true := h
    simp only [Bool.and_eq_true] at h
    exact ms_if (sT GO ce o.toKOk h.1.1.1 h.1.1.2 (sE GO ce o.toKOk h.1.1.1)) (sSs GO a o h.1.2) (sSs GO b o h.2)
  | .forS t ik src b, c, g, X, st, o, h => by
    cases st <;> first | (cases h; done) | skip
    rename_i tg iter body els p
    cases els <;> first | (cases h; done) | skip
    have h : (c.calm && tgB c t tg && itB T c ik (cEs G.Q T src c) iter && cSs G.Q T b c body) = true := h
    simp only [Bool.and_eq_true] at h
    obtain ⟨⟨⟨h1, h2⟩, h3⟩, h4⟩ := h
    exact ms_for (o.po h1) (o.calm h1) (sIt GO src o.toKOk h3) (tgB_ok o.toKOk h2) (sSs GO b o h4) (itB_fold h3)
  | .whl ce b, c, g, X, st, o, h => by
    cases st <;> first | (cases h; done) | skip
    rename_i e body els p
    cases els <;> first | (cases h; done) | skip
    have h : (c.calm && (cE G.Q T ce c e && tOk ce e) && cSs G.Q T b c body) = true := h
    simp only [Bool.and_eq_true] at h
    exact ms_while (o.po h.1.1) (sT GO ce o.toKOk h.1.2.1 h.1.2.2 (sE GO ce o.toKOk h.1.2.1)) (sSs GO b o h.2)
  | .tryS b kx nm hd, c, g, X, st, o, h => by
    replace h : qTry T c kx nm (cSs G.Q T b c) (cSs G.Q T hd c.suite) st = true := h
    unfold qTry at h
    split at h
    · rename_i body x p1 n b0 su p2 p3
      simp only [Bool.and_eq_true, decide_eq_true_eq, Bool.not_eq_true'] at h
      obtain ⟨⟨⟨⟨⟨⟨h1, h2⟩, h3⟩, h4⟩, h5⟩, h6⟩, h7⟩ := h
      have hno := o.chi h1
      have hm : X.mg x = some (.ref (G.xA kx)) := by rw [o.x.mg]; exact GO.T.ex _ h4
      have hb : ∀ (W : WX) (pn : List (Addr × Obj)) (xe : Value → Shared → Prop), Takes (X.tr pn xe) W → PassesOwn (model X.prog X.w) X.A X.env xe → PSs (X.tr pn xe) body (tS G ⟨W, g.chi⟩ fun r s => sems C r s b) :=
        fun W pn xe tk po => sSs GO b (o.tr hno tk po) h6
      have hsu : ∀ (a : Addr) (oe : Obj) (cls : Value) (d : Option Addr) (pn : List (Addr × Obj)), Zc cls d oe → (∃ vs, oe.data = .fields vs) → PSs (X.suite a ((a, oe) :: pn)) (b0 :: su) (tS G (Pm.suite G a cls d) fun r s => sems C r s hd) :=
        fun a oe cls d pn hz hf => sSs GO hd (o.su GO.E hz hf) h7
      show PS X _ (tS G g (tryM C.P kx nm (fun r s => sems C r s b) fun r s => sems C r s hd))
      rw [GO.C.P]
      cases nm with
      | none =>
        cases n with
        | none => exact ms_try_only o.x GO.E hno o.st o.fr (Gl_of o.toKOk h2) (nmB_ok h3).1 hm hb hsu
        | some n => cases h5
      | some i =>
        cases n with
        | none => cases h5
        | some n =>
          obtain ⟨h5, h8⟩ := Bool.and_eq_true_iff.mp (show (decide (c.N[i]? = some n) && decide (c.sc.names.lookup n = some .local)) = true from h5)
          exact ms_try_as o.x GO.E hno o.st o.fr o.nd (by rw [o.N]; exact of_decide_eq_true h5) (by show X.env.scope.names.lookup n = _; rw [o.sc]; exact of_decide_eq_true h8) (Gl_of o.toKOk h2) (nmB_ok h3).1 hm hb hsu
    · cases h
  | .raise kx, c, g, X, st, o, h => by
    have q := sRaise GO o.toKOk h
    rw [← GO.C.P] at q
    exact q
  | .nop, c, g, X, st, o, h => by
    have h : qNop st = true := h
    unfold qNop at h
    split at h
    · exact ms_nop ps_pass
    · exact ms_nop ps_doc
    · cases h
  | .deli _ _, c, g, X, st, o, h => by cases h
  | .raiseC _ _ _, c, g, X, st, o, h => by cases h
theorem sSs (GO : GOk G fi T C k base) : ∀ (cs : CSs) {c : KC} {g : Pm} {X : Cx} {l : List Stmt}, KOkS G k base c g X → cSs G.Q T cs c l = true → PSs X l (tS G g fun r s => sems C r s cs)
  | .nil, c, g, X, [], o, h => mss_nil
  | .nil, c, g, X, _ :: _, o, h => by cases h
  | .cons a r, c, g, X, [], o, h => by cases h
  | .cons a r, c, g, X, st :: l, o, h => by
    obtain ⟨h1, h2⟩ := Bool.and_eq_true_iff.mp (show (cS G.Q T a c st && cSs G.Q T r c l) = true from h)
    exact mss_cons (sS GO a o h1) (sSs GO r o h2)
end
end
end EW

set_option Elab.async false
set_option linter.all false
set_option maxRecDepth 100000
set_option maxHeartbeats 0
/-! M layer 19: a program's tables as data; its defs run by their meanings. -/
namespace EW
open PySem PySem.Spec PyProof.Rows L2

structure FT where
  ps : List Str
  N : List Str
  cs : CSs
structure CD where
  name : Str
  flds : List Nat
  meth : List (Nat × Nat)
  init : Option Nat
  plain : Bool
structure ED where
  name : Str
  can : Bool
  sub : List (Nat × Bool)
structure PD where
  defs : List He.DefD
  txt : List FT
  cls : List CD
  exc : List ED
  fN : List Str
  mN : List Str
  con : List (Str × D)
  free : List Str
  gfn : List (Str × Nat)
def lk {α β : Type} (l : List α) (i : Nat) (z : β) (f : α → β) : β := match l[i]? with
  | some x => f x
  | none => z
def nmOf (l : List Str) (i : Nat) : Str := lk l i "" id
def PD.prg (p : PD) : Prg where
  fns := p.txt.map fun t => ⟨t.ps.length, t.N.length, t.cs⟩
  meth := fun c m => lk p.cls c none fun d => d.meth.lookup m
  init := fun c => lk p.cls c none fun d => d.init
  plain := fun c => lk p.cls c false fun d => d.plain
  sub := fun x c => lk p.exc x none fun d => d.sub.lookup c
  xr := fun x => lk p.exc x false fun d => d.can
  con := fun g => lk p.con g .non fun d => d.2
  dfl := fun _ _ => []
  np := fun f => lk p.txt f 0 fun t => t.ps.length
  can := fun f n => decide (f < p.defs.length) && decide (n = lk p.txt f 0 fun t => t.ps.length)
  flds := fun c f => lk p.cls c false fun d => decide (f ∈ d.flds)
def ixs {α : Type} : List α → Nat → List (α × Nat)
  | [], _ => []
  | a :: r, i => (a, i) :: ixs r (i + 1)
theorem ixs_mem {α : Type} {a : α} {j : Nat} : ∀ {l : List α} {i : Nat}, (a, j) ∈ ixs l i → i ≤ j ∧ l[j - i]? = some a
  | [], i, h => by cases h
  | b :: r, i, h => by
    rcases List.mem_cons.mp h with h | h
    · cases h
      exact ⟨Nat.le_refl _, by simp⟩
    · obtain ⟨h1, h2⟩ := ixs_mem h
      refine ⟨by omega, ?_⟩
      have : j - i = (j - (i + 1)) + 1 := by omega
      rw [this, List.getElem?_cons_succ]
      exact h2
def PD.tab (p : PD) : Tab where
  fn := p.gfn
  cl := ixs (p.cls.map (·.name)) 0
  ex := ixs (p.exc.map (·.name)) 0
  con := ixs (p.con.map (·.1)) 0
  free := p.free
  fN := fun i => nmOf p.fN i
  mN := fun i => nmOf p.mN i
def PD.cN (p : PD) (i : Nat) : Str := lk p.cls i "" (·.name)
def PD.xN (p : PD) (i : Nat) : Str := lk p.exc i "" (·.name)
def PD.at_ (p : PD) (f : Nat) : Str × Option Str := lk p.defs f ("", none) (·.at_)

/-! ### facts -/
def conB (K : PySem.W.Frag) (x : Str) : D → Bool
  | .int i => (match PySem.W.nsIn K mainGlobals x with
    | some (some (.int j _)) => decide (j = i)
    | _ => false)
  | .str z => (match PySem.W.nsIn K mainGlobals x with
    | some (some (.str y _)) => decide (y = strOf z)
    | _ => false)
  | _ => false
def excCB (K : PySem.W.Frag) (D : Addr) : Bool :=
  He.eqO (PySem.W.findIn K (.ref D) "__getattribute__") (some (some (.builtin "BaseException.__getattribute__"))) && He.eqO (PySem.W.findIn K (.ref D) "__getattr__") (some none) && decide (PySem.W.subIn K (.ref D) (.type "BaseException") = some true) && PySem.W.hasDictIn K D &&
  He.eqO (PySem.W.findIn K (.ref D) "__class__") (some (some (.builtin "object.__class__"))) && He.eqO (PySem.W.specialIn K (.builtin "object.__class__") "__get__") (some (some (.builtin "getset_descriptor.__get__"))) && decide (PySem.W.takesIn K (.builtin "object.__class__") = some true) && decide (PySem.W.mroIn K D (.type "object") = some true)
theorem excCB_ok {K : PySem.W.Frag} {D : Addr} (h : excCB K D = true) : ExcC K D := by
  unfold excCB at h
  simp only [Bool.and_eq_true, decide_eq_true_eq] at h
  obtain ⟨⟨⟨⟨⟨⟨⟨h1, h2⟩, h3⟩, h4⟩, h5⟩, h6⟩, h7⟩, h8⟩ := h
  exact ⟨He.eqO_ok h1, He.eqO_ok h2, h3, h4, He.eqO_ok h5, He.eqO_ok h6, h7, h8⟩
def CD.ok (p : PD) (K : PySem.W.Frag) (d : CD) : Bool :=
  (He.Fa.glo d.name).ok K && (d.flds.isEmpty && d.meth.isEmpty || (He.Fa.cls d.name).ok K) && (d.flds.all fun f => (He.Fa.noat d.name (nmOf p.fN f)).ok K && d.meth.all fun m => decide (nmOf p.fN f ≠ nmOf p.mN m.1)) &&
  (d.meth.all fun m => (He.Fa.meth d.name (nmOf p.mN m.1)).ok K && decide (p.at_ m.2 = (d.name, some (nmOf p.mN m.1)))) &&
  (match d.init with
    | some f => (He.Fa.mkr d.name).ok K && decide (p.at_ f = (d.name, some ("__init__" : Str)))
    | none => true) &&
  (!d.plain || (PySem.W.makesIn K (He.ga K d.name) && He.eqO (PySem.W.findIn K (.ref (He.ga K d.name)) "__init__") (some (some (.builtin "object.__init__"))) && PySem.W.keepIn K (.ref (He.ga K d.name)))) &&
  (d.flds.all fun f => d.flds.all fun f' => decide (nmOf p.fN f = nmOf p.fN f' → f = f'))
def ED.ok (p : PD) (K : PySem.W.Frag) (d : ED) : Bool :=
  (He.Fa.glo d.name).ok K && (!d.can || (He.Fa.exc d.name).ok K) && (d.sub.isEmpty || excCB K (He.ga K d.name)) &&
  (d.sub.all fun q => (He.Fa.exm d.name (p.xN q.1) q.2).ok K && decide (PySem.W.kitOne K (.ref (He.ga K d.name)) (.ref (He.ga K (p.xN q.1))) = some q.2))
def PD.okB (p : PD) (K : PySem.W.Frag) : Bool :=
  (p.cls.all fun d => d.ok p K) && (p.exc.all fun d => d.ok p K) && (p.free.all fun x => (He.Fa.free x).ok K) && (p.con.all fun q => conB K q.1 q.2) &&
  (p.gfn.all fun q => (He.Fa.glo q.1).ok K && (He.Fa.keep q.1).ok K && decide (p.at_ q.2 = (q.1, none)))

/-! ### the hook -/
def obsM (p : PD) (K : PySem.W.Frag) : He.AlD := (p.okB K && p.defs.all fun d => d.ok K, p.defs.map fun d => He.fnW K d.at_)
def SaysM (p : PD) (K : PySem.W.Frag) : Prop := obsM p K = (true, p.defs.map He.DefD.val)
def obsMG (n : Nat) (p : PD) (g : Addr → Option Obj) : He.AlD := obsM p (He.frG g (He.asD g n))
def hookM (n : Nat) (p : PD) : PySem.W.Hook where
  α := He.AlD
  obs := fun s => obsMG n p s.heap.get?
  val := fun _ => (true, p.defs.map He.DefD.val)
  says := fun _ h => ∃ K : PySem.W.Frag, K.In h ∧ SaysM p K
  of := fun _ _ e => ⟨_, He.frG_in, e⟩
  keeps := fun _ _ _ ⟨K, hK, c⟩ k => ⟨K, PySem.W.Frag.In.keeps hK k, c⟩
theorem obsMG_eq {n : Nat} {p : PD} {g : Addr → Option Obj} {s : Shared} (h : ∀ a, g a = s.heap.get? a) : obsMG n p g = (hookM n p).obs s := by
  have e : g = s.heap.get? := funext h
  rw [e] <;> rfl
theorem SaysM.okB {p : PD} {K : PySem.W.Frag} (c : SaysM p K) : p.okB K = true :=
  (Bool.and_eq_true_iff.mp (show (p.okB K && p.defs.all fun d => d.ok K) = true from congrArg (fun z : He.AlD => z.1) c)).1
theorem SaysM.def_ {p : PD} {K : PySem.W.Frag} (c : SaysM p K) (i : Nat) {d : He.DefD} (h : p.defs[i]? = some d) : ∃ fd, FunD K d.name d.qual d.params d.body d.scope (d.dvs K) (d.kws K) (He.fAd K d.at_) fd := by
  have c2 := (Bool.and_eq_true_iff.mp (show (p.okB K && p.defs.all fun d => d.ok K) = true from congrArg (fun z : He.AlD => z.1) c)).2
  have e : p.defs.map (fun d => He.fnW K d.at_) = p.defs.map He.DefD.val := congrArg (fun z : He.AlD => z.2) c
  have e2 : (p.defs.map fun d => He.fnW K d.at_)[i]? = (p.defs.map He.DefD.val)[i]? := by rw [e]
  rw [List.getElem?_map, List.getElem?_map, h] at e2
  exact He.DefD.funD (Option.some.inj e2) (List.all_eq_true.mp c2 d (List.mem_of_getElem? h))
/-! ### parameters -/
theorem zip_look {L : List Str} {us : List Value} {n : Str} (hn : n ∈ L) (hl : us.length = L.length) : ((L.zip us).lookup n).isNone = false := by
  induction L generalizing us with
  | nil => cases hn
  | cons a r ih =>
    cases us with
    | nil => cases hl
    | cons u us =>
      rw [List.zip_cons_cons, List.lookup_cons]
      cases q : (n == a) with
      | true => rfl
      | false =>
        rcases List.mem_cons.mp hn with e | hn
        · subst e; simp at q
        · exact ih hn (by simpa using hl)
theorem zip_none {L : List Str} {us : List Value} (hl : us.length = L.length) : L.filter (fun n => ((L.zip us).lookup n).isNone) = [] := by
  rw [List.filter_eq_nil_iff]
  intro n hn
  rw [zip_look hn hl]
  simp
theorem zip_map : ∀ {L : List Str} {us : List Value} {M : List (Str × Value)}, L.Nodup → us.length = L.length → (∀ n ∈ L, M.lookup n = none) → L.filterMap (fun n => ((M ++ L.zip us).lookup n).map (n, ·)) = L.zip us
  | [], us, M, nd, hl, hM => rfl
  | a :: r, [], M, nd, hl, hM => by cases hl
  | a :: r, u :: us, M, nd, hl, hM => by
    have e1 : (M ++ (a :: r).zip (u :: us)).lookup a = some u := by
      rw [List.lookup_append, hM a List.mem_cons_self]
      simp [List.lookup_cons]
    rw [List.filterMap_cons, e1]
    have nd2 := List.nodup_cons.mp nd
    have e2 := zip_map (M := M ++ [(a, u)]) (us := us) nd2.2 (by simpa using hl) fun n hn => by
      have ne : (n == a) = false := beq_false_of_ne fun e => nd2.1 (e ▸ hn)
      rw [List.lookup_append, hM n (List.mem_cons_of_mem _ hn)]
      simp [List.lookup_cons, ne]
    rw [List.append_assoc] at e2
    show (a, u) :: r.filterMap (fun n => ((M ++ ((a, u) :: r.zip us)).lookup n).map (n, ·)) = (a, u) :: r.zip us
    exact congrArg _ e2
theorem zip_map0 {L : List Str} {us : List Value} (nd : L.Nodup) (hl : us.length = L.length) : L.filterMap (fun n => ((L.zip us).lookup n).map (n, ·)) = L.zip us := zip_map (M := []) nd hl fun _ _ => rfl
section
variable {x qual : Str} {a1 a2 a3 a4 a5 a6 a7 : Arg} {body : List Stmt} {scope : Scope}
theorem bd_1 (h : ([a1.arg] : List Str).Nodup) (kV doc pm : Value) (an : Option Addr) (cdv ct : Value) (u1 : Value) :
    bindArgs (PySem.W.fnOf x qual ⟨[], [a1], none, [], [], none, []⟩ body scope .none kV doc pm an cdv ct) ⟨[u1], []⟩ = pure (([a1.arg] : List Str).zip [u1]) := by
  unfold bindArgs
  show (if (!(([a1.arg] : List Str).filter (fun n => ((([a1.arg] : List Str).zip [u1]).lookup n).isNone)).isEmpty) = true then _ else _) = _
  rw [zip_none rfl]
  show (pure (([a1.arg] : List Str).filterMap (fun n => ((([a1.arg] : List Str).zip [u1]).lookup n).map (n, ·))) : Sem (List (Str × Value))) = _
  rw [zip_map0 h rfl]
theorem bd_2 (h : ([a1.arg, a2.arg] : List Str).Nodup) (kV doc pm : Value) (an : Option Addr) (cdv ct : Value) (u1 u2 : Value) :
    bindArgs (PySem.W.fnOf x qual ⟨[], [a1, a2], none, [], [], none, []⟩ body scope .none kV doc pm an cdv ct) ⟨[u1, u2], []⟩ = pure (([a1.arg, a2.arg] : List Str).zip [u1, u2]) := by
  unfold bindArgs
  show (if (!(([a1.arg, a2.arg] : List Str).filter (fun n => ((([a1.arg, a2.arg] : List Str).zip [u1, u2]).lookup n).isNone)).isEmpty) = true then _ else _) = _
  rw [zip_none rfl]
  show (pure (([a1.arg, a2.arg] : List Str).filterMap (fun n => ((([a1.arg, a2.arg] : List Str).zip [u1, u2]).lookup n).map (n, ·))) : Sem (List (Str × Value))) = _
  rw [zip_map0 h rfl]
theorem bd_3 (h : ([a1.arg, a2.arg, a3.arg] : List Str).Nodup) (kV doc pm : Value) (an : Option Addr) (cdv ct : Value) (u1 u2 u3 : Value) :
    bindArgs (PySem.W.fnOf x qual ⟨[], [a1, a2, a3], none, [], [], none, []⟩ body scope .none kV doc pm an cdv ct) ⟨[u1, u2, u3], []⟩ = pure (([a1.arg, a2.arg, a3.arg] : List Str).zip [u1, u2, u3]) := by
  unfold bindArgs
  show (if (!(([a1.arg, a2.arg, a3.arg] : List Str).filter (fun n => ((([a1.arg, a2.arg, a3.arg] : List Str).zip [u1, u2, u3]).lookup n).isNone)).isEmpty) = true then _ else _) = _
  rw [zip_none rfl]
  show (pure (([a1.arg, a2.arg, a3.arg] : List Str).filterMap (fun n => ((([a1.arg, a2.arg, a3.arg] : List Str).zip [u1, u2, u3]).lookup n).map (n, ·))) : Sem (List (Str × Value))) = _
  rw [zip_map0 h rfl]
theorem bd_4 (h : ([a1.arg, a2.arg, a3.arg, a4.arg] : List Str).Nodup) (kV doc pm : Value) (an : Option Addr) (cdv ct : Value) (u1 u2 u3 u4 : Value) :
    bindArgs (PySem.W.fnOf x qual ⟨[], [a1, a2, a3, a4], none, [], [], none, []⟩ body scope .none kV doc pm an cdv ct) ⟨[u1, u2, u3, u4], []⟩ = pure (([a1.arg, a2.arg, a3.arg, a4.arg] : List Str).zip [u1, u2, u3, u4]) := by
  unfold bindArgs
  show (if (!(([a1.arg, a2.arg, a3.arg, a4.arg] : List Str).filter (fun n => ((([a1.arg, a2.arg, a3.arg, a4.arg] : List Str).zip [u1, u2, u3, u4]).lookup n).isNone)).isEmpty) = true then _ else _) = _
  rw [zip_none rfl]
  show (pure (([a1.arg, a2.arg, a3.arg, a4.arg] : List Str).filterMap (fun n => ((([a1.arg, a2.arg, a3.arg, a4.arg] : List Str).zip [u1, u2, u3, u4]).lookup n).map (n, ·))) : Sem (List (Str × Value))) = _
  rw [zip_map0 h rfl]
theorem bd_5 (h : ([a1.arg, a2.arg, a3.arg, a4.arg, a5.arg] : List Str).Nodup) (kV doc pm : Value) (an : Option Addr) (cdv ct : Value) (u1 u2 u3 u4 u5 : Value) :
    bindArgs (PySem.W.fnOf x qual ⟨[], [a1, a2, a3, a4, a5], none, [], [], none, []⟩ body scope .none kV doc pm an cdv ct) ⟨[u1, u2, u3, u4, u5], []⟩ = pure (([a1.arg, a2.arg, a3.arg, a4.arg, a5.arg] : List Str).zip [u1, u2, u3, u4, u5]) := by
  unfold bindArgs
  show (if (!(([a1.arg, a2.arg, a3.arg, a4.arg, a5.arg] : List Str).filter (fun n => ((([a1.arg, a2.arg, a3.arg, a4.arg, a5.arg] : List Str).zip [u1, u2, u3, u4, u5]).lookup n).isNone)).isEmpty) = true then _ else _) = _
  rw [zip_none rfl]
  show (pure (([a1.arg, a2.arg, a3.arg, a4.arg, a5.arg] : List Str).filterMap (fun n => ((([a1.arg, a2.arg, a3.arg, a4.arg, a5.arg] : List Str).zip [u1, u2, u3, u4, u5]).lookup n).map (n, ·))) : Sem (List (Str × Value))) = _
  rw [zip_map0 h rfl]
theorem bd_6 (h : ([a1.arg, a2.arg, a3.arg, a4.arg, a5.arg, a6.arg] : List Str).Nodup) (kV doc pm : Value) (an : Option Addr) (cdv ct : Value) (u1 u2 u3 u4 u5 u6 : Value) :
    bindArgs (PySem.W.fnOf x qual ⟨[], [a1, a2, a3, a4, a5, a6], none, [], [], none, []⟩ body scope .none kV doc pm an cdv ct) ⟨[u1, u2, u3, u4, u5, u6], []⟩ = pure (([a1.arg, a2.arg, a3.arg, a4.arg, a5.arg, a6.arg] : List Str).zip [u1, u2, u3, u4, u5, u6]) := by
  unfold bindArgs
  show (if (!(([a1.arg, a2.arg, a3.arg, a4.arg, a5.arg, a6.arg] : List Str).filter (fun n => ((([a1.arg, a2.arg, a3.arg, a4.arg, a5.arg, a6.arg] : List Str).zip [u1, u2, u3, u4, u5, u6]).lookup n).isNone)).isEmpty) = true then _ else _) = _
  rw [zip_none rfl]
  show (pure (([a1.arg, a2.arg, a3.arg, a4.arg, a5.arg, a6.arg] : List Str).filterMap (fun n => ((([a1.arg, a2.arg, a3.arg, a4.arg, a5.arg, a6.arg] : List Str).zip [u1, u2, u3, u4, u5, u6]).lookup n).map (n, ·))) : Sem (List (Str × Value))) = _
  rw [zip_map0 h rfl]
theorem bd_7 (h : ([a1.arg, a2.arg, a3.arg, a4.arg, a5.arg, a6.arg, a7.arg] : List Str).Nodup) (kV doc pm : Value) (an : Option Addr) (cdv ct : Value) (u1 u2 u3 u4 u5 u6 u7 : Value) :
    bindArgs (PySem.W.fnOf x qual ⟨[], [a1, a2, a3, a4, a5, a6, a7], none, [], [], none, []⟩ body scope .none kV doc pm an cdv ct) ⟨[u1, u2, u3, u4, u5, u6, u7], []⟩ = pure (([a1.arg, a2.arg, a3.arg, a4.arg, a5.arg, a6.arg, a7.arg] : List Str).zip [u1, u2, u3, u4, u5, u6, u7]) := by
  unfold bindArgs
  show (if (!(([a1.arg, a2.arg, a3.arg, a4.arg, a5.arg, a6.arg, a7.arg] : List Str).filter (fun n => ((([a1.arg, a2.arg, a3.arg, a4.arg, a5.arg, a6.arg, a7.arg] : List Str).zip [u1, u2, u3, u4, u5, u6, u7]).lookup n).isNone)).isEmpty) = true then _ else _) = _
  rw [zip_none rfl]
  show (pure (([a1.arg, a2.arg, a3.arg, a4.arg, a5.arg, a6.arg, a7.arg] : List Str).filterMap (fun n => ((([a1.arg, a2.arg, a3.arg, a4.arg, a5.arg, a6.arg, a7.arg] : List Str).zip [u1, u2, u3, u4, u5, u6, u7]).lookup n).map (n, ·))) : Sem (List (Str × Value))) = _
  rw [zip_map0 h rfl]
end
def bdB (a : Arguments) (ps : List Str) : Bool := match a with
  | ⟨[], l, none, [], [], none, []⟩ => decide (l.map (·.arg) = ps) && decide (l.length ≤ 7) && decide ps.Nodup
  | _ => false
theorem bd_ok {x qual : Str} {a : Arguments} {body : List Stmt} {scope : Scope} {ps : List Str} (h : bdB a ps = true) (kV doc pm : Value) (an : Option Addr) (cdv ct : Value) (us : List Value) (hl : us.length = ps.length) :
    bindArgs (PySem.W.fnOf x qual a body scope .none kV doc pm an cdv ct) ⟨us, []⟩ = pure (ps.zip us) := by
  unfold bdB at h
  split at h
  · rename_i l
    simp only [Bool.and_eq_true, decide_eq_true_eq] at h
    obtain ⟨⟨rfl, h⟩, nd⟩ := h
    rcases l with _ | ⟨a1, _ | ⟨a2, _ | ⟨a3, _ | ⟨a4, _ | ⟨a5, _ | ⟨a6, _ | ⟨a7, _ | ⟨a8, l⟩⟩⟩⟩⟩⟩⟩⟩
    · match us, hl with | [], _ => rfl
    · match us, hl with | [_], _ => exact bd_1 nd kV doc pm an cdv ct _
    · match us, hl with | [_, _], _ => exact bd_2 nd kV doc pm an cdv ct _ _
    · match us, hl with | [_, _, _], _ => exact bd_3 nd kV doc pm an cdv ct _ _ _
    · match us, hl with | [_, _, _, _], _ => exact bd_4 nd kV doc pm an cdv ct _ _ _ _
    · match us, hl with | [_, _, _, _, _], _ => exact bd_5 nd kV doc pm an cdv ct _ _ _ _ _
    · match us, hl with | [_, _, _, _, _, _], _ => exact bd_6 nd kV doc pm an cdv ct _ _ _ _ _ _
    · match us, hl with | [_, _, _, _, _, _, _], _ => exact bd_7 nd kV doc pm an cdv ct _ _ _ _ _ _ _
    · simp at h
  · cases h
def scB (N ps : List Str) (sc : Scope) : Bool := (match sc.kind with
    | .function => true
    | _ => false) && !sc.isCoroutine && !sc.isGenerator && decide N.Nodup && decide (N.take ps.length = ps) && (ps.all fun x => decide (sc.names.lookup x = some .local) || decide (sc.names.lookup x = some .cell)) && sc.names.all fun y => decide (y.2 ≠ .free)
theorem scB_ok {N ps : List Str} {sc : Scope} (h : scB N ps sc = true) : FnScope N ps sc := by
  unfold scB at h
  simp only [Bool.and_eq_true, Bool.not_eq_true', decide_eq_true_eq] at h
  obtain ⟨⟨⟨⟨⟨⟨h1, h2⟩, h3⟩, h4⟩, h5⟩, h6⟩, h7⟩ := h
  refine ⟨?_, h2, h3, h4, h5, fun x hx => ?_, fun y hy => of_decide_eq_true (List.all_eq_true.mp h7 y hy)⟩
  · split at h1
    · assumption
    · cases h1
  · have q := List.all_eq_true.mp h6 x hx
    simp only [Bool.or_eq_true, decide_eq_true_eq] at q
    exact q
/-- one def's text says its meaning -/
def FT.ok (p : PD) (t : FT) (d : He.DefD) : Bool := bdB d.params t.ps && d.dfl.isEmpty && scB t.N t.ps d.scope && cSs p.prg p.tab t.cs ⟨d.scope, t.N, true, false, false⟩ d.body
def PD.ok (p : PD) (i : Nat) : Prop := ∀ (d : He.DefD) (t : FT), p.defs[i]? = some d → p.txt[i]? = some t → t.ok p d = true
structure PD.Ok (p : PD) : Prop where
  len : p.txt.length = p.defs.length
  all : ∀ i, p.ok i
theorem PD.ok_of {p : PD} (h1 : p.txt.length = p.defs.length) (h2 : ((p.txt.zip p.defs).all fun q => q.1.ok p q.2) = true) : p.Ok where
  len := h1
  all := fun i d t e1 e2 => by
    have : (t, d) ∈ p.txt.zip p.defs := by
      refine List.mem_of_getElem? (i := i) ?_
      rw [List.getElem?_zip_eq_some]
      exact ⟨e2, e1⟩
    exact List.all_eq_true.mp h2 _ this
end EW

set_option Elab.async false
set_option linter.all false
set_option maxRecDepth 100000
set_option maxHeartbeats 0
/-! M layer 20: the defs run by their meanings; a law's end. -/
namespace EW
open PySem PySem.Spec PyProof.Rows L2

section
variable {p : PD} {K : PySem.W.Frag} {mg : Str → Option Value} {h : Heap} {P : Program} {w : World}
def gbOf (p : PD) (P : Program) (w : World) (K : PySem.W.Frag) (mg : Str → Option Value) : Gb := ⟨P, w, K, mg, p.prg, fun c => He.ga K (p.cN c), fun c => He.ga K (p.xN c), fun i => nmOf p.fN i⟩
def fiOf (p : PD) (K : PySem.W.Frag) (fdf : Nat → FuncData) : Nat → FI := fun f => ⟨He.fAd K (p.at_ f), fdf f, lk p.txt f [] (·.ps)⟩
theorem lk_some {α β : Type} {l : List α} {i : Nat} {z : β} {f : α → β} {x : α} (h : l[i]? = some x) : lk l i z f = f x := by unfold lk; rw [h]
theorem lk_case {α β : Type} {l : List α} {i : Nat} {z : β} {f : α → β} {y : β} (h : lk l i z f = y) (hz : z ≠ y) : ∃ x, l[i]? = some x ∧ f x = y := by
  unfold lk at h
  cases q : l[i]? with
  | none => rw [q] at h; exact absurd h hz
  | some x => rw [q] at h; exact ⟨x, rfl, h⟩
structure OkB (p : PD) (K : PySem.W.Frag) : Prop where
  cls : ∀ d ∈ p.cls, d.ok p K = true
  exc : ∀ d ∈ p.exc, d.ok p K = true
  free : ∀ x ∈ p.free, (He.Fa.free x).ok K = true
  con : ∀ q ∈ p.con, conB K q.1 q.2 = true
  gfn : ∀ q ∈ p.gfn, (He.Fa.glo q.1).ok K = true ∧ (He.Fa.keep q.1).ok K = true ∧ p.at_ q.2 = (q.1, none)
theorem okB_of (c : p.okB K = true) : OkB p K := by
  unfold PD.okB at c
  simp only [Bool.and_eq_true, List.all_eq_true] at c
  obtain ⟨⟨⟨⟨h1, h2⟩, h3⟩, h4⟩, h5⟩ := c
  exact ⟨h1, h2, h3, h4, fun q hq => by
    have := h5 q hq
    simp only [decide_eq_true_eq] at this
    exact ⟨this.1.1, this.1.2, this.2⟩⟩
structure CDOk (p : PD) (K : PySem.W.Frag) (d : CD) : Prop where
  glo : (He.Fa.glo d.name).ok K = true
  cls : d.flds ≠ [] ∨ d.meth ≠ [] → Cls K (He.ga K d.name)
  noat : ∀ f ∈ d.flds, NoAttr K (He.ga K d.name) (nmOf p.fN f) ∧ ∀ m ∈ d.meth, nmOf p.fN f ≠ nmOf p.mN m.1
  meth : ∀ m ∈ d.meth, Meth K (He.ga K d.name) (nmOf p.mN m.1) (He.ma K (He.ga K d.name) (nmOf p.mN m.1)) ∧ p.at_ m.2 = (d.name, some (nmOf p.mN m.1))
  init : ∀ f, d.init = some f → Mk K (He.ga K d.name) (He.ma K (He.ga K d.name) "__init__") ∧ p.at_ f = (d.name, some ("__init__" : Str))
  plain : d.plain = true → PySem.W.makesIn K (He.ga K d.name) = true ∧ PySem.W.findIn K (.ref (He.ga K d.name)) "__init__" = some (some (.builtin "object.__init__")) ∧ PySem.W.keepIn K (.ref (He.ga K d.name)) = true
  inj : ∀ f ∈ d.flds, ∀ f' ∈ d.flds, nmOf p.fN f = nmOf p.fN f' → f = f'
theorem cdOk_of {d : CD} (c : d.ok p K = true) : CDOk p K d := by
  unfold CD.ok at c
  simp only [Bool.and_eq_true, List.all_eq_true, Bool.or_eq_true, decide_eq_true_eq] at c
  obtain ⟨⟨⟨⟨⟨⟨h1, h2⟩, h3⟩, h4⟩, h5⟩, h6⟩, h7⟩ := c
  refine ⟨h1, fun hn => ?_, fun f hf => ⟨He.noat_ok (h3 f hf).1, (h3 f hf).2⟩, fun m hm => ⟨He.meth_ok (h4 m hm).1, (h4 m hm).2⟩, fun f hf => ?_, fun hp => ?_, h7⟩
  · rcases h2 with ⟨h2, h3⟩ | h2
    · rw [List.isEmpty_iff] at h2 h3
      rcases hn with hn | hn
      · exact absurd h2 hn
      · exact absurd h3 hn
    · exact He.cls_ok h2
  · rw [hf] at h5
    simp only [Bool.and_eq_true, decide_eq_true_eq] at h5
    exact ⟨He.mkr_ok h5.1, h5.2⟩
  · rcases h6 with h6 | ⟨⟨h6, h8⟩, h9⟩
    · rw [hp] at h6; cases h6
    · exact ⟨h6, He.eqO_ok h8, h9⟩
structure EDOk (p : PD) (K : PySem.W.Frag) (d : ED) : Prop where
  glo : (He.Fa.glo d.name).ok K = true
  can : d.can = true → PySem.W.excIn K (He.ga K d.name) He.veBase "ValueError.__new__" = true ∧ PySem.W.keepIn K (.ref (He.ga K d.name)) = true ∧ PySem.W.subIn K (.ref (He.ga K d.name)) (.type "BaseException") = some true ∧ PySem.W.typeIn K (.ref (He.ga K d.name)) = some (.type "type")
  sub : ∀ q ∈ d.sub, ExcC K (He.ga K d.name) ∧ PySem.W.exmOne K (.ref (He.ga K d.name)) (.ref (He.ga K (p.xN q.1))) = some q.2 ∧ PySem.W.kitOne K (.ref (He.ga K d.name)) (.ref (He.ga K (p.xN q.1))) = some q.2
theorem edOk_of {d : ED} (c : d.ok p K = true) : EDOk p K d := by
  unfold ED.ok at c
  simp only [Bool.and_eq_true, List.all_eq_true, Bool.or_eq_true, decide_eq_true_eq] at c
  obtain ⟨⟨⟨h1, h2⟩, h3⟩, h4⟩ := c
  refine ⟨h1, fun hc => ?_, fun q hq => ⟨?_, He.exm_ok (h4 q hq).1, (h4 q hq).2⟩⟩
  · rcases h2 with h2 | h2
    · rw [hc] at h2; cases h2
    · exact He.exc_ok h2
  · rcases h3 with h3 | h3
    · rw [List.isEmpty_iff] at h3
      rw [h3] at hq
      cases hq
    · exact excCB_ok h3
theorem lookup_mem {α β : Type} [BEq α] [LawfulBEq α] {l : List (α × β)} {a : α} {b : β} (h : l.lookup a = some b) : (a, b) ∈ l := by
  induction l with
  | nil => cases h
  | cons x r ih =>
    obtain ⟨k, v⟩ := x
    rw [List.lookup_cons] at h
    cases q : (a == k) with
    | true =>
      rw [q] at h
      cases h
      rw [eq_of_beq q]
      exact List.mem_cons_self
    | false =>
      rw [q] at h
      exact List.mem_cons_of_mem _ (ih h)
theorem conB_ok {x : Str} {d : D} (KX : K.In h) (NS : h.Ns mainGlobals mg) (c : conB K x d = true) : ∃ u v, mg x = some u ∧ RelV v u ∧ ∀ m n H, RV m n H v d := by
  unfold conB at c
  cases d with
  | int i =>
    dsimp only at c
    split at c
    · rename_i j t q
      have := of_decide_eq_true c
      subst this
      exact ⟨_, .int j, PySem.W.mg_of KX NS q, ⟨_, rfl⟩, fun _ _ _ => rfl⟩
    · cases c
  | str z =>
    dsimp only at c
    split at c
    · rename_i j t q
      have := of_decide_eq_true c
      subst this
      exact ⟨_, .str (strOf z), PySem.W.mg_of KX NS q, ⟨_, rfl⟩, fun _ _ _ => rfl⟩
    · cases c
  | _ => cases c
theorem tabOk (KX : K.In h) (NS : h.Ns mainGlobals mg) (c : OkB p K) (fdf : Nat → FuncData) : TabOk (gbOf p P w K mg) (fiOf p K fdf) p.tab where
  fn := fun q hq => by
    obtain ⟨h1, h2, h3⟩ := c.gfn q hq
    have e : (fiOf p K fdf q.2).ad = He.ga K q.1 := by
      show He.fAd K (p.at_ q.2) = _
      rw [h3]
      rfl
    rw [e]
    exact ⟨He.glo_ok KX NS h1, He.keep_ok h2⟩
  cl := fun q hq => by
    obtain ⟨_, h1⟩ := ixs_mem (a := q.1) (j := q.2) hq
    rw [Nat.sub_zero, List.getElem?_map] at h1
    cases e : p.cls[q.2]? with
    | none => rw [e] at h1; cases h1
    | some d =>
      rw [e] at h1
      have h1 : d.name = q.1 := Option.some.inj h1
      have e2 : (gbOf p P w K mg).cA q.2 = He.ga K q.1 := by
        show He.ga K (lk p.cls q.2 "" (·.name)) = _
        rw [lk_some e, h1]
      rw [e2, ← h1]
      exact He.glo_ok KX NS (cdOk_of (c.cls d (List.mem_of_getElem? e))).glo
  ex := fun q hq => by
    obtain ⟨_, h1⟩ := ixs_mem (a := q.1) (j := q.2) hq
    rw [Nat.sub_zero, List.getElem?_map] at h1
    cases e : p.exc[q.2]? with
    | none => rw [e] at h1; cases h1
    | some d =>
      rw [e] at h1
      have h1 : d.name = q.1 := Option.some.inj h1
      have e2 : (gbOf p P w K mg).xA q.2 = He.ga K q.1 := by
        show He.ga K (lk p.exc q.2 "" (·.name)) = _
        rw [lk_some e, h1]
      rw [e2, ← h1]
      exact He.glo_ok KX NS (edOk_of (c.exc d (List.mem_of_getElem? e))).glo
  con := fun q hq => by
    obtain ⟨_, h1⟩ := ixs_mem (a := q.1) (j := q.2) hq
    rw [Nat.sub_zero, List.getElem?_map] at h1
    cases e : p.con[q.2]? with
    | none => rw [e] at h1; cases h1
    | some d =>
      rw [e] at h1
      have h1 : d.1 = q.1 := Option.some.inj h1
      have e2 : (gbOf p P w K mg).Q.con q.2 = d.2 := lk_some e
      rw [e2, ← h1]
      exact conB_ok KX NS (c.con d (List.mem_of_getElem? e))
  free := fun x hx => He.free_ok KX NS (c.free x hx)
  fN := rfl
theorem fOk (c : OkB p K) : FOk (gbOf p P w K mg) where
  cls := fun cc f hf => by
    obtain ⟨d, e1, e2⟩ := lk_case (show lk p.cls cc false (fun d => decide (f ∈ d.flds)) = true from hf) (by simp)
    have q := cdOk_of (c.cls d (List.mem_of_getElem? e1))
    have e2 := of_decide_eq_true e2
    have e3 : (gbOf p P w K mg).cA cc = He.ga K d.name := by
      show He.ga K (lk p.cls cc "" (·.name)) = _
      rw [lk_some e1]
    rw [e3]
    exact ⟨q.cls (.inl fun z => by rw [z] at e2; cases e2), (q.noat f e2).1⟩
  inj := fun cc f f' hf hf' hn => by
    obtain ⟨d, e1, e2⟩ := lk_case (show lk p.cls cc false (fun d => decide (f ∈ d.flds)) = true from hf) (by simp)
    obtain ⟨d', e3, e4⟩ := lk_case (show lk p.cls cc false (fun d => decide (f' ∈ d.flds)) = true from hf') (by simp)
    rw [e1] at e3; cases e3
    exact (cdOk_of (c.cls d (List.mem_of_getElem? e1))).inj f (of_decide_eq_true e2) f' (of_decide_eq_true e4) hn
theorem eOk (c : OkB p K) : EOk (gbOf p P w K mg) where
  can := fun cc hf => by
    obtain ⟨d, e1, e2⟩ := lk_case (show lk p.exc cc false (fun d => d.can) = true from hf) (by simp)
    have e3 : (gbOf p P w K mg).xA cc = He.ga K d.name := by
      show He.ga K (lk p.exc cc "" (·.name)) = _
      rw [lk_some e1]
    rw [e3]
    exact (edOk_of (c.exc d (List.mem_of_getElem? e1))).can e2
  sub := fun x cc b hf => by
    obtain ⟨d, e1, e2⟩ := lk_case (show lk p.exc x none (fun d => d.sub.lookup cc) = some b from hf) (by simp)
    have e3 : (gbOf p P w K mg).xA x = He.ga K d.name := by
      show He.ga K (lk p.exc x "" (·.name)) = _
      rw [lk_some e1]
    rw [e3]
    obtain ⟨h1, h2, h3⟩ := (edOk_of (c.exc d (List.mem_of_getElem? e1))).sub _ (lookup_mem e2)
    exact ⟨h2, h3, h1⟩
theorem fns_of (c : SaysM p K) (hd : p.defs ≠ []) : ∃ fdf : Nat → FuncData, ∀ (i : Nat) (d : He.DefD), p.defs[i]? = some d → FunD K d.name d.qual d.params d.body d.scope (d.dvs K) (d.kws K) (He.fAd K d.at_) (fdf i) := by
  have : ∀ i : Nat, ∃ fd, ∀ d : He.DefD, p.defs[i]? = some d → FunD K d.name d.qual d.params d.body d.scope (d.dvs K) (d.kws K) (He.fAd K d.at_) fd := fun i => by
    cases q : p.defs[i]? with
    | some d =>
      obtain ⟨fd, F⟩ := c.def_ i q
      exact ⟨fd, fun d' e => by cases e; exact F⟩
    | none =>
      cases q2 : p.defs with
      | nil => exact absurd q2 hd
      | cons d0 r =>
        obtain ⟨fd, F⟩ := c.def_ 0 (d := d0) (by rw [q2]; rfl)
        exact ⟨fd, fun d' e => by cases e⟩
  exact ⟨fun i => Classical.choose (this i), fun i => Classical.choose_spec (this i)⟩
/-- the check of one def, told -/
theorem ft_of {t : FT} {d : He.DefD} (c : t.ok p d = true) : bdB d.params t.ps = true ∧ d.dfl = [] ∧ FnScope t.N t.ps d.scope ∧ cSs p.prg p.tab t.cs ⟨d.scope, t.N, true, false, false⟩ d.body = true := by
  unfold FT.ok at c
  simp only [Bool.and_eq_true] at c
  obtain ⟨⟨⟨h1, h2⟩, h3⟩, h4⟩ := c
  exact ⟨h1, List.isEmpty_iff.mp h2, scB_ok h3, h4⟩
theorem binds_of {fdf : Nat → FuncData} (O : p.Ok) (F : ∀ (i : Nat) (d : He.DefD), p.defs[i]? = some d → FunD K d.name d.qual d.params d.body d.scope (d.dvs K) (d.kws K) (He.fAd K d.at_) (fdf i)) {f : Nat} (hf : f < p.defs.length) :
    Binds K (fdf f) (lk p.txt f [] (·.ps)) [] := by
  obtain ⟨d, e1⟩ : ∃ d, p.defs[f]? = some d := ⟨p.defs[f], by simp [hf]⟩
  obtain ⟨t, e2⟩ : ∃ t, p.txt[f]? = some t := ⟨p.txt[f]'(by rw [O.len]; exact hf), by simp⟩
  obtain ⟨h1, h2, _, _⟩ := ft_of (O.all f d t e1 e2)
  rw [lk_some e2]
  have q := F f d e1
  have e3 : d.dvs K = [] := by unfold He.DefD.dvs; rw [h2]; rfl
  rw [e3] at q
  exact q.bindsN (bd_ok h1)
theorem dOk {fdf : Nat → FuncData} (O : p.Ok) (c : OkB p K) (F : ∀ (i : Nat) (d : He.DefD), p.defs[i]? = some d → FunD K d.name d.qual d.params d.body d.scope (d.dvs K) (d.kws K) (He.fAd K d.at_) (fdf i)) : DOk (gbOf p P w K mg) (fiOf p K fdf) p.tab.mN where
  np := fun f => by
    show lk p.txt f 0 (fun t => t.ps.length) = (lk p.txt f [] (·.ps)).length
    unfold lk
    cases p.txt[f]? <;> rfl
  bind := fun f n hc => by
    have hc : (decide (f < p.defs.length) && decide (n = lk p.txt f 0 fun t => t.ps.length)) = true := hc
    simp only [Bool.and_eq_true, decide_eq_true_eq] at hc
    exact ⟨[], [], binds_of O F hc.1, .nil, fun _ _ _ => by show RVs _ _ _ [] []; unfold RVs; rfl⟩
  meth := fun cc k f hm => by
    obtain ⟨d, e1, e2⟩ := lk_case (show lk p.cls cc none (fun d => d.meth.lookup k) = some f from hm) (by simp)
    have q := cdOk_of (c.cls d (List.mem_of_getElem? e1))
    have e3 : (gbOf p P w K mg).cA cc = He.ga K d.name := by
      show He.ga K (lk p.cls cc "" (·.name)) = _
      rw [lk_some e1]
    have e4 := lookup_mem e2
    obtain ⟨h1, h2⟩ := q.meth _ e4
    rw [e3]
    have e5 : (fiOf p K fdf f).ad = He.ma K (He.ga K d.name) (nmOf p.mN k) := by
      show He.fAd K (p.at_ f) = _
      rw [h2]
      rfl
    rw [e5]
    refine ⟨q.cls (.inr fun z => by rw [z] at e4; cases e4), h1, fun x hx => ?_⟩
    obtain ⟨d', e6, e7⟩ := lk_case (show lk p.cls cc false (fun d => decide (x ∈ d.flds)) = true from hx) (by simp)
    rw [e1] at e6; cases e6
    exact (q.noat x (of_decide_eq_true e7)).2 _ e4
  init := fun cc f hm => by
    obtain ⟨d, e1, e2⟩ := lk_case (show lk p.cls cc none (fun d => d.init) = some f from hm) (by simp)
    have q := cdOk_of (c.cls d (List.mem_of_getElem? e1))
    have e3 : (gbOf p P w K mg).cA cc = He.ga K d.name := by
      show He.ga K (lk p.cls cc "" (·.name)) = _
      rw [lk_some e1]
    obtain ⟨h1, h2⟩ := q.init f e2
    have e5 : (fiOf p K fdf f).ad = He.ma K (He.ga K d.name) "__init__" := by
      show He.fAd K (p.at_ f) = _
      rw [h2]
      rfl
    rw [e3, e5]
    exact h1
  plain := fun cc hm => by
    obtain ⟨d, e1, e2⟩ := lk_case (show lk p.cls cc false (fun d => d.plain) = true from hm) (by simp)
    have e3 : (gbOf p P w K mg).cA cc = He.ga K d.name := by
      show He.ga K (lk p.cls cc "" (·.name)) = _
      rw [lk_some e1]
    rw [e3]
    exact (cdOk_of (c.cls d (List.mem_of_getElem? e1))).plain e2
theorem un200 {a b c : Nat} (h : a + b + 200 < c) : a + 64 < c := by omega
/-- at the entry -/
theorem RE_start {chi : Addr → Exn → Prop} {m : Mp} {n : Nat} {H : Hp} {N : List Str} {vs : List V} {ds : List D} (hv : RVs m n H vs ds) : RE chi m n H (L2.start N vs) (EW.start N.length ds) := by
  have hl := hv.len
  refine ⟨?_, fun i d q => ?_, fun i x q => ?_⟩
  · show (vs.map some ++ List.replicate (N.length - vs.length) none).length = (ds.map Slot.val ++ List.replicate (N.length - ds.length) Slot.non).length
    simp [hl]
  · have q : (ds.map Slot.val ++ List.replicate (N.length - ds.length) Slot.non)[i]? = some (.val d) := q
    by_cases hi : i < ds.length
    · rw [List.getElem?_append_left (by simpa using hi), List.getElem?_map] at q
      cases e : ds[i]? with
      | none => rw [e] at q; cases q
      | some d' =>
        rw [e] at q
        cases q
        obtain ⟨v, h1, h2⟩ := hv.at_ e
        refine ⟨v, ?_, h2⟩
        show (vs.map some ++ List.replicate (N.length - vs.length) none)[i]? = _
        rw [List.getElem?_append_left (by simp [hl, hi]), List.getElem?_map, h1]
        rfl
    · rw [List.getElem?_append_right (by simpa using hi), List.getElem?_replicate] at q
      split at q <;> cases q
  · have q : (ds.map Slot.val ++ List.replicate (N.length - ds.length) Slot.non)[i]? = some (.exc x) := q
    by_cases hi : i < ds.length
    · rw [List.getElem?_append_left (by simpa using hi), List.getElem?_map] at q
      cases e : ds[i]? with
      | none => rw [e] at q; cases q
      | some d' => rw [e] at q; cases q
    · rw [List.getElem?_append_right (by simpa using hi), List.getElem?_replicate] at q
      split at q <;> cases q
theorem callAll {L : Nat} (KX : K.In h) (NS : h.Ns mainGlobals mg) (O : p.Ok) (c : OkB p K) {fdf : Nat → FuncData} (F : ∀ (i : Nat) (d : He.DefD), p.defs[i]? = some d → FunD K d.name d.qual d.params d.body d.scope (d.dvs K) (d.kws K) (He.fAd K d.at_) (fdf i)) (base : Heap) :
    ∀ n, CalOk (gbOf p P w K mg) (fiOf p K fdf) ⟨p.prg, L, run p.prg L n⟩ (2 * n) base
  | 0 => ⟨rfl, fun f => ⟨fun vs H Q E ⟨_, m, s, ds, _, _, q⟩ => q.elim, fun A outer s H args us vs Q E _ _ _ _ ⟨_, m, s', ds, _, _, q⟩ => q.elim⟩⟩
  | n + 1 => by
    have ih := callAll (L := L) KX NS O c F base n
    have GO : GOk (gbOf p P w K mg) (fiOf p K fdf) p.tab ⟨p.prg, L, run p.prg L n⟩ (2 * n) base := ⟨tabOk KX NS c fdf, fOk c, dOk O c F, eOk c, ih⟩
    refine ⟨rfl, fun f => ?_⟩
    cases e2 : p.txt[f]? with
    | none =>
      have no : ∀ vs H Q E, ¬ spM (gbOf p P w K mg) ((gbOf p P w K mg).Q.np f) (run p.prg L (n + 1) f) vs H Q E := fun vs H Q E ⟨_, m, s, ds, _, _, q⟩ => by
        unfold run at q
        have e3 : p.prg.fns[f]? = none := by
          show (p.txt.map _)[f]? = none
          rw [List.getElem?_map, e2]
          rfl
        rw [e3] at q
        exact q
      exact ⟨fun vs H Q E q => (no _ _ _ _ q).elim, fun A outer s H args us vs Q E _ _ _ _ q => (no _ _ _ _ q).elim⟩
    | some t =>
      have hf : f < p.defs.length := by rw [← O.len]; exact (List.getElem?_eq_some_iff.mp e2).1
      obtain ⟨d, e1⟩ : ∃ d, p.defs[f]? = some d := ⟨p.defs[f], by simp [hf]⟩
      obtain ⟨h1, h2, h3, h4⟩ := ft_of (O.all f d t e1 e2)
      have e3 : p.prg.fns[f]? = some ⟨t.ps.length, t.N.length, t.cs⟩ := by
        show (p.txt.map _)[f]? = _
        rw [List.getElem?_map, e2]
        rfl
      have e4 : (gbOf p P w K mg).Q.np f = t.ps.length := lk_some e2
      have e5 : fiOf p K fdf f = ⟨He.fAd K d.at_, fdf f, t.ps⟩ := by
        show (⟨He.fAd K (lk p.defs f ("", none) (·.at_)), fdf f, lk p.txt f [] (·.ps)⟩ : FI) = _
        rw [lk_some e1, lk_some e2]
      rw [e5, e4]
      refine FunD.ok (N := t.N) (F f d e1) h3 (fun vs H Q E ⟨q, _⟩ => q) fun cdv A outer s H vs Q E hr ⟨hl, m, s0, ds, R, hv, Pq⟩ => ?_
      have e6 : run p.prg L (n + 1) f ds s0 = endOf (sems ⟨p.prg, L, run p.prg L n⟩ (start t.N.length ds) s0 t.cs) := by
        show (match p.prg.fns[f]? with
          | some q => if ds.length = q.np then endOf (sems ⟨p.prg, L, run p.prg L n⟩ (start q.ns ds) s0 q.body) else .no
          | none => .no) = _
        rw [e3]
        dsimp only
        rw [if_pos (by rw [← hv.len]; exact hl)]
      have Pq : Post (gbOf p P w K mg) m s0 H (fun x m' s' H' => ∀ cls dd, XR (gbOf p P w K mg) m' s'.length H' cls dd x → E cls dd H') (run p.prg L (n + 1) f ds s0) (fun d m' s' H' => ∀ v, RV m' s'.length H' v d → Q v H') := Pq
      rw [e6] at Pq
      let X := cxOf (L2.CX P w) P w K mg base t.N d.qual d.scope (He.fAd K d.at_) cdv A outer s H E
      let g : Pm := ⟨fun cls dd _ H' => E cls dd H', fun _ _ => False⟩
      have ox : XOk (gbOf p P w K mg) g X := ⟨rfl, rfl, rfl, rfl, takes_of (X := X) (E := E) (E₁ := fun e' s'' => L2.CX P w outer H s E e' s'') rfl rfl rfl rfl, fun _ _ _ _ z => z.elim⟩
      have ok : KOkS (gbOf p P w K mg) (2 * n) base ⟨d.scope, t.N, true, false, false⟩ g X := ⟨⟨ox, rfl, h3.kind, rfl, h3.nd, fun _ => rfl, fun _ => hr, un200 hr.un, rfl, fun _ _ _ z => z, fun _ _ => rfl⟩, rfl, rfl,
        fun _ => passes_of (X := X) (K := fun e s'' => L2.CX P w outer H s E e s'') (E₁ := fun e' s'' => L2.CX P w outer H s E e' s'') rfl⟩
      refine ⟨_, sSs GO t.cs ok h4, m, start t.N.length ds, s0, R, RE_start hv, ?_⟩
      show PostS (gbOf p P w K mg) g m s0 H (sems ⟨p.prg, L, run p.prg L n⟩ (start t.N.length ds) s0 t.cs) _
      cases q : sems ⟨p.prg, L, run p.prg L n⟩ (start t.N.length ds) s0 t.cs with
      | nx r s1 =>
        rw [q] at Pq
        exact fun m1 a1 H1 e1 R1 _ => Pq m1 H1 e1 R1 .non (by unfold RV; rfl)
      | rt d1 s1 =>
        rw [q] at Pq
        exact fun m1 H1 v e1 R1 hv1 => Pq m1 H1 e1 R1 v hv1
      | ex x r s1 =>
        rw [q] at Pq
        exact fun m1 a1 H1 cls dd e1 R1 _ hx => Pq m1 H1 e1 R1 cls dd hx
      | no => rw [q] at Pq; exact Pq
end

/-! ### a law's end -/
/-- what is left to show: the law's meaning says True -/
def LawHolds (p : PD) (f : Nat) (n L : Nat) : Prop := ∀ xs : List Int, xs.length ≤ 63 → (∀ z ∈ xs, Builtin.Int.intBits z ≤ 1048576) → ∃ s', run p.prg L n f [.ref 0] [.rol (xs.map .int)] = .ok (.bl true) s'
theorem rvs_ints {m : Mp} {n : Nat} {H : Hp} : ∀ xs : List Int, RVs m n H (xs.map V.int) (xs.map EW.D.int)
  | [] => by show RVs m n H [] []; unfold RVs; rfl
  | x :: xs => by
    show RVs m n H (V.int x :: xs.map V.int) (EW.D.int x :: xs.map EW.D.int)
    unfold RVs
    exact ⟨_, _, rfl, rfl, rvs_ints xs⟩
theorem law_sp {G : Gb} {H : Hp} {a : Addr} {xs : List Int} {f n L : Nat} {P' : Prg} (hl : xs.length ≤ 63) (hO : Only H) (hS : SqL G.K H a (xs.map V.int)) (h : ∃ s', run P' L n f [.ref 0] [.rol (xs.map .int)] = .ok (.bl true) s') :
    spM G 1 (run P' L n f) [.ref a] H (fun v _ => v = .bl true) fun _ _ _ => False := by
  obtain ⟨s', h⟩ := h
  refine ⟨rfl, fun _ => a, [.rol (xs.map .int)], [.ref 0], ⟨fun i j o o' h1 h2 h3 h4 _ => ?_, fun i o h1 => ?_⟩, ?_, ?_⟩
  · cases i with
    | zero => cases h1; cases h3
    | succ i => simp at h1
  · cases i with
    | zero =>
      cases h1
      refine ⟨by rw [List.length_map, sizeLine_eq]; omega, xs.map V.int, ?_, rvs_ints xs⟩
      rcases hS with (hS | hS) | hS
      · rcases hO a with q | ⟨o, ys, q⟩
        · rw [hS] at q; cases q
        · rw [hS] at q; cases q
      · exact .inl hS
      · exact .inr fun H' => .inr hS
    | succ i => simp at h1
  · unfold RVs
    refine ⟨.ref a, [], rfl, ?_, by unfold RVs; rfl⟩
    unfold RV
    exact ⟨by simp, rfl⟩
  · rw [h]
    intro m1 H1 e1 R1 v hv
    exact hv
/-- a law over the layer: the head's facts, the meaning -/
theorem walk_m {l : PySem.W.OpenLaw} {p : PD} {q : Program} {loose : List Str} {XP : (Str → Option Value) → Heap → Prop} {d : DefRec} {f n L : Nat} {x : Str}
    (hn : l.most = some 63) (hdf : d.params.defaults = []) (hr : Room (2 * n) callerA) (O : p.Ok) (hg : (d.name, f) ∈ p.gfn) (hps : (p.txt[f]?).map (·.ps) = some [x]) (h : LawHolds p f n L) :
    PySem.W.WalkO q loose XP (fun _ h => ∃ K : PySem.W.Frag, K.In h ∧ SaysM p K) l.row.toRowW d [] (fun f vs => PySem.call f vs) := by
  refine Att.attach_callB hn hdf fun w s₀ s₁ mg mb fa o pm cd doc a vs ns G Y ho hd hcd hmg hobj hints hlen hbits hgen => ?_
  obtain ⟨K, KX, c⟩ := Y
  have cb := okB_of c.okB
  have hf : f < p.txt.length := by
    cases e : p.txt[f]? with
    | none => rw [e] at hps; cases hps
    | some t => exact (List.getElem?_eq_some_iff.mp e).1
  have hf2 : f < p.defs.length := by rw [← O.len]; exact hf
  have hd0 : p.defs ≠ [] := fun z => by rw [z] at hf2; cases hf2
  obtain ⟨fdf, F⟩ := fns_of c hd0
  obtain ⟨t, e2⟩ : ∃ t, p.txt[f]? = some t := ⟨p.txt[f], by simp [hf]⟩
  rw [e2] at hps
  have hps : t.ps = [x] := Option.some.inj hps
  obtain ⟨g1, g2, g3⟩ := cb.gfn _ hg
  have e3 : fa = He.fAd K (p.at_ f) := by
    rw [g3]
    have := hmg.symm.trans (He.glo_ok KX G.T.g g1)
    cases this
    rfl
  have hb := binds_of O F hf2
  rw [lk_some e2, hps] at hb
  refine law_call (CX := L2.CX l.prog w) (k := 2 * n) (x := x) (fd := fdf f) (sp := spM (gbOf p l.prog w K mg) 1 (run p.prg L n f)) KX G.T.g G.T.b G.T.builtins G.T.nolimit hgen hobj hints (Nat.le_trans hlen (by rw [sizeLine_eq]; omega)) hr (fun base Kb nsb => ?_) (fun s u => ?_) (fun H hO hS => law_sp hlen hO hS (h ns hlen hbits)) ?_
  · have q := (callAll (P := l.prog) (w := w) (L := L) KX G.T.g O cb F base n).fn f
    have e5 : fiOf p K fdf f = ⟨fa, fdf f, [x]⟩ := by
      show (⟨He.fAd K (p.at_ f), fdf f, lk p.txt f [] (·.ps)⟩ : FI) = _
      rw [lk_some e2, hps, e3]
    have e4 : (gbOf p l.prog w K mg).Q.np f = 1 := by
      show lk p.txt f 0 (fun t => t.ps.length) = 1
      rw [lk_some e2, hps]
      rfl
    rw [e5, e4] at q
    exact q
  · obtain ⟨d1, e1⟩ : ∃ d, p.defs[f]? = some d := ⟨p.defs[f], by simp [hf2]⟩
    obtain ⟨h1, h2, _, _⟩ := ft_of (O.all f d1 t e1 e2)
    have qF := F f d1 e1
    have e4 : d1.dvs K = [] := by unfold He.DefD.dvs; rw [h2]; rfl
    rw [e4] at qF
    have := qF.bindsA (bd_ok h1) s [u] (by rw [hps]; rfl)
    rw [hps] at this
    exact this
  · intro H e s' z
    obtain ⟨_, _, _, _, _, _, _, _, _, _, _, _, z⟩ := z
    exact z
end EW

set_option Elab.async false
set_option linter.all false
set_option maxRecDepth 100000
/-! N layer 1: values as trees, how they lie in the store, what of them is owned. -/
namespace EW.EN
open PySem

mutual
/-- no place in it -/
def nr : D → Bool
  | .ref _ => false
  | .tup xs => nrs xs
  | .non => true
  | .bl _ => true
  | .int _ => true
  | .str _ => true
def nrs : List D → Bool
  | [] => true
  | x :: xs => nr x && nrs xs
end
def nrk : List (D × D) → Bool
  | [] => true
  | p :: r => nr p.1 && nr p.2 && nrk r

/-- a value as a tree; the Bool: the node is owned here alone -/
inductive T where
  | hole
  | p (x : D)
  | lp (o : Bool) (xs : List D)
  | dp (o : Bool) (kvs : List (D × D))
  | tup (o : Bool) (ts : List T)
  | lst (o : Bool) (ts : List T)
  | dic (o : Bool) (ks : List D) (ts : List T)
  | ins (o : Bool) (c : Nat) (fs : List Nat) (ts : List T)
  | rol (xs : List D)
  | cell (o : Bool)
  deriving Inhabited

def obv : Ob → List D
  | .lst ds => ds
  | .rol ds => ds
  | .dic kds => kds.map (·.2)
  | .ins _ fds => fds.map (·.2)

/-- the node of t is ob -/
def kd : T → Ob → Prop
  | .lp _ xs, ob => ob = .lst xs ∧ nrs xs = true
  | .dp _ kvs, ob => ob = .dic kvs ∧ nrk kvs = true
  | .rol xs, ob => ob = .rol xs ∧ nrs xs = true
  | .cell _, _ => True
  | .lst _ _, ob => ∃ ds, ob = .lst ds
  | .dic _ ks _, ob => ∃ kds, ob = .dic kds ∧ kds.map (·.1) = ks ∧ nrs ks = true
  | .ins _ c fs _, ob => ∃ fds, ob = .ins c fds ∧ fds.map (·.1) = fs
  | _, _ => False

mutual
def rep (s : Sto) : T → D → Prop
  | .hole, _ => True
  | .p x, d => d = x ∧ nr x = true
  | .tup _ ts, d => ∃ ds, d = .tup ds ∧ reps s ts ds
  | .lp o xs, d => ∃ m ob, d = .ref m ∧ s[m]? = some ob ∧ kd (.lp o xs) ob
  | .dp o kvs, d => ∃ m ob, d = .ref m ∧ s[m]? = some ob ∧ kd (.dp o kvs) ob
  | .rol xs, d => ∃ m ob, d = .ref m ∧ s[m]? = some ob ∧ kd (.rol xs) ob
  | .cell o, d => ∃ m ob, d = .ref m ∧ s[m]? = some ob ∧ kd (.cell o) ob
  | .lst o ts, d => ∃ m ob, d = .ref m ∧ s[m]? = some ob ∧ kd (.lst o ts) ob ∧ reps s ts (obv ob)
  | .dic o ks ts, d => ∃ m ob, d = .ref m ∧ s[m]? = some ob ∧ kd (.dic o ks ts) ob ∧ reps s ts (obv ob)
  | .ins o c fs ts, d => ∃ m ob, d = .ref m ∧ s[m]? = some ob ∧ kd (.ins o c fs ts) ob ∧ reps s ts (obv ob)
def reps (s : Sto) : List T → List D → Prop
  | [], ds => ds = []
  | t :: ts, ds => ∃ d r, ds = d :: r ∧ rep s t d ∧ reps s ts r
end
mutual
def inF (s : Sto) : T → D → Nat → Prop
  | .hole, _, _ => False
  | .p _, _, _ => False
  | .tup _ ts, d, a => ∃ ds, d = .tup ds ∧ inFs s ts ds a
  | .lp _ _, d, a => d = .ref a
  | .dp _ _, d, a => d = .ref a
  | .rol _, d, a => d = .ref a
  | .cell _, d, a => d = .ref a
  | .lst _ ts, d, a => d = .ref a ∨ ∃ m ob, d = .ref m ∧ s[m]? = some ob ∧ inFs s ts (obv ob) a
  | .dic _ _ ts, d, a => d = .ref a ∨ ∃ m ob, d = .ref m ∧ s[m]? = some ob ∧ inFs s ts (obv ob) a
  | .ins _ _ _ ts, d, a => d = .ref a ∨ ∃ m ob, d = .ref m ∧ s[m]? = some ob ∧ inFs s ts (obv ob) a
def inFs (s : Sto) : List T → List D → Nat → Prop
  | t :: ts, d :: ds, a => inF s t d a ∨ inFs s ts ds a
  | _, _, _ => False
end
mutual
def inO (s : Sto) : T → D → Nat → Prop
  | .hole, _, _ => False
  | .p _, _, _ => False
  | .rol _, _, _ => False
  | .tup o ts, d, a => o = true ∧ ∃ ds, d = .tup ds ∧ inOs s ts ds a
  | .lp o _, d, a => o = true ∧ d = .ref a
  | .dp o _, d, a => o = true ∧ d = .ref a
  | .cell o, d, a => o = true ∧ d = .ref a
  | .lst o ts, d, a => o = true ∧ (d = .ref a ∨ ∃ m ob, d = .ref m ∧ s[m]? = some ob ∧ inOs s ts (obv ob) a)
  | .dic o _ ts, d, a => o = true ∧ (d = .ref a ∨ ∃ m ob, d = .ref m ∧ s[m]? = some ob ∧ inOs s ts (obv ob) a)
  | .ins o _ _ ts, d, a => o = true ∧ (d = .ref a ∨ ∃ m ob, d = .ref m ∧ s[m]? = some ob ∧ inOs s ts (obv ob) a)
def inOs (s : Sto) : List T → List D → Nat → Prop
  | t :: ts, d :: ds, a => inO s t d a ∨ inOs s ts ds a
  | _, _, _ => False
end
mutual
/-- what is owned in it is owned once -/
def ex (s : Sto) : T → D → Prop
  | .hole, _ => True
  | .p _, _ => True
  | .rol _, _ => True
  | .lp _ _, _ => True
  | .dp _ _, _ => True
  | .cell _, _ => True
  | .tup o ts, d => o = true → ∃ ds, d = .tup ds ∧ exs s ts ds
  | .lst o ts, d => o = true → ∃ m ob, d = .ref m ∧ s[m]? = some ob ∧ (¬ inFs s ts (obv ob) m) ∧ exs s ts (obv ob)
  | .dic o _ ts, d => o = true → ∃ m ob, d = .ref m ∧ s[m]? = some ob ∧ (¬ inFs s ts (obv ob) m) ∧ exs s ts (obv ob)
  | .ins o _ _ ts, d => o = true → ∃ m ob, d = .ref m ∧ s[m]? = some ob ∧ (¬ inFs s ts (obv ob) m) ∧ exs s ts (obv ob)
def exs (s : Sto) : List T → List D → Prop
  | t :: ts, d :: ds => ex s t d ∧ (∀ a, inO s t d a → ¬ inFs s ts ds a) ∧ (∀ a, inOs s ts ds a → ¬ inF s t d a) ∧ exs s ts ds
  | _, _ => True
end
/-- the node's Bool -/
def T.ow : T → Bool
  | .lp o _ => o
  | .dp o _ => o
  | .cell o => o
  | .tup o _ => o
  | .lst o _ => o
  | .dic o _ _ => o
  | .ins o _ _ _ => o
  | _ => false
def frz : T → T
  | .hole => .hole
  | .p x => .p x
  | .rol xs => .rol xs
  | .lp _ xs => .lp false xs
  | .dp _ kvs => .dp false kvs
  | .cell _ => .cell false
  | .tup _ ts => .tup false ts
  | .lst _ ts => .lst false ts
  | .dic _ ks ts => .dic false ks ts
  | .ins _ c fs ts => .ins false c fs ts
mutual
def dOwn : T → Bool
  | .hole => false
  | .p _ => true
  | .rol _ => false
  | .lp o _ => o
  | .dp o _ => o
  | .cell o => o
  | .tup o ts => o && dOwns ts
  | .lst o ts => o && dOwns ts
  | .dic o _ ts => o && dOwns ts
  | .ins o _ _ ts => o && dOwns ts
def dOwns : List T → Bool
  | [] => true
  | t :: ts => dOwn t && dOwns ts
end
/-- a container with children -/
inductive NodeT : T → List T → Prop where
  | lst (o ts) : NodeT (.lst o ts) ts
  | dic (o ks ts) : NodeT (.dic o ks ts) ts
  | ins (o c fs ts) : NodeT (.ins o c fs ts) ts
/-- a container without -/
inductive FlatT : T → Prop where
  | lp (o xs) : FlatT (.lp o xs)
  | dp (o kvs) : FlatT (.dp o kvs)
  | rol (xs) : FlatT (.rol xs)
  | cell (o) : FlatT (.cell o)
section
variable {s s' : Sto} {t : T} {ts : List T} {d : D} {a : Nat}
theorem NodeT.rep (h : NodeT t ts) : EN.rep s t d ↔ ∃ m ob, d = .ref m ∧ s[m]? = some ob ∧ kd t ob ∧ reps s ts (obv ob) := by
  cases h <;> (unfold EN.rep; exact Iff.rfl)
theorem NodeT.inF (h : NodeT t ts) : EN.inF s t d a ↔ (d = .ref a ∨ ∃ m ob, d = .ref m ∧ s[m]? = some ob ∧ inFs s ts (obv ob) a) := by
  cases h <;> (unfold EN.inF; exact Iff.rfl)
theorem NodeT.inO (h : NodeT t ts) : EN.inO s t d a ↔ (t.ow = true ∧ (d = .ref a ∨ ∃ m ob, d = .ref m ∧ s[m]? = some ob ∧ inOs s ts (obv ob) a)) := by
  cases h <;> (unfold EN.inO T.ow; exact Iff.rfl)
theorem NodeT.ex (h : NodeT t ts) : EN.ex s t d ↔ (t.ow = true → ∃ m ob, d = .ref m ∧ s[m]? = some ob ∧ (¬ inFs s ts (obv ob) m) ∧ exs s ts (obv ob)) := by
  cases h <;> (unfold EN.ex T.ow; exact Iff.rfl)
theorem NodeT.dOwn (h : NodeT t ts) : EN.dOwn t = (t.ow && dOwns ts) := by
  cases h <;> (unfold EN.dOwn T.ow; rfl)
theorem FlatT.rep (h : FlatT t) : EN.rep s t d ↔ ∃ m ob, d = .ref m ∧ s[m]? = some ob ∧ kd t ob := by
  cases h <;> (unfold EN.rep; exact Iff.rfl)
theorem FlatT.inF (h : FlatT t) : EN.inF s t d a ↔ d = .ref a := by
  cases h <;> (unfold EN.inF; exact Iff.rfl)
theorem FlatT.inO (h : FlatT t) : EN.inO s t d a ↔ (t.ow = true ∧ d = .ref a) := by
  cases h with
  | rol xs => unfold EN.inO T.ow; exact ⟨False.elim, fun q => Bool.noConfusion q.1⟩
  | _ => unfold EN.inO T.ow; exact Iff.rfl
theorem FlatT.ex (h : FlatT t) : EN.ex s t d := by
  cases h <;> (unfold EN.ex; trivial)
theorem FlatT.dOwn (h : FlatT t) : EN.dOwn t = t.ow := by
  cases h <;> (unfold EN.dOwn T.ow; rfl)
end
/-! ### owned is in -/
section
variable {s s' : Sto}
mutual
theorem inO_F : ∀ (t : T) (d : D) (a : Nat), inO s t d a → inF s t d a
  | .hole, _, _, h => by unfold inO at h; exact h.elim
  | .p _, _, _, h => by unfold inO at h; exact h.elim
  | .rol _, _, _, h => by unfold inO at h; exact h.elim
  | .lp o xs, _, _, h => (FlatT.lp o xs).inF.mpr ((FlatT.lp o xs).inO.mp h).2
  | .dp o kvs, _, _, h => (FlatT.dp o kvs).inF.mpr ((FlatT.dp o kvs).inO.mp h).2
  | .cell o, _, _, h => (FlatT.cell o).inF.mpr ((FlatT.cell o).inO.mp h).2
  | .tup o ts, _, _, h => by
    unfold inO at h; unfold inF
    obtain ⟨_, ds, e, q⟩ := h
    exact ⟨ds, e, inOs_F ts ds _ q⟩
  | .lst o ts, _, _, h => (NodeT.lst o ts).inF.mpr (((NodeT.lst o ts).inO.mp h).2.imp id fun ⟨m, ob, e, q, z⟩ => ⟨m, ob, e, q, inOs_F ts _ _ z⟩)
  | .dic o ks ts, _, _, h => (NodeT.dic o ks ts).inF.mpr (((NodeT.dic o ks ts).inO.mp h).2.imp id fun ⟨m, ob, e, q, z⟩ => ⟨m, ob, e, q, inOs_F ts _ _ z⟩)
  | .ins o c fs ts, _, _, h => (NodeT.ins o c fs ts).inF.mpr (((NodeT.ins o c fs ts).inO.mp h).2.imp id fun ⟨m, ob, e, q, z⟩ => ⟨m, ob, e, q, inOs_F ts _ _ z⟩)
theorem inOs_F : ∀ (ts : List T) (ds : List D) (a : Nat), inOs s ts ds a → inFs s ts ds a
  | [], _, _, h => by unfold inOs at h; exact h.elim
  | t :: ts, [], _, h => by unfold inOs at h; exact h.elim
  | t :: ts, d :: ds, _, h => by
    unfold inOs at h; unfold inFs
    exact h.imp (inO_F t d _) (inOs_F ts ds _)
end
/-! ### the store changes elsewhere -/
structure Sm (s s' : Sto) (t : T) (d : D) : Prop where
  rp : rep s t d → rep s' t d
  fu : ∀ a, inF s' t d a ↔ inF s t d a
  ow : ∀ a, inO s' t d a ↔ inO s t d a
  ex : ex s t d → EN.ex s' t d
structure Sms (s s' : Sto) (ts : List T) (ds : List D) : Prop where
  rp : reps s ts ds → reps s' ts ds
  fu : ∀ a, inFs s' ts ds a ↔ inFs s ts ds a
  ow : ∀ a, inOs s' ts ds a ↔ inOs s ts ds a
  ex : exs s ts ds → exs s' ts ds
theorem FlatT.sm {t : T} {d : D} (h : FlatT t) (k : ∀ a, EN.inF s t d a → s'[a]? = s[a]?) : Sm s s' t d where
  rp := fun q => by
    obtain ⟨m, ob, e, q1, q2⟩ := h.rep.mp q
    exact h.rep.mpr ⟨m, ob, e, (k m (h.inF.mpr e)).trans q1, q2⟩
  fu := fun a => h.inF.trans h.inF.symm
  ow := fun a => h.inO.trans h.inO.symm
  ex := fun _ => h.ex
theorem NodeT.sm {t : T} {ts : List T} {d : D} (h : NodeT t ts) (k : ∀ a, EN.inF s t d a → s'[a]? = s[a]?)
    (ih : ∀ ds, (∀ a, inFs s ts ds a → s'[a]? = s[a]?) → Sms s s' ts ds) : Sm s s' t d := by
  have at_ : ∀ m, d = .ref m → s'[m]? = s[m]? := fun m e => k m (h.inF.mpr (.inl e))
  have kid : ∀ m ob, d = .ref m → s[m]? = some ob → Sms s s' ts (obv ob) := fun m ob e q => ih _ fun a z => k a (h.inF.mpr (.inr ⟨m, ob, e, q, z⟩))
  refine ⟨fun q => ?_, fun a => ?_, fun a => ?_, fun q => ?_⟩
  · obtain ⟨m, ob, e, q1, q2, q3⟩ := h.rep.mp q
    exact h.rep.mpr ⟨m, ob, e, (at_ m e).trans q1, q2, (kid m ob e q1).rp q3⟩
  · refine h.inF.trans (Iff.trans ?_ h.inF.symm)
    refine ⟨Or.imp id fun ⟨m, ob, e, q, z⟩ => ?_, Or.imp id fun ⟨m, ob, e, q, z⟩ => ?_⟩
    · rw [at_ m e] at q
      exact ⟨m, ob, e, q, ((kid m ob e q).fu a).mp z⟩
    · exact ⟨m, ob, e, (at_ m e).trans q, ((kid m ob e q).fu a).mpr z⟩
  · refine h.inO.trans (Iff.trans ?_ h.inO.symm)
    refine and_congr Iff.rfl ⟨Or.imp id fun ⟨m, ob, e, q, z⟩ => ?_, Or.imp id fun ⟨m, ob, e, q, z⟩ => ?_⟩
    · rw [at_ m e] at q
      exact ⟨m, ob, e, q, ((kid m ob e q).ow a).mp z⟩
    · exact ⟨m, ob, e, (at_ m e).trans q, ((kid m ob e q).ow a).mpr z⟩
  · refine h.ex.mpr fun o => ?_
    obtain ⟨m, ob, e, q1, q2, q3⟩ := h.ex.mp q o
    exact ⟨m, ob, e, (at_ m e).trans q1, fun z => q2 (((kid m ob e q1).fu m).mp z), (kid m ob e q1).ex q3⟩
mutual
theorem sm_of : ∀ (t : T) (d : D), (∀ a, inF s t d a → s'[a]? = s[a]?) → Sm s s' t d
  | .hole, d, _ => ⟨fun _ => by unfold rep; trivial, fun a => by unfold inF; exact Iff.rfl, fun a => by unfold inO; exact Iff.rfl, fun _ => by unfold ex; trivial⟩
  | .p x, d, _ => ⟨fun h => by unfold rep at h ⊢; exact h, fun a => by unfold inF; exact Iff.rfl, fun a => by unfold inO; exact Iff.rfl, fun _ => by unfold ex; trivial⟩
  | .rol xs, d, k => (FlatT.rol xs).sm k
  | .lp o xs, d, k => (FlatT.lp o xs).sm k
  | .dp o kvs, d, k => (FlatT.dp o kvs).sm k
  | .cell o, d, k => (FlatT.cell o).sm k
  | .lst o ts, d, k => (NodeT.lst o ts).sm k fun ds => sms_of ts ds
  | .dic o ks ts, d, k => (NodeT.dic o ks ts).sm k fun ds => sms_of ts ds
  | .ins o c fs ts, d, k => (NodeT.ins o c fs ts).sm k fun ds => sms_of ts ds
  | .tup o ts, d, k => by
    have kid : ∀ ds, d = .tup ds → Sms s s' ts ds := fun ds e => sms_of ts ds fun a z => k a (by unfold inF; exact ⟨ds, e, z⟩)
    refine ⟨fun h => ?_, fun a => ?_, fun a => ?_, fun h => ?_⟩
    · unfold rep at h ⊢
      obtain ⟨ds, e, q⟩ := h
      exact ⟨ds, e, (kid ds e).rp q⟩
    · unfold inF
      exact ⟨fun ⟨ds, e, q⟩ => ⟨ds, e, ((kid ds e).fu a).mp q⟩, fun ⟨ds, e, q⟩ => ⟨ds, e, ((kid ds e).fu a).mpr q⟩⟩
    · unfold inO
      exact and_congr Iff.rfl ⟨fun ⟨ds, e, q⟩ => ⟨ds, e, ((kid ds e).ow a).mp q⟩, fun ⟨ds, e, q⟩ => ⟨ds, e, ((kid ds e).ow a).mpr q⟩⟩
    · unfold ex at h ⊢
      intro o
      obtain ⟨ds, e, q⟩ := h o
      exact ⟨ds, e, (kid ds e).ex q⟩
theorem sms_of : ∀ (ts : List T) (ds : List D), (∀ a, inFs s ts ds a → s'[a]? = s[a]?) → Sms s s' ts ds
  | [], ds, _ => ⟨(fun h => (by unfold reps at h ⊢; exact h)), (fun a => (by unfold inFs; exact Iff.rfl)), (fun a => (by unfold inOs; exact Iff.rfl)), (fun _ => (by unfold exs; trivial))⟩
  | t :: ts, [], _ => ⟨(fun h => (by unfold reps at h; obtain ⟨_, _, e, _⟩ := h; cases e)), (fun a => (by unfold inFs; exact Iff.rfl)), (fun a => (by unfold inOs; exact Iff.rfl)), (fun _ => (by unfold exs; trivial))⟩
  | t :: ts, d :: ds, k => by
    have a1 := sm_of t d fun a z => k a (by unfold inFs; exact .inl z)
    have a2 := sms_of ts ds fun a z => k a (by unfold inFs; exact .inr z)
    refine ⟨fun h => ?_, fun a => ?_, fun a => ?_, fun h => ?_⟩
    · unfold reps at h ⊢
      obtain ⟨e, r, q1, q2, q3⟩ := h
      cases q1
      exact ⟨_, _, rfl, a1.rp q2, a2.rp q3⟩
    · unfold inFs
      exact or_congr (a1.fu a) (a2.fu a)
    · unfold inOs
      exact or_congr (a1.ow a) (a2.ow a)
    · unfold exs at h ⊢
      refine ⟨a1.ex h.1, fun a q z => h.2.1 a ((a1.ow a).mp q) ((a2.fu a).mp z), fun a q z => h.2.2.1 a ((a2.ow a).mp q) ((a1.fu a).mp z), a2.ex h.2.2.2⟩
end
/-! ### what is in it is below the store's end -/
theorem lt_some {m : Nat} {ob : Ob} (h : s[m]? = some ob) : m < s.length := (List.getElem?_eq_some_iff.mp h).1
theorem NodeT.lt {t : T} {ts : List T} {d : D} {a : Nat} (h : NodeT t ts) (ih : ∀ ds, reps s ts ds → inFs s ts ds a → a < s.length) (r : EN.rep s t d) (i : EN.inF s t d a) : a < s.length := by
  obtain ⟨m, ob, e, q1, q2, q3⟩ := h.rep.mp r
  rcases h.inF.mp i with z | ⟨m', ob', e', z1, z2⟩
  · rw [e] at z; cases z; exact lt_some q1
  · rw [e] at e'; cases e'
    rw [q1] at z1; cases z1
    exact ih _ q3 z2
mutual
theorem inF_lt : ∀ (t : T) (d : D) (a : Nat), rep s t d → inF s t d a → a < s.length
  | .hole, _, _, _, h => by unfold inF at h; exact h.elim
  | .p _, _, _, _, h => by unfold inF at h; exact h.elim
  | .rol xs, _, _, r, h => by
    obtain ⟨m, ob, e, q1, _⟩ := (FlatT.rol xs).rep.mp r
    rw [(FlatT.rol xs).inF, e] at h; cases h; exact lt_some q1
  | .lp o xs, _, _, r, h => by
    obtain ⟨m, ob, e, q1, _⟩ := (FlatT.lp o xs).rep.mp r
    rw [(FlatT.lp o xs).inF, e] at h; cases h; exact lt_some q1
  | .dp o xs, _, _, r, h => by
    obtain ⟨m, ob, e, q1, _⟩ := (FlatT.dp o xs).rep.mp r
    rw [(FlatT.dp o xs).inF, e] at h; cases h; exact lt_some q1
  | .cell o, _, _, r, h => by
    obtain ⟨m, ob, e, q1, _⟩ := (FlatT.cell o).rep.mp r
    rw [(FlatT.cell o).inF, e] at h; cases h; exact lt_some q1
  | .lst o ts, d, a, r, h => (NodeT.lst o ts).lt (fun ds => inFs_lt ts ds a) r h
  | .dic o ks ts, d, a, r, h => (NodeT.dic o ks ts).lt (fun ds => inFs_lt ts ds a) r h
  | .ins o c fs ts, d, a, r, h => (NodeT.ins o c fs ts).lt (fun ds => inFs_lt ts ds a) r h
  | .tup o ts, d, a, r, h => by
    unfold rep at r; unfold inF at h
    obtain ⟨ds, e, q⟩ := r
    obtain ⟨ds', e', z⟩ := h
    rw [e] at e'; cases e'
    exact inFs_lt ts ds a q z
theorem inFs_lt : ∀ (ts : List T) (ds : List D) (a : Nat), reps s ts ds → inFs s ts ds a → a < s.length
  | [], _, _, _, h => by unfold inFs at h; exact h.elim
  | t :: ts, [], _, _, h => by unfold inFs at h; exact h.elim
  | t :: ts, d :: ds, a, r, h => by
    unfold reps at r; unfold inFs at h
    obtain ⟨_, _, q1, q2, q3⟩ := r
    cases q1
    exact h.elim (inF_lt t d a q2) (inFs_lt ts ds a q3)
end
/-! ### frozen -/
theorem rep_frz {t : T} {d : D} : rep s (frz t) d ↔ rep s t d := by
  cases t <;> (unfold frz rep; first | exact Iff.rfl | (unfold kd; exact Iff.rfl))
theorem inF_frz {t : T} {d : D} {a : Nat} : inF s (frz t) d a ↔ inF s t d a := by
  cases t <;> (unfold frz inF; exact Iff.rfl)
/-- nothing is owned in it -/
def nO (t : T) : Bool := !t.ow
theorem inO_ow {t : T} {d : D} {a : Nat} (h : inO s t d a) : t.ow = true := by
  cases t <;> (unfold inO at h; first | exact h.elim | exact h.1)
theorem nO_inO {t : T} {d : D} {a : Nat} (h : nO t = true) : ¬ inO s t d a := fun q => by
  unfold nO at h
  rw [inO_ow q] at h
  cases h
theorem nO_ex {t : T} {d : D} (h : nO t = true) : ex s t d := by
  unfold nO at h
  cases t <;> (unfold ex; first | trivial | (intro o; unfold T.ow at h; rw [o] at h; cases h))
theorem nO_frz (t : T) : nO (frz t) = true := by cases t <;> rfl
theorem frz_nO {t : T} (h : nO t = true) : frz t = t := by
  unfold nO at h
  cases t <;> first | rfl | (unfold T.ow at h; rename_i o; cases o <;> first | rfl | cases h) | (unfold T.ow at h; rename_i o _; cases o <;> first | rfl | cases h) | (unfold T.ow at h; rename_i o _ _; cases o <;> first | rfl | cases h) | (unfold T.ow at h; rename_i o _ _ _; cases o <;> first | rfl | cases h)
/-! ### owned through and through -/
theorem NodeT.dO {t : T} {ts : List T} {d : D} {a : Nat} (h : NodeT t ts) (q : EN.dOwn t = true) (ih : ∀ ds, dOwns ts = true → inFs s ts ds a → inOs s ts ds a) (i : EN.inF s t d a) : EN.inO s t d a := by
  rw [h.dOwn, Bool.and_eq_true] at q
  exact h.inO.mpr ⟨q.1, (h.inF.mp i).imp id fun ⟨m, ob, e, z1, z2⟩ => ⟨m, ob, e, z1, ih _ q.2 z2⟩⟩
mutual
theorem dOwn_O : ∀ (t : T) (d : D) (a : Nat), dOwn t = true → inF s t d a → inO s t d a
  | .hole, _, _, _, h => by unfold inF at h; exact h.elim
  | .p _, _, _, _, h => by unfold inF at h; exact h.elim
  | .rol _, _, _, q, _ => by unfold dOwn at q; cases q
  | .lp o xs, _, _, q, h => (FlatT.lp o xs).inO.mpr ⟨(FlatT.lp o xs).dOwn ▸ q, (FlatT.lp o xs).inF.mp h⟩
  | .dp o xs, _, _, q, h => (FlatT.dp o xs).inO.mpr ⟨(FlatT.dp o xs).dOwn ▸ q, (FlatT.dp o xs).inF.mp h⟩
  | .cell o, _, _, q, h => (FlatT.cell o).inO.mpr ⟨(FlatT.cell o).dOwn ▸ q, (FlatT.cell o).inF.mp h⟩
  | .lst o ts, d, a, q, h => (NodeT.lst o ts).dO q (fun ds => dOwns_O ts ds a) h
  | .dic o ks ts, d, a, q, h => (NodeT.dic o ks ts).dO q (fun ds => dOwns_O ts ds a) h
  | .ins o c fs ts, d, a, q, h => (NodeT.ins o c fs ts).dO q (fun ds => dOwns_O ts ds a) h
  | .tup o ts, d, a, q, h => by
    unfold dOwn at q; unfold inF at h; unfold inO
    rw [Bool.and_eq_true] at q
    obtain ⟨ds, e, z⟩ := h
    exact ⟨q.1, ds, e, dOwns_O ts ds a q.2 z⟩
theorem dOwns_O : ∀ (ts : List T) (ds : List D) (a : Nat), dOwns ts = true → inFs s ts ds a → inOs s ts ds a
  | [], _, _, _, h => by unfold inFs at h; exact h.elim
  | t :: ts, [], _, _, h => by unfold inFs at h; exact h.elim
  | t :: ts, d :: ds, a, q, h => by
    unfold dOwns at q; unfold inFs at h; unfold inOs
    rw [Bool.and_eq_true] at q
    exact h.imp (dOwn_O t d a q.1) (dOwns_O ts ds a q.2)
end
/-! ### lists of things, by index -/
theorem inFs_cons {t : T} {ts : List T} {d : D} {ds : List D} {a : Nat} : inFs s (t :: ts) (d :: ds) a ↔ inF s t d a ∨ inFs s ts ds a := by
  rw [inFs]
theorem inOs_cons {t : T} {ts : List T} {d : D} {ds : List D} {a : Nat} : inOs s (t :: ts) (d :: ds) a ↔ inO s t d a ∨ inOs s ts ds a := by
  rw [inOs]
theorem exs_cons {t : T} {ts : List T} {d : D} {ds : List D} : exs s (t :: ts) (d :: ds) ↔ (ex s t d ∧ (∀ a, inO s t d a → ¬ inFs s ts ds a) ∧ (∀ a, inOs s ts ds a → ¬ inF s t d a) ∧ exs s ts ds) := by
  rw [exs]
theorem inFs_nil {ds : List D} {a : Nat} : ¬ inFs s [] ds a := by unfold inFs; exact id
theorem inOs_nil {ds : List D} {a : Nat} : ¬ inOs s [] ds a := by unfold inOs; exact id
theorem exs_nil {ds : List D} : exs s [] ds := by unfold exs; trivial
theorem reps_nil : reps s [] [] := by unfold reps; rfl
theorem reps_cons {t : T} {ts : List T} {d : D} {ds : List D} : reps s (t :: ts) (d :: ds) ↔ rep s t d ∧ reps s ts ds := by
  rw [reps]
  exact ⟨fun ⟨_, _, e, h1, h2⟩ => (by cases e; exact ⟨h1, h2⟩), fun ⟨h1, h2⟩ => ⟨_, _, rfl, h1, h2⟩⟩
theorem reps_len : ∀ {ts : List T} {ds : List D}, reps s ts ds → ts.length = ds.length
  | [], ds, h => by unfold reps at h; rw [h]; rfl
  | t :: ts, ds, h => by
    unfold reps at h
    obtain ⟨d, r, e, _, q⟩ := h
    rw [e, List.length_cons, List.length_cons, reps_len q]
theorem reps_at : ∀ {ts : List T} {ds : List D}, reps s ts ds ↔ ts.length = ds.length ∧ ∀ (i : Nat) (t : T) (d : D), ts[i]? = some t → ds[i]? = some d → rep s t d
  | [], ds => by
    unfold reps
    exact ⟨fun h => by rw [h]; exact ⟨rfl, fun i t d h => by simp at h⟩, fun h => List.length_eq_zero_iff.mp h.1.symm⟩
  | t :: ts, [] => by
    unfold reps
    exact ⟨fun ⟨_, _, e, _⟩ => (by cases e), fun h => (by cases h.1)⟩
  | t :: ts, d :: ds => by
    unfold reps
    constructor
    · rintro ⟨_, _, e, h1, h2⟩
      cases e
      obtain ⟨z1, z2⟩ := reps_at.mp h2
      refine ⟨by simp [z1], fun i t' d' q1 q2 => ?_⟩
      cases i with
      | zero => cases q1; cases q2; exact h1
      | succ i => exact z2 i t' d' q1 q2
    · rintro ⟨h1, h2⟩
      exact ⟨_, _, rfl, h2 0 t d rfl rfl, reps_at.mpr ⟨by simpa using h1, fun i t' d' q1 q2 => h2 (i + 1) t' d' q1 q2⟩⟩
theorem inFs_at : ∀ {ts : List T} {ds : List D} {a : Nat}, inFs s ts ds a ↔ ∃ (i : Nat) (t : T) (d : D), ts[i]? = some t ∧ ds[i]? = some d ∧ inF s t d a
  | [], ds, a => by unfold inFs; exact ⟨False.elim, fun ⟨i, t, d, h, _⟩ => by simp at h⟩
  | t :: ts, [], a => by unfold inFs; exact ⟨False.elim, fun ⟨i, t, d, _, h, _⟩ => by simp at h⟩
  | t :: ts, d :: ds, a => by
    unfold inFs
    constructor
    · rintro (h | h)
      · exact ⟨0, t, d, rfl, rfl, h⟩
      · obtain ⟨i, t', d', h1, h2, h3⟩ := inFs_at.mp h
        exact ⟨i + 1, t', d', h1, h2, h3⟩
    · rintro ⟨i, t', d', h1, h2, h3⟩
      cases i with
      | zero => cases h1; cases h2; exact .inl h3
      | succ i => exact .inr (inFs_at.mpr ⟨i, t', d', h1, h2, h3⟩)
theorem inOs_at : ∀ {ts : List T} {ds : List D} {a : Nat}, inOs s ts ds a ↔ ∃ (i : Nat) (t : T) (d : D), ts[i]? = some t ∧ ds[i]? = some d ∧ inO s t d a
  | [], ds, a => by unfold inOs; exact ⟨False.elim, fun ⟨i, t, d, h, _⟩ => by simp at h⟩
  | t :: ts, [], a => by unfold inOs; exact ⟨False.elim, fun ⟨i, t, d, _, h, _⟩ => by simp at h⟩
  | t :: ts, d :: ds, a => by
    unfold inOs
    constructor
    · rintro (h | h)
      · exact ⟨0, t, d, rfl, rfl, h⟩
      · obtain ⟨i, t', d', h1, h2, h3⟩ := inOs_at.mp h
        exact ⟨i + 1, t', d', h1, h2, h3⟩
    · rintro ⟨i, t', d', h1, h2, h3⟩
      cases i with
      | zero => cases h1; cases h2; exact .inl h3
      | succ i => exact .inr (inOs_at.mpr ⟨i, t', d', h1, h2, h3⟩)
theorem exs_at : ∀ {ts : List T} {ds : List D}, exs s ts ds ↔ (∀ (i : Nat) (t : T) (d : D), ts[i]? = some t → ds[i]? = some d → ex s t d) ∧
    ∀ (i j : Nat) (t : T) (d : D) (u : T) (e : D), i ≠ j → ts[i]? = some t → ds[i]? = some d → ts[j]? = some u → ds[j]? = some e → ∀ a, inO s t d a → ¬ inF s u e a
  | [], ds => by unfold exs; exact ⟨fun _ => ⟨fun i t d h => by simp at h, fun i j t d u e _ h => by simp at h⟩, fun _ => trivial⟩
  | t :: ts, [] => by unfold exs; exact ⟨fun _ => ⟨fun i t d _ h => by simp at h, fun i j t d u e _ _ h => by simp at h⟩, fun _ => trivial⟩
  | t :: ts, d :: ds => by
    unfold exs
    constructor
    · rintro ⟨h1, h2, h3, h4⟩
      obtain ⟨z1, z2⟩ := exs_at.mp h4
      refine ⟨fun i t' d' q1 q2 => ?_, fun i j t1 d1 t2 d2 ne q1 q2 q3 q4 a o f => ?_⟩
      · cases i with
        | zero => cases q1; cases q2; exact h1
        | succ i => exact z1 i t' d' q1 q2
      · cases i with
        | zero =>
          cases q1; cases q2
          cases j with
          | zero => exact ne rfl
          | succ j => exact h2 a o (inFs_at.mpr ⟨j, t2, d2, q3, q4, f⟩)
        | succ i =>
          cases j with
          | zero =>
            cases q3; cases q4
            exact h3 a (inOs_at.mpr ⟨i, t1, d1, q1, q2, o⟩) f
          | succ j => exact z2 i j t1 d1 t2 d2 (fun e => ne (by rw [e])) q1 q2 q3 q4 a o f
    · rintro ⟨h1, h2⟩
      refine ⟨h1 0 t d rfl rfl, fun a o f => ?_, fun a o f => ?_, exs_at.mpr ⟨fun i t' d' q1 q2 => h1 (i + 1) t' d' q1 q2, fun i j t1 d1 t2 d2 ne q1 q2 q3 q4 => h2 (i + 1) (j + 1) t1 d1 t2 d2 (fun e => ne (by omega)) q1 q2 q3 q4⟩⟩
      · obtain ⟨j, t2, d2, q3, q4, f⟩ := inFs_at.mp f
        exact h2 0 (j + 1) t d t2 d2 (by omega) rfl rfl q3 q4 a o f
      · obtain ⟨i, t1, d1, q1, q2, o⟩ := inOs_at.mp o
        exact h2 (i + 1) 0 t1 d1 t d (by omega) q1 q2 rfl rfl a o f
theorem reps_app : ∀ {ts us : List T} {ds es : List D}, reps s ts ds → reps s us es → reps s (ts ++ us) (ds ++ es)
  | [], us, ds, es, h1, h2 => by unfold reps at h1; rw [h1]; exact h2
  | t :: ts, us, ds, es, h1, h2 => by
    unfold reps at h1
    obtain ⟨d, r, e, q1, q2⟩ := h1
    rw [e]
    show reps s (t :: (ts ++ us)) (d :: (r ++ es))
    unfold reps
    exact ⟨d, _, rfl, q1, reps_app q2 h2⟩
theorem reps_app_inv : ∀ {ts us : List T} {ds es : List D}, ts.length = ds.length → reps s (ts ++ us) (ds ++ es) → reps s ts ds ∧ reps s us es
  | [], us, [], es, _, h => ⟨by unfold reps; rfl, h⟩
  | t :: ts, us, d :: ds, es, hl, h => by
    have h : reps s (t :: (ts ++ us)) (d :: (ds ++ es)) := h
    unfold reps at h
    obtain ⟨_, _, e, q1, q2⟩ := h
    cases e
    obtain ⟨z1, z2⟩ := reps_app_inv (by simpa using hl) q2
    refine ⟨?_, z2⟩
    unfold reps
    exact ⟨_, _, rfl, q1, z1⟩
theorem inFs_app : ∀ {ts us : List T} {ds es : List D} {a : Nat}, ts.length = ds.length → (inFs s (ts ++ us) (ds ++ es) a ↔ inFs s ts ds a ∨ inFs s us es a)
  | [], us, [], es, a, _ => ⟨.inr, fun h => h.elim (fun q => (inFs_nil q).elim) id⟩
  | t :: ts, us, d :: ds, es, a, hl => by
    show inFs s (t :: (ts ++ us)) (d :: (ds ++ es)) a ↔ inFs s (t :: ts) (d :: ds) a ∨ _
    rw [inFs_cons, inFs_cons, inFs_app (ts := ts) (ds := ds) (by simpa using hl), or_assoc]
theorem inOs_app : ∀ {ts us : List T} {ds es : List D} {a : Nat}, ts.length = ds.length → (inOs s (ts ++ us) (ds ++ es) a ↔ inOs s ts ds a ∨ inOs s us es a)
  | [], us, [], es, a, _ => ⟨.inr, fun h => h.elim (fun q => (inOs_nil q).elim) id⟩
  | t :: ts, us, d :: ds, es, a, hl => by
    show inOs s (t :: (ts ++ us)) (d :: (ds ++ es)) a ↔ inOs s (t :: ts) (d :: ds) a ∨ _
    rw [inOs_cons, inOs_cons, inOs_app (ts := ts) (ds := ds) (by simpa using hl), or_assoc]
theorem exs_app : ∀ {ts us : List T} {ds es : List D}, ts.length = ds.length → (exs s (ts ++ us) (ds ++ es) ↔ exs s ts ds ∧ exs s us es ∧ (∀ a, inOs s ts ds a → ¬ inFs s us es a) ∧ ∀ a, inOs s us es a → ¬ inFs s ts ds a)
  | [], us, [], es, _ => ⟨fun h => ⟨exs_nil, h, fun a z => (inOs_nil z).elim, fun a _ z => inFs_nil z⟩, fun h => h.2.1⟩
  | t :: ts, us, d :: ds, es, hl => by
    have hl : ts.length = ds.length := by simpa using hl
    show exs s (t :: (ts ++ us)) (d :: (ds ++ es)) ↔ exs s (t :: ts) (d :: ds) ∧ _
    rw [exs_cons, exs_cons, exs_app hl]
    constructor
    · rintro ⟨h1, h2, h3, h4, h5, h6, h7⟩
      refine ⟨⟨h1, fun a o f => h2 a o ((inFs_app hl).mpr (.inl f)), fun a o f => h3 a ((inOs_app hl).mpr (.inl o)) f, h4⟩, h5, fun a o f => ?_, fun a o f => ?_⟩
      · rcases inOs_cons.mp o with o | o
        · exact h2 a o ((inFs_app hl).mpr (.inr f))
        · exact h6 a o f
      · rcases inFs_cons.mp f with f | f
        · exact h3 a ((inOs_app hl).mpr (.inr o)) f
        · exact h7 a o f
    · rintro ⟨⟨h1, h2, h3, h4⟩, h5, h6, h7⟩
      refine ⟨h1, fun a o f => ?_, fun a o f => ?_, h4, h5, fun a o f => h6 a (inOs_cons.mpr (.inr o)) f, fun a o f => h7 a o (inFs_cons.mpr (.inr f))⟩
      · rcases (inFs_app hl).mp f with f | f
        · exact h2 a o f
        · exact h6 a (inOs_cons.mpr (.inl o)) f
      · rcases (inOs_app hl).mp o with o | o
        · exact h3 a o f
        · exact h7 a o (inFs_cons.mpr (.inl f))
end
end EW.EN

set_option Elab.async false
set_option linter.all false
set_option maxRecDepth 100000
/-! N layer 2: steps of the store under owned things; environments of trees. -/
namespace EW.EN
open PySem

structure Step (s : Sto) (ts : List T) (ds : List D) (s' : Sto) (ts' : List T) (ds' : List D) : Prop where
  len : s.length ≤ s'.length
  fr : ∀ a, a < s.length → ¬ inOs s ts ds a → s'[a]? = s[a]?
  rp : reps s' ts' ds'
  ex : exs s' ts' ds'
  ow : ∀ a, inOs s' ts' ds' a → inOs s ts ds a ∨ s.length ≤ a
  fu : ∀ a, inFs s' ts' ds' a → inFs s ts ds a ∨ s.length ≤ a
section
variable {s s' s'' : Sto} {ts ts' ts'' us I : List T} {ds ds' ds'' es J : List D} {t : T} {d : D}
theorem Step.refl (r : reps s ts ds) (e : exs s ts ds) : Step s ts ds s ts ds := ⟨Nat.le_refl _, fun _ _ _ => rfl, r, e, fun _ => .inl, fun _ => .inl⟩
theorem Step.trans (a : Step s ts ds s' ts' ds') (b : Step s' ts' ds' s'' ts'' ds'') : Step s ts ds s'' ts'' ds'' where
  len := Nat.le_trans a.len b.len
  fr := fun x h1 h2 => by
    refine (b.fr x (Nat.lt_of_lt_of_le h1 a.len) fun q => ?_).trans (a.fr x h1 h2)
    rcases a.ow x q with z | z
    · exact h2 z
    · omega
  rp := b.rp
  ex := b.ex
  ow := fun x q => by
    rcases b.ow x q with z | z
    · exact a.ow x z
    · exact .inr (Nat.le_trans a.len z)
  fu := fun x q => by
    rcases b.fu x q with z | z
    · exact a.fu x z
    · exact .inr (Nat.le_trans a.len z)
theorem Step.sms (st : Step s ts ds s' ts' ds') (r : reps s us es) (c : ∀ a, inOs s ts ds a → ¬ inFs s us es a) : Sms s s' us es :=
  sms_of us es fun a h => st.fr a (inFs_lt us es a r h) fun q => c a q h
theorem Step.frame (st : Step s ts ds s' ts' ds') (r : reps s us es) (x : exs s (us ++ ts) (es ++ ds)) : Step s (us ++ ts) (es ++ ds) s' (us ++ ts') (es ++ ds') := by
  have hl := reps_len r
  obtain ⟨x1, x2, x3, x4⟩ := (exs_app hl).mp x
  have sm := st.sms r x4
  refine ⟨st.len, fun a h1 h2 => st.fr a h1 fun q => h2 ((inOs_app hl).mpr (.inr q)), reps_app (sm.rp r) st.rp, (exs_app hl).mpr ⟨sm.ex x1, st.ex, fun a o f => ?_, fun a o f => ?_⟩, fun a q => ?_, fun a q => ?_⟩
  · have o := (sm.ow a).mp o
    rcases st.fu a f with z | z
    · exact x3 a o z
    · have := inFs_lt us es a r (inOs_F us es a o)
      omega
  · have f := (sm.fu a).mp f
    rcases st.ow a o with z | z
    · exact x4 a z f
    · have := inFs_lt us es a r f
      omega
  · rcases (inOs_app hl).mp q with z | z
    · exact .inl ((inOs_app hl).mpr (.inl ((sm.ow a).mp z)))
    · exact (st.ow a z).imp (fun w => (inOs_app hl).mpr (.inr w)) id
  · rcases (inFs_app hl).mp q with z | z
    · exact .inl ((inFs_app hl).mpr (.inl ((sm.fu a).mp z)))
    · exact (st.fu a z).imp (fun w => (inFs_app hl).mpr (.inr w)) id
/-- .. the rest behind -/
theorem Step.frameR (hq : ts.length = ds.length) (st : Step s ts ds s' ts' ds') (r : reps s us es) (x : exs s (ts ++ us) (ds ++ es)) : Step s (ts ++ us) (ds ++ es) s' (ts' ++ us) (ds' ++ es) := by
  · have hl := reps_len r
    have hl' := reps_len st.rp
    obtain ⟨x1, x2, x3, x4⟩ := (exs_app hq).mp x
    have sm := st.sms r x3
    refine ⟨st.len, fun a h1 h2 => st.fr a h1 fun q => h2 ((inOs_app hq).mpr (.inl q)), reps_app st.rp (sm.rp r), (exs_app hl').mpr ⟨st.ex, sm.ex x2, fun a o f => ?_, fun a o f => ?_⟩, fun a q => ?_, fun a q => ?_⟩
    · have f := (sm.fu a).mp f
      rcases st.ow a o with z | z
      · exact x3 a z f
      · have := inFs_lt us es a r f
        omega
    · have o := (sm.ow a).mp o
      rcases st.fu a f with z | z
      · exact x4 a o z
      · have := inFs_lt us es a r (inOs_F us es a o)
        omega
    · rcases (inOs_app hl').mp q with z | z
      · exact (st.ow a z).imp (fun w => (inOs_app hq).mpr (.inl w)) id
      · exact .inl ((inOs_app hq).mpr (.inr ((sm.ow a).mp z)))
    · rcases (inFs_app hl').mp q with z | z
      · exact (st.fu a z).imp (fun w => (inFs_app hq).mpr (.inl w)) id
      · exact .inl ((inFs_app hq).mpr (.inr ((sm.fu a).mp z)))
/-- after a first step with us in front, a second behind them -/
theorem Step.then (a : Step s ts ds s' (us ++ I) (es ++ J)) (hl : us.length = es.length) (b : Step s' I J s'' ts'' ds'') : Step s ts ds s'' (us ++ ts'') (es ++ ds'') :=
  a.trans (b.frame (reps_app_inv hl a.rp).1 a.ex)
/-- things are left out, moved, frozen -/
theorem Step.sub (g : Nat → Nat) (r : reps s ts ds) (x : exs s ts ds) (hl : ts'.length = ds'.length)
    (h : ∀ (i : Nat) (t' : T) (d' : D), ts'[i]? = some t' → ds'[i]? = some d' → t' = .hole ∨ ∃ t, ts[g i]? = some t ∧ ds[g i]? = some d' ∧ (t' = t ∨ t' = frz t))
    (inj : ∀ (i j : Nat) (t' u' : T), i ≠ j → g i = g j → ts'[i]? = some t' → ts'[j]? = some u' → u' = .hole ∨ nO t' = true) : Step s ts ds s ts' ds' := by
  have hO : ∀ (i : Nat) (t' : T) (d' : D) (a : Nat), ts'[i]? = some t' → ds'[i]? = some d' → inO s t' d' a → ∃ t, ts[g i]? = some t ∧ ds[g i]? = some d' ∧ inO s t d' a := fun i t' d' a h1 h2 h3 => by
    rcases h i t' d' h1 h2 with rfl | ⟨t, q1, q2, rfl | rfl⟩
    · unfold inO at h3; exact h3.elim
    · exact ⟨_, q1, q2, h3⟩
    · exact (nO_inO (nO_frz t) h3).elim
  have hF : ∀ (i : Nat) (t' : T) (d' : D) (a : Nat), ts'[i]? = some t' → ds'[i]? = some d' → inF s t' d' a → ∃ t, ts[g i]? = some t ∧ ds[g i]? = some d' ∧ inF s t d' a := fun i t' d' a h1 h2 h3 => by
    rcases h i t' d' h1 h2 with rfl | ⟨t, q1, q2, rfl | rfl⟩
    · unfold inF at h3; exact h3.elim
    · exact ⟨_, q1, q2, h3⟩
    · exact ⟨_, q1, q2, inF_frz.mp h3⟩
  refine ⟨Nat.le_refl _, fun _ _ _ => rfl, reps_at.mpr ⟨hl, fun i t' d' h1 h2 => ?_⟩, exs_at.mpr ⟨fun i t' d' h1 h2 => ?_, fun i j t1 d1 u1 e1 ne h1 h2 h3 h4 a o f => ?_⟩, fun a q => ?_, fun a q => ?_⟩
  · rcases h i t' d' h1 h2 with rfl | ⟨t, q1, q2, rfl | rfl⟩
    · unfold rep; trivial
    · exact (reps_at.mp r).2 _ _ _ q1 q2
    · exact rep_frz.mpr ((reps_at.mp r).2 _ _ _ q1 q2)
  · rcases h i t' d' h1 h2 with rfl | ⟨t, q1, q2, rfl | rfl⟩
    · unfold EN.ex; trivial
    · exact (exs_at.mp x).1 _ _ _ q1 q2
    · exact nO_ex (nO_frz t)
  · obtain ⟨t, q1, q2, q3⟩ := hO i t1 d1 a h1 h2 o
    obtain ⟨u, z1, z2, z3⟩ := hF j u1 e1 a h3 h4 f
    by_cases e : g i = g j
    · rcases inj i j t1 u1 ne e h1 h3 with rfl | w
      · unfold inF at f; exact f
      · exact nO_inO w o
    · exact (exs_at.mp x).2 _ _ t d1 u e1 e q1 q2 z1 z2 a q3 z3
  · obtain ⟨i, t', d', h1, h2, h3⟩ := inOs_at.mp q
    obtain ⟨t, q1, q2, q3⟩ := hO i t' d' a h1 h2 h3
    exact .inl (inOs_at.mpr ⟨_, t, d', q1, q2, q3⟩)
  · obtain ⟨i, t', d', h1, h2, h3⟩ := inFs_at.mp q
    obtain ⟨t, q1, q2, q3⟩ := hF i t' d' a h1 h2 h3
    exact .inl (inFs_at.mpr ⟨_, t, d', q1, q2, q3⟩)
theorem Step.drop (hl : us.length = es.length) (r : reps s (us ++ I) (es ++ J)) (x : exs s (us ++ I) (es ++ J)) : Step s (us ++ I) (es ++ J) s I J :=
  ⟨Nat.le_refl _, fun _ _ _ => rfl, (reps_app_inv hl r).2, ((exs_app hl).mp x).2.1, fun a q => .inl ((inOs_app hl).mpr (.inr q)), fun a q => .inl ((inFs_app hl).mpr (.inr q))⟩
/-- a plain value in front -/
theorem Step.plain (r : reps s I J) (x : exs s I J) (h : nr d = true) : Step s I J s (.p d :: I) (d :: J) := by
  refine ⟨Nat.le_refl _, fun _ _ _ => rfl, reps_cons.mpr ⟨by unfold rep; exact ⟨rfl, h⟩, r⟩, exs_cons.mpr ⟨by unfold EN.ex; trivial, fun a o => ?_, fun a _ f => ?_, x⟩, fun a q => ?_, fun a q => ?_⟩
  · unfold inO at o; exact o.elim
  · unfold inF at f; exact f
  · rcases inOs_cons.mp q with o | o
    · unfold inO at o; exact o.elim
    · exact .inl o
  · rcases inFs_cons.mp q with o | o
    · unfold inF at o; exact o.elim
    · exact .inl o
/-- the result is a plain value, the parts go -/
theorem Step.res (hl : us.length = es.length) (r : reps s (us ++ I) (es ++ J)) (x : exs s (us ++ I) (es ++ J)) (h : nr d = true) : Step s (us ++ I) (es ++ J) s (.p d :: I) (d :: J) :=
  have st := Step.drop hl r x
  st.trans (Step.plain st.rp st.ex h)
theorem grow (ob : Ob) {a : Nat} (h : a < s.length) : (s ++ [ob])[a]? = s[a]? := List.getElem?_append_left h
theorem Step.grow1 (ob : Ob) (r : reps s I J) (x : exs s I J) : Step s I J (s ++ [ob]) I J := by
  have sm : Sms s (s ++ [ob]) I J := sms_of I J fun a h => grow ob (inFs_lt I J a r h)
  exact ⟨by simp, fun a h _ => grow ob h, sm.rp r, sm.ex x, fun a q => .inl ((sm.ow a).mp q), fun a q => .inl ((sm.fu a).mp q)⟩
theorem at_end (s : Sto) (ob : Ob) : (s ++ [ob])[s.length]? = some ob := by simp
/-- a new container without children -/
theorem Step.flat {ob : Ob} (f : FlatT t) (h : kd t ob) (r : reps s I J) (x : exs s I J) : Step s I J (s ++ [ob]) (t :: I) (.ref s.length :: J) := by
  have st := Step.grow1 ob r x
  have hn : ∀ a, inF (s ++ [ob]) t (.ref s.length) a → a = s.length := fun a q => by have := f.inF.mp q; cases this; rfl
  have hI : ∀ a, inFs (s ++ [ob]) I J a → a < s.length := fun a q => by
    rcases st.fu a q with z | z
    · exact inFs_lt I J a r z
    · have := inFs_lt I J a st.rp q
      have sm : Sms s (s ++ [ob]) I J := sms_of I J fun a h => grow ob (inFs_lt I J a r h)
      exact inFs_lt I J a r ((sm.fu a).mp q)
  refine ⟨st.len, st.fr, reps_cons.mpr ⟨f.rep.mpr ⟨_, _, rfl, at_end s ob, h⟩, st.rp⟩, exs_cons.mpr ⟨f.ex, fun a o q => ?_, fun a o q => ?_, st.ex⟩, fun a q => ?_, fun a q => ?_⟩
  · have := hn a (inO_F _ _ _ o); have := hI a q; omega
  · have := hn a q; have := hI a (inOs_F _ _ _ o); omega
  · rcases inOs_cons.mp q with o | o
    · exact .inr (Nat.le_of_eq (hn a (inO_F _ _ _ o)).symm)
    · exact st.ow a o
  · rcases inFs_cons.mp q with o | o
    · exact .inr (Nat.le_of_eq (hn a o).symm)
    · exact st.fu a o
/-- a new container of what stands in front -/
theorem Step.node {ob : Ob} (nt : NodeT t us) (ho : t.ow = true) (h : kd t ob) (hv : obv ob = es) (r : reps s (us ++ I) (es ++ J)) (x : exs s (us ++ I) (es ++ J)) (hl : us.length = es.length) : Step s (us ++ I) (es ++ J) (s ++ [ob]) (t :: I) (.ref s.length :: J) := by
  have st := Step.grow1 ob r x
  obtain ⟨x1, x2, x3, x4⟩ := (exs_app hl).mp st.ex
  obtain ⟨r1, r2⟩ := reps_app_inv hl st.rp
  obtain ⟨q1, q2⟩ := reps_app_inv hl r
  have hk : ∀ a, inFs (s ++ [ob]) us es a → a < s.length := fun a q => by
    have sm : Sms s (s ++ [ob]) us es := sms_of us es fun a h => grow ob (inFs_lt us es a q1 h)
    exact inFs_lt us es a q1 ((sm.fu a).mp q)
  have hI : ∀ a, inFs (s ++ [ob]) I J a → a < s.length := fun a q => by
    have sm : Sms s (s ++ [ob]) I J := sms_of I J fun a h => grow ob (inFs_lt I J a q2 h)
    exact inFs_lt I J a q2 ((sm.fu a).mp q)
  have hF : ∀ a, inF (s ++ [ob]) t (.ref s.length) a → a = s.length ∨ inFs (s ++ [ob]) us es a := fun a q => by
    rcases nt.inF.mp q with z | ⟨m, ob', e, z1, z2⟩
    · cases z; exact .inl rfl
    · cases e
      rw [at_end] at z1; cases z1
      rw [hv] at z2; exact .inr z2
  have hO : ∀ a, inO (s ++ [ob]) t (.ref s.length) a → a = s.length ∨ inOs (s ++ [ob]) us es a := fun a q => by
    rcases (nt.inO.mp q).2 with z | ⟨m, ob', e, z1, z2⟩
    · cases z; exact .inl rfl
    · cases e
      rw [at_end] at z1; cases z1
      rw [hv] at z2; exact .inr z2
  refine ⟨st.len, st.fr, reps_cons.mpr ⟨nt.rep.mpr ⟨_, _, rfl, at_end s ob, h, by rw [hv]; exact r1⟩, r2⟩, exs_cons.mpr ⟨nt.ex.mpr fun _ => ⟨_, _, rfl, at_end s ob, ?_, by rw [hv]; exact x1⟩, fun a o q => ?_, fun a o q => ?_, x2⟩, fun a q => ?_, fun a q => ?_⟩
  · rw [hv]; intro z; have := hk _ z; omega
  · rcases hO a o with z | z
    · have := hI a q; omega
    · exact x3 a z q
  · rcases hF a q with z | z
    · have := hI a (inOs_F _ _ _ o); omega
    · exact x4 a o z
  · rcases inOs_cons.mp q with o | o
    · rcases hO a o with z | z
      · exact .inr (Nat.le_of_eq z.symm)
      · exact st.ow a ((inOs_app hl).mpr (.inl z))
    · exact st.ow a ((inOs_app hl).mpr (.inr o))
  · rcases inFs_cons.mp q with o | o
    · rcases hF a o with z | z
      · exact .inr (Nat.le_of_eq z.symm)
      · exact st.fu a ((inFs_app hl).mpr (.inl z))
    · exact st.fu a ((inFs_app hl).mpr (.inr o))
def kids (o : Bool) (ts : List T) : List T := if o = true then ts else ts.map frz
theorem kids_len {o : Bool} : (kids o ts).length = ts.length := by unfold kids; split <;> simp
theorem reps_frz : ∀ {ts : List T} {ds : List D}, reps s (ts.map frz) ds ↔ reps s ts ds
  | [], ds => Iff.rfl
  | t :: ts, [] => by unfold reps; exact ⟨fun ⟨_, _, e, _⟩ => (by cases e), fun ⟨_, _, e, _⟩ => (by cases e)⟩
  | t :: ts, d :: ds => by
    show reps s (frz t :: ts.map frz) _ ↔ _
    rw [reps_cons, reps_cons, rep_frz, reps_frz]
theorem inFs_frz {a : Nat} : ∀ {ts : List T} {ds : List D}, inFs s (ts.map frz) ds a ↔ inFs s ts ds a
  | [], ds => Iff.rfl
  | t :: ts, [] => by unfold inFs; exact Iff.rfl
  | t :: ts, d :: ds => by
    show inFs s (frz t :: ts.map frz) _ a ↔ _
    rw [inFs_cons, inFs_cons, inF_frz, inFs_frz]
theorem inOs_frz {a : Nat} : ∀ {ts : List T} {ds : List D}, ¬ inOs s (ts.map frz) ds a
  | [], ds => inOs_nil
  | t :: ts, [] => by unfold inOs; exact id
  | t :: ts, d :: ds => by
    show ¬ inOs s (frz t :: ts.map frz) _ a
    rw [inOs_cons]
    rintro (h | h)
    · exact nO_inO (nO_frz t) h
    · exact inOs_frz h
theorem exs_frz : ∀ {ts : List T} {ds : List D}, exs s (ts.map frz) ds
  | [], ds => exs_nil
  | t :: ts, [] => by unfold exs; trivial
  | t :: ts, d :: ds => by
    show exs s (frz t :: ts.map frz) _
    rw [exs_cons]
    exact ⟨nO_ex (nO_frz t), fun a o => (nO_inO (nO_frz t) o).elim, fun a o => (inOs_frz o).elim, exs_frz⟩
/-- a thing is opened: its parts in its place -/
theorem Step.open' (r1 : reps s ts ds) (hF : ∀ a, inFs s ts ds a → inF s t d a) (hO : t.ow = true → (∀ a, inOs s ts ds a → inO s t d a) ∧ exs s ts ds)
    (r : reps s (t :: I) (d :: J)) (x : exs s (t :: I) (d :: J)) : Step s (t :: I) (d :: J) s (kids t.ow ts ++ I) (ds ++ J) := by
  obtain ⟨x1, x2, x3, x4⟩ := exs_cons.mp x
  obtain ⟨q1, q2⟩ := reps_cons.mp r
  have hl : (kids t.ow ts).length = ds.length := kids_len.trans (reps_len r1)
  have kF : ∀ a, inFs s (kids t.ow ts) ds a → inF s t d a := fun a q => by
    unfold kids at q
    split at q
    · exact hF a q
    · exact hF a (inFs_frz.mp q)
  have kO : ∀ a, inOs s (kids t.ow ts) ds a → inO s t d a := fun a q => by
    unfold kids at q
    split at q
    · rename_i h; exact (hO h).1 a q
    · exact (inOs_frz q).elim
  have kx : exs s (kids t.ow ts) ds := by
    unfold kids
    split
    · rename_i h; exact (hO h).2
    · exact exs_frz
  have kr : reps s (kids t.ow ts) ds := by
    unfold kids
    split
    · exact r1
    · exact reps_frz.mpr r1
  refine ⟨Nat.le_refl _, fun _ _ _ => rfl, reps_app kr q2, (exs_app hl).mpr ⟨kx, x4, fun a o => x2 a (kO a o), fun a o f => x3 a o (kF a f)⟩, fun a q => ?_, fun a q => ?_⟩
  · rcases (inOs_app hl).mp q with z | z
    · exact .inl (inOs_cons.mpr (.inl (kO a z)))
    · exact .inl (inOs_cons.mpr (.inr z))
  · rcases (inFs_app hl).mp q with z | z
    · exact .inl (inFs_cons.mpr (.inl (kF a z)))
    · exact .inl (inFs_cons.mpr (.inr z))
theorem Step.open_node {m : Nat} {ob : Ob} (nt : NodeT t ts) (hm : s[m]? = some ob) (r1 : reps s ts (obv ob)) (r : reps s (t :: I) (.ref m :: J)) (x : exs s (t :: I) (.ref m :: J)) : Step s (t :: I) (.ref m :: J) s (kids t.ow ts ++ I) (obv ob ++ J) := by
  refine Step.open' r1 (fun a q => nt.inF.mpr (.inr ⟨m, ob, rfl, hm, q⟩)) (fun h => ⟨fun a q => nt.inO.mpr ⟨h, .inr ⟨m, ob, rfl, hm, q⟩⟩, ?_⟩) r x
  obtain ⟨m', ob', e, z1, _, z3⟩ := nt.ex.mp (exs_cons.mp x).1 h
  cases e
  rw [hm] at z1; cases z1
  exact z3
theorem Step.open_tup {o : Bool} {ds : List D} (r1 : reps s ts ds) (r : reps s (.tup o ts :: I) (.tup ds :: J)) (x : exs s (.tup o ts :: I) (.tup ds :: J)) : Step s (.tup o ts :: I) (.tup ds :: J) s (kids o ts ++ I) (ds ++ J) := by
  refine Step.open' (t := .tup o ts) r1 (fun a q => by unfold inF; exact ⟨ds, rfl, q⟩) (fun h => ⟨fun a q => by unfold inO; exact ⟨h, ds, rfl, q⟩, ?_⟩) r x
  have := (exs_cons.mp x).1
  unfold EN.ex at this
  obtain ⟨ds', e, z⟩ := this h
  cases e
  exact z
/-- a tuple of what stands in front -/
theorem Step.tup (hl : us.length = es.length) (r : reps s (us ++ I) (es ++ J)) (x : exs s (us ++ I) (es ++ J)) : Step s (us ++ I) (es ++ J) s (.tup true us :: I) (.tup es :: J) := by
  obtain ⟨x1, x2, x3, x4⟩ := (exs_app hl).mp x
  obtain ⟨r1, r2⟩ := reps_app_inv hl r
  have hF : ∀ a, inF s (.tup true us) (.tup es) a → inFs s us es a := fun a q => by
    unfold inF at q
    obtain ⟨ds, e, z⟩ := q
    cases e; exact z
  have hO : ∀ a, inO s (.tup true us) (.tup es) a → inOs s us es a := fun a q => by
    unfold inO at q
    obtain ⟨_, ds, e, z⟩ := q
    cases e; exact z
  refine ⟨Nat.le_refl _, fun _ _ _ => rfl, reps_cons.mpr ⟨by unfold rep; exact ⟨es, rfl, r1⟩, r2⟩, exs_cons.mpr ⟨by unfold EN.ex; exact fun _ => ⟨es, rfl, x1⟩, fun a o => x3 a (hO a o), fun a o f => x4 a o (hF a f), x2⟩, fun a q => ?_, fun a q => ?_⟩
  · exact .inl ((inOs_app hl).mpr ((inOs_cons.mp q).imp (hO a) id))
  · exact .inl ((inFs_app hl).mpr ((inFs_cons.mp q).imp (hF a) id))
end

/-! ### writing: a thing is opened with its cell kept, the cell is written, closed -/
section
variable {s s' s'' : Sto} {ts ts' ts'' us I : List T} {ds ds' ds'' es J : List D} {t : T} {d : D} {m : Nat} {ob ob' : Ob}
theorem Step.uncell (nt : NodeT t ts) (ho : t.ow = true) (hm : s[m]? = some ob) (r : reps s (t :: I) (.ref m :: J)) (x : exs s (t :: I) (.ref m :: J)) : Step s (t :: I) (.ref m :: J) s (.cell true :: (ts ++ I)) (.ref m :: (obv ob ++ J)) := by
  obtain ⟨x1, x2, x3, x4⟩ := exs_cons.mp x
  obtain ⟨r1, r2⟩ := reps_cons.mp r
  obtain ⟨m1, ob1, e1, q1, q2, q3⟩ := nt.rep.mp r1
  cases e1
  rw [hm] at q1; cases q1
  obtain ⟨m2, ob2, e2, z1, z2, z3⟩ := nt.ex.mp x1 ho
  cases e2
  rw [hm] at z1; cases z1
  have hl := reps_len q3
  have kF : ∀ a, inFs s ts (obv ob) a → inF s t (.ref m) a := fun a q => nt.inF.mpr (.inr ⟨m, ob, rfl, hm, q⟩)
  have kO : ∀ a, inOs s ts (obv ob) a → inO s t (.ref m) a := fun a q => nt.inO.mpr ⟨ho, .inr ⟨m, ob, rfl, hm, q⟩⟩
  have tO : inO s t (.ref m) m := nt.inO.mpr ⟨ho, .inl rfl⟩
  have tF : inF s t (.ref m) m := inO_F _ _ _ tO
  have hc : ∀ a, inF s (.cell true) (.ref m) a → a = m := fun a q => by have := (FlatT.cell true).inF.mp q; cases this; rfl
  refine ⟨Nat.le_refl _, fun _ _ _ => rfl, reps_cons.mpr ⟨(FlatT.cell true).rep.mpr ⟨_, _, rfl, hm, trivial⟩, reps_app q3 r2⟩, exs_cons.mpr ⟨(FlatT.cell true).ex, fun a o f => ?_, fun a o f => ?_, (exs_app hl).mpr ⟨z3, x4, fun a o => x2 a (kO a o), fun a o f => x3 a o (kF a f)⟩⟩, fun a q => ?_, fun a q => ?_⟩
  · have := hc a (inO_F _ _ _ o); subst this
    rcases (inFs_app hl).mp f with f | f
    · exact z2 f
    · exact x2 _ tO f
  · have := hc a f; subst this
    rcases (inOs_app hl).mp o with o | o
    · exact z2 (inOs_F _ _ _ o)
    · exact x3 _ o tF
  · rcases inOs_cons.mp q with o | o
    · have := hc a (inO_F _ _ _ o); subst this
      exact .inl (inOs_cons.mpr (.inl tO))
    · rcases (inOs_app hl).mp o with o | o
      · exact .inl (inOs_cons.mpr (.inl (kO a o)))
      · exact .inl (inOs_cons.mpr (.inr o))
  · rcases inFs_cons.mp q with o | o
    · have := hc a o; subst this
      exact .inl (inFs_cons.mpr (.inl tF))
    · rcases (inFs_app hl).mp o with o | o
      · exact .inl (inFs_cons.mpr (.inl (kF a o)))
      · exact .inl (inFs_cons.mpr (.inr o))
theorem Step.uncell_flat (f : FlatT t) (ho : t.ow = true) (hm : s[m]? = some ob) (r : reps s (t :: I) (.ref m :: J)) (x : exs s (t :: I) (.ref m :: J)) : Step s (t :: I) (.ref m :: J) s (.cell true :: I) (.ref m :: J) := by
  obtain ⟨x1, x2, x3, x4⟩ := exs_cons.mp x
  obtain ⟨r1, r2⟩ := reps_cons.mp r
  have hO : ∀ a, inO s (.cell true) (.ref m) a ↔ inO s t (.ref m) a := fun a => (FlatT.cell true).inO.trans (Iff.trans ⟨fun q => ⟨ho, q.2⟩, fun q => ⟨rfl, q.2⟩⟩ f.inO.symm)
  have hF : ∀ a, inF s (.cell true) (.ref m) a ↔ inF s t (.ref m) a := fun a => (FlatT.cell true).inF.trans f.inF.symm
  exact ⟨Nat.le_refl _, fun _ _ _ => rfl, reps_cons.mpr ⟨(FlatT.cell true).rep.mpr ⟨_, _, rfl, hm, trivial⟩, r2⟩, exs_cons.mpr ⟨(FlatT.cell true).ex, fun a o => x2 a ((hO a).mp o), fun a o q => x3 a o ((hF a).mp q), x4⟩,
    fun a q => .inl (inOs_cons.mpr ((inOs_cons.mp q).imp (hO a).mp id)), fun a q => .inl (inFs_cons.mpr ((inFs_cons.mp q).imp (hF a).mp id))⟩
theorem Step.write (ob' : Ob) (r : reps s (.cell true :: I) (.ref m :: J)) (x : exs s (.cell true :: I) (.ref m :: J)) : Step s (.cell true :: I) (.ref m :: J) (s.set m ob') (.cell true :: I) (.ref m :: J) := by
  obtain ⟨x1, x2, x3, x4⟩ := exs_cons.mp x
  obtain ⟨r1, r2⟩ := reps_cons.mp r
  obtain ⟨m1, ob1, e1, q1, _⟩ := (FlatT.cell true).rep.mp r1
  cases e1
  have hm := lt_some q1
  have mo : inO s (.cell true) (.ref m) m := (FlatT.cell true).inO.mpr ⟨rfl, rfl⟩
  have ne : ∀ a, inFs s I J a → a ≠ m := fun a q e => x2 m mo (e ▸ q)
  have sm : Sms s (s.set m ob') I J := sms_of I J fun a h => by rw [List.getElem?_set_ne (Ne.symm (ne a h))]
  have hF : ∀ {z : Sto} a, inF z (.cell true) (.ref m) a → a = m := fun a q => by have := (FlatT.cell true).inF.mp q; cases this; rfl
  refine ⟨by simp, fun a _ h => ?_, reps_cons.mpr ⟨(FlatT.cell true).rep.mpr ⟨_, ob', rfl, List.getElem?_set_self hm, trivial⟩, sm.rp r2⟩, exs_cons.mpr ⟨(FlatT.cell true).ex, fun a o f => ?_, fun a o f => ?_, sm.ex x4⟩, fun a q => ?_, fun a q => ?_⟩
  · refine List.getElem?_set_ne fun e => h ?_
    subst e; exact inOs_cons.mpr (.inl mo)
  · have := hF a (inO_F _ _ _ o); subst this; exact ne _ ((sm.fu _).mp f) rfl
  · have := hF a f; subst this; exact ne _ ((sm.fu _).mp (inOs_F _ _ _ o)) rfl
  · rcases inOs_cons.mp q with o | o
    · have := hF a (inO_F _ _ _ o); subst this; exact .inl (inOs_cons.mpr (.inl mo))
    · exact .inl (inOs_cons.mpr (.inr ((sm.ow a).mp o)))
  · rcases inFs_cons.mp q with o | o
    · have := hF a o; subst this; exact .inl (inFs_cons.mpr (.inl (inO_F _ _ _ mo)))
    · exact .inl (inFs_cons.mpr (.inr ((sm.fu a).mp o)))
theorem Step.close (nt : NodeT t us) (ho : t.ow = true) (h : kd t ob) (hm : s[m]? = some ob) (hv : obv ob = es) (hl : us.length = es.length) (r : reps s (.cell true :: (us ++ I)) (.ref m :: (es ++ J))) (x : exs s (.cell true :: (us ++ I)) (.ref m :: (es ++ J))) : Step s (.cell true :: (us ++ I)) (.ref m :: (es ++ J)) s (t :: I) (.ref m :: J) := by
  obtain ⟨x1, x2, x3, x4⟩ := exs_cons.mp x
  obtain ⟨r1, r2⟩ := reps_cons.mp r
  obtain ⟨r3, r4⟩ := reps_app_inv hl r2
  obtain ⟨y1, y2, y3, y4⟩ := (exs_app hl).mp x4
  have cO : inO s (.cell true) (.ref m) m := (FlatT.cell true).inO.mpr ⟨rfl, rfl⟩
  have cF := inO_F _ _ _ cO
  have hF : ∀ a, inF s t (.ref m) a → a = m ∨ inFs s us es a := fun a q => by
    rcases nt.inF.mp q with z | ⟨m', ob', e, z1, z2⟩
    · cases z; exact .inl rfl
    · cases e
      rw [hm] at z1; cases z1
      rw [hv] at z2; exact .inr z2
  have hO : ∀ a, inO s t (.ref m) a → a = m ∨ inOs s us es a := fun a q => by
    rcases (nt.inO.mp q).2 with z | ⟨m', ob', e, z1, z2⟩
    · cases z; exact .inl rfl
    · cases e
      rw [hm] at z1; cases z1
      rw [hv] at z2; exact .inr z2
  refine ⟨Nat.le_refl _, fun _ _ _ => rfl, reps_cons.mpr ⟨nt.rep.mpr ⟨_, _, rfl, hm, h, by rw [hv]; exact r3⟩, r4⟩, exs_cons.mpr ⟨nt.ex.mpr fun _ => ⟨_, _, rfl, hm, ?_, by rw [hv]; exact y1⟩, fun a o q => ?_, fun a o q => ?_, y2⟩, fun a q => ?_, fun a q => ?_⟩
  · rw [hv]; intro z; exact x2 m cO ((inFs_app hl).mpr (.inl z))
  · rcases hO a o with z | z
    · subst z; exact x2 _ cO ((inFs_app hl).mpr (.inr q))
    · exact y3 a z q
  · rcases hF a q with z | z
    · subst z; exact x3 _ ((inOs_app hl).mpr (.inr o)) cF
    · exact y4 a o z
  · rcases inOs_cons.mp q with o | o
    · rcases hO a o with z | z
      · subst z; exact .inl (inOs_cons.mpr (.inl cO))
      · exact .inl (inOs_cons.mpr (.inr ((inOs_app hl).mpr (.inl z))))
    · exact .inl (inOs_cons.mpr (.inr ((inOs_app hl).mpr (.inr o))))
  · rcases inFs_cons.mp q with o | o
    · rcases hF a o with z | z
      · subst z; exact .inl (inFs_cons.mpr (.inl cF))
      · exact .inl (inFs_cons.mpr (.inr ((inFs_app hl).mpr (.inl z))))
    · exact .inl (inFs_cons.mpr (.inr ((inFs_app hl).mpr (.inr o))))
theorem Step.close_flat (f : FlatT t) (h : kd t ob) (hm : s[m]? = some ob) (r : reps s (.cell true :: I) (.ref m :: J)) (x : exs s (.cell true :: I) (.ref m :: J)) : Step s (.cell true :: I) (.ref m :: J) s (t :: I) (.ref m :: J) := by
  obtain ⟨x1, x2, x3, x4⟩ := exs_cons.mp x
  obtain ⟨r1, r2⟩ := reps_cons.mp r
  have hO : ∀ a, inO s t (.ref m) a → inO s (.cell true) (.ref m) a := fun a q => (FlatT.cell true).inO.mpr ⟨rfl, (f.inO.mp q).2⟩
  have hF : ∀ a, inF s t (.ref m) a → inF s (.cell true) (.ref m) a := fun a q => (FlatT.cell true).inF.mpr (f.inF.mp q)
  exact ⟨Nat.le_refl _, fun _ _ _ => rfl, reps_cons.mpr ⟨f.rep.mpr ⟨_, _, rfl, hm, h⟩, r2⟩, exs_cons.mpr ⟨f.ex, fun a o => x2 a (hO a o), fun a o q => x3 a o (hF a q), x4⟩,
    fun a q => .inl (inOs_cons.mpr ((inOs_cons.mp q).imp (hO a) id)), fun a q => .inl (inFs_cons.mpr ((inFs_cons.mp q).imp (hF a) id))⟩
end
/-! ### environments -/
inductive Sl where
  | non | val (t : T) | exc (x : Exn)
  deriving Inhabited
abbrev NEnv := List Sl
def tOf : Sl → T
  | .val t => t
  | _ => .hole
def dOf : Slot → D
  | .val d => d
  | _ => .non
abbrev eT (ρ : NEnv) : List T := ρ.map tOf
abbrev eD (r : Env) : List D := r.map dOf
def SlOk : Sl → Slot → Prop
  | .non, _ => True
  | .val _, .val _ => True
  | .exc x, .exc y => x = y
  | _, _ => False
structure EOk (ρ : NEnv) (r : Env) : Prop where
  len : ρ.length = r.length
  ok : ∀ (i : Nat) (z : Sl) (y : Slot), ρ[i]? = some z → r[i]? = some y → SlOk z y
section
variable {s s' : Sto} {ρ ρ' : NEnv} {r : Env} {i : Nat} {t : T} {d : D}
theorem EOk.get (e : EOk ρ r) {z : Sl} (h : ρ[i]? = some z) : ∃ y, r[i]? = some y ∧ SlOk z y := by
  have hl : i < r.length := e.len ▸ (List.getElem?_eq_some_iff.mp h).1
  exact ⟨r[i], List.getElem?_eq_getElem hl, e.ok i z _ h (List.getElem?_eq_getElem hl)⟩
theorem EOk.val (e : EOk ρ r) (h : ρ[i]? = some (.val t)) : ∃ d, r[i]? = some (.val d) ∧ (eT ρ)[i]? = some t ∧ (eD r)[i]? = some d := by
  obtain ⟨y, h1, h2⟩ := e.get h
  cases y with
  | val d => exact ⟨d, h1, by simp [h, tOf], by simp [h1, dOf]⟩
  | non => exact h2.elim
  | exc x => exact h2.elim
theorem EOk.set (e : EOk ρ r) {z : Sl} {y : Slot} (h : SlOk z y) : EOk (ρ.set i z) (r.set i y) := by
  refine ⟨by simp [e.len], fun j z' y' h1 h2 => ?_⟩
  rw [List.getElem?_set] at h1 h2
  by_cases hj : i = j
  · rw [if_pos hj] at h1 h2
    split at h1
    · split at h2
      · cases h1; cases h2; exact h
      · cases h2
    · cases h1
  · rw [if_neg hj] at h1 h2
    exact e.ok j z' y' h1 h2
theorem EOk.set' (e : EOk ρ r) {z : Sl} (h : ∀ y, r[i]? = some y → SlOk z y) : EOk (ρ.set i z) r := by
  refine ⟨by simp [e.len], fun j z' y' h1 h2 => ?_⟩
  rw [List.getElem?_set] at h1
  by_cases hj : i = j
  · rw [if_pos hj] at h1
    split at h1
    · cases h1; subst hj; exact h y' h2
    · cases h1
  · rw [if_neg hj] at h1
    exact e.ok j z' y' h1 h2
theorem eT_set (z : Sl) : eT (ρ.set i z) = (eT ρ).set i (tOf z) := by simp [eT, List.map_set]
theorem eD_set (z : Slot) : eD (r.set i z) = (eD r).set i (dOf z) := by simp [eD, List.map_set]
def frzS : Sl → Sl
  | .val t => .val (frz t)
  | z => z
/-- the named slots frozen -/
def frzGo (vs : List Nat) : Nat → NEnv → NEnv
  | _, [] => []
  | i, z :: r => (match vs.contains i with
    | true => frzS z
    | false => z) :: frzGo vs (i + 1) r
def frzRo (vs : List Nat) : Nat → NEnv → NEnv
  | _, [] => []
  | i, z :: r => (match vs.contains i with
    | true => frzS z
    | false => .non) :: frzRo vs (i + 1) r
def frzOn (vs : List Nat) (ρ : NEnv) : NEnv := frzGo vs 0 ρ
/-- the named slots alone, frozen -/
def frzR (vs : List Nat) (ρ : NEnv) : NEnv := frzRo vs 0 ρ
theorem frzGo_get (vs : List Nat) : ∀ (ρ : NEnv) (k i : Nat), (frzGo vs k ρ)[i]? = ρ[i]?.map fun z => if vs.contains (k + i) = true then frzS z else z
  | [], k, i => by simp [frzGo]
  | z :: r, k, 0 => by
    show some (match vs.contains k with
      | true => frzS z
      | false => z) = some (if vs.contains (k + 0) = true then frzS z else z)
    rw [Nat.add_zero]
    cases vs.contains k <;> rfl
  | z :: r, k, i + 1 => by
    show (frzGo vs (k + 1) r)[i]? = r[i]?.map _
    rw [frzGo_get vs r (k + 1) i, show k + 1 + i = k + (i + 1) by omega]
theorem frzRo_get (vs : List Nat) : ∀ (ρ : NEnv) (k i : Nat), (frzRo vs k ρ)[i]? = ρ[i]?.map fun z => if vs.contains (k + i) = true then frzS z else .non
  | [], k, i => by simp [frzRo]
  | z :: r, k, 0 => by
    show some (match vs.contains k with
      | true => frzS z
      | false => Sl.non) = some (if vs.contains (k + 0) = true then frzS z else .non)
    rw [Nat.add_zero]
    cases vs.contains k <;> rfl
  | z :: r, k, i + 1 => by
    show (frzRo vs (k + 1) r)[i]? = r[i]?.map _
    rw [frzRo_get vs r (k + 1) i, show k + 1 + i = k + (i + 1) by omega]
theorem frzOn_get (vs : List Nat) (ρ : NEnv) (i : Nat) : (frzOn vs ρ)[i]? = ρ[i]?.map fun z => if vs.contains i = true then frzS z else z := by
  unfold frzOn
  rw [frzGo_get, Nat.zero_add]
theorem frzR_get (vs : List Nat) (ρ : NEnv) (i : Nat) : (frzR vs ρ)[i]? = ρ[i]?.map fun z => if vs.contains i = true then frzS z else .non := by
  unfold frzR
  rw [frzRo_get, Nat.zero_add]
theorem frzGo_len (vs : List Nat) : ∀ (ρ : NEnv) (k : Nat), (frzGo vs k ρ).length = ρ.length
  | [], _ => rfl
  | z :: r, k => by show (frzGo vs (k + 1) r).length + 1 = r.length + 1; rw [frzGo_len vs r]
theorem frzRo_len (vs : List Nat) : ∀ (ρ : NEnv) (k : Nat), (frzRo vs k ρ).length = ρ.length
  | [], _ => rfl
  | z :: r, k => by show (frzRo vs (k + 1) r).length + 1 = r.length + 1; rw [frzRo_len vs r]
theorem frzOn_len (vs : List Nat) (ρ : NEnv) : (frzOn vs ρ).length = ρ.length := frzGo_len vs ρ 0
theorem frzR_len (vs : List Nat) (ρ : NEnv) : (frzR vs ρ).length = ρ.length := frzRo_len vs ρ 0
def nOE (ρ : NEnv) : Prop := ∀ (i : Nat) (t : T), ρ[i]? = some (.val t) → nO t = true
theorem SlOk_frz {z : Sl} {y : Slot} (h : SlOk z y) : SlOk (frzS z) y := by
  cases z <;> cases y <;> first | exact h | trivial
theorem EOk.frzOn (e : EOk ρ r) (vs : List Nat) : EOk (frzOn vs ρ) r := by
  refine ⟨by simp [frzOn_len, e.len], fun j z' y' h1 h2 => ?_⟩
  rw [frzOn_get] at h1
  cases q : ρ[j]? with
  | none => rw [q] at h1; cases h1
  | some z =>
    rw [q] at h1
    cases h1
    dsimp only
    split
    · exact SlOk_frz (e.ok j z y' q h2)
    · exact e.ok j z y' q h2
theorem EOk.frzR (e : EOk ρ r) (vs : List Nat) : EOk (frzR vs ρ) r := by
  refine ⟨by simp [frzR_len, e.len], fun j z' y' h1 h2 => ?_⟩
  rw [frzR_get] at h1
  cases q : ρ[j]? with
  | none => rw [q] at h1; cases h1
  | some z =>
    rw [q] at h1
    cases h1
    dsimp only
    split
    · exact SlOk_frz (e.ok j z y' q h2)
    · trivial
theorem nOE_frzR (vs : List Nat) : nOE (frzR vs ρ) := fun i t h => by
  rw [frzR_get] at h
  cases q : ρ[i]? with
  | none => rw [q] at h; cases h
  | some z =>
    rw [q] at h
    have h : (if vs.contains i = true then frzS z else Sl.non) = .val t := Option.some.inj h
    split at h
    · cases z with
      | val u => cases h; exact nO_frz u
      | non => cases h
      | exc x => cases h
    · cases h
theorem tOf_frzS (z : Sl) : tOf (frzS z) = frz (tOf z) := by cases z <;> rfl
theorem eT_frzOn (vs : List Nat) (j : Nat) : (eT (frzOn vs ρ))[j]? = (eT ρ)[j]?.map fun t => if vs.contains j then frz t else t := by
  unfold eT
  rw [List.getElem?_map, frzOn_get, List.getElem?_map]
  cases ρ[j]? with
  | none => rfl
  | some z =>
    show some (tOf (if vs.contains j = true then frzS z else z)) = some (if vs.contains j = true then frz (tOf z) else tOf z)
    split
    · rw [tOf_frzS]
    · rfl
theorem eT_frzR (vs : List Nat) (j : Nat) : (eT (frzR vs ρ))[j]? = (eT ρ)[j]?.map fun t => if vs.contains j then frz t else .hole := by
  unfold eT
  rw [List.getElem?_map, frzR_get, List.getElem?_map]
  cases ρ[j]? with
  | none => rfl
  | some z =>
    show some (tOf (if vs.contains j = true then frzS z else .non)) = some (if vs.contains j = true then frz (tOf z) else .hole)
    split
    · rw [tOf_frzS]
    · rfl
/-- slots frozen -/
theorem Step.frzOn (e : EOk ρ r) (vs : List Nat) (rp : reps s (eT ρ) (eD r)) (x : exs s (eT ρ) (eD r)) : Step s (eT ρ) (eD r) s (eT (EN.frzOn vs ρ)) (eD r) := by
  refine Step.sub id rp x (by simp [frzOn_len, e.len]) (fun i t' d' h1 h2 => ?_) (fun i j t' u' ne h => absurd h ne)
  rw [eT_frzOn] at h1
  cases q : (eT ρ)[i]? with
  | none => rw [q] at h1; cases h1
  | some t =>
    rw [q] at h1
    cases h1
    refine .inr ⟨t, q, h2, ?_⟩
    split
    · exact .inr rfl
    · exact .inl rfl
theorem Step.frzR (e : EOk ρ r) (vs : List Nat) (rp : reps s (eT ρ) (eD r)) (x : exs s (eT ρ) (eD r)) : Step s (eT ρ) (eD r) s (eT (EN.frzR vs ρ)) (eD r) := by
  refine Step.sub id rp x (by simp [frzR_len, e.len]) (fun i t' d' h1 h2 => ?_) (fun i j t' u' ne h => absurd h ne)
  rw [eT_frzR] at h1
  cases q : (eT ρ)[i]? with
  | none => rw [q] at h1; cases h1
  | some t =>
    rw [q] at h1
    cases h1
    dsimp only
    split
    · exact .inr ⟨t, q, h2, .inr rfl⟩
    · exact .inl rfl
/-- nothing is owned in a frozen environment -/
theorem nOE_inOs (h : nOE ρ) {a : Nat} : ¬ inOs s (eT ρ) (eD r) a := fun q => by
  obtain ⟨i, t, d, h1, h2, h3⟩ := inOs_at.mp q
  unfold eT at h1
  rw [List.getElem?_map] at h1
  cases z : ρ[i]? with
  | none => rw [z] at h1; cases h1
  | some y =>
    rw [z] at h1
    cases h1
    cases y with
    | val u => exact nO_inO (h i u z) h3
    | non => unfold tOf inO at h3; exact h3
    | exc x => unfold tOf inO at h3; exact h3
/-- a slot is set to what stands in front -/
theorem Step.put (rp : reps s (t :: eT ρ) (d :: eD r)) (x : exs s (t :: eT ρ) (d :: eD r)) (hl : ρ.length = r.length) : Step s (t :: eT ρ) (d :: eD r) s (eT (ρ.set i (.val t))) (eD (r.set i (.val d))) := by
  rw [eT_set, eD_set]
  refine Step.sub (fun j => if j = i then 0 else j + 1) rp x (by simp [hl]) (fun j t' d' h1 h2 => ?_) (fun j k t' u' ne h h1 h2 => ?_)
  · rw [List.getElem?_set] at h1 h2
    by_cases hj : i = j
    · rw [if_pos hj] at h1 h2
      split at h1
      · split at h2
        · cases h1; cases h2
          subst hj
          exact .inr ⟨t, by rw [if_pos rfl]; rfl, by rw [if_pos rfl]; rfl, .inl rfl⟩
        · cases h2
      · cases h1
    · rw [if_neg hj] at h1 h2
      exact .inr ⟨t', by rw [if_neg (Ne.symm hj)]; exact h1, by rw [if_neg (Ne.symm hj)]; exact h2, .inl rfl⟩
  · have h : (if j = i then 0 else j + 1) = (if k = i then 0 else k + 1) := h
    split at h <;> split at h <;> omega
/-- a slot's thing is taken out -/
theorem Step.take (h1 : (eT ρ)[i]? = some t) (h2 : (eD r)[i]? = some d) (rp : reps s (eT ρ) (eD r)) (x : exs s (eT ρ) (eD r)) (hl : ρ.length = r.length) : Step s (eT ρ) (eD r) s (t :: eT (ρ.set i .non)) (d :: eD r) := by
  rw [eT_set]
  refine Step.sub (fun j => match j with
    | 0 => i
    | k + 1 => k) rp x (by simp [hl]) (fun j t' d' q1 q2 => ?_) (fun j k t' u' ne h q1 q2 => ?_)
  · cases j with
    | zero => cases q1; cases q2; exact .inr ⟨t, h1, h2, .inl rfl⟩
    | succ k =>
      have q1 : ((eT ρ).set i (tOf .non))[k]? = some t' := q1
      have q2 : (eD r)[k]? = some d' := q2
      rw [List.getElem?_set] at q1
      by_cases hj : i = k
      · rw [if_pos hj] at q1
        split at q1
        · cases q1; exact .inl rfl
        · cases q1
      · rw [if_neg hj] at q1
        exact .inr ⟨t', q1, q2, .inl rfl⟩
  · cases j with
    | zero =>
      cases k with
      | zero => exact absurd rfl ne
      | succ k =>
        have h : i = k := h
        have q2 : ((eT ρ).set i (tOf .non))[k]? = some u' := q2
        rw [List.getElem?_set, if_pos h] at q2
        split at q2
        · cases q2; exact .inl rfl
        · cases q2
    | succ j =>
      cases k with
      | zero =>
        have h : j = i := h
        have q1 : ((eT ρ).set i (tOf .non))[j]? = some t' := q1
        rw [List.getElem?_set, if_pos h.symm] at q1
        split at q1
        · cases q1; exact .inr rfl
        · cases q1
      | succ k => exact absurd (congrArg (· + 1) (show j = k from h)) ne
/-- a frozen copy of a slot's thing, the slot frozen too -/
theorem Step.copy (h : ρ[i]? = some (.val t)) (h2 : (eD r)[i]? = some d) (rp : reps s (eT ρ) (eD r)) (x : exs s (eT ρ) (eD r)) (hl : ρ.length = r.length) : Step s (eT ρ) (eD r) s (frz t :: eT (ρ.set i (.val (frz t)))) (d :: eD r) := by
  have h1 : (eT ρ)[i]? = some t := by simp [h, tOf]
  rw [eT_set]
  refine Step.sub (fun j => match j with
    | 0 => i
    | k + 1 => k) rp x (by simp [hl]) (fun j t' d' q1 q2 => ?_) (fun j k t' u' ne h q1 q2 => ?_)
  · cases j with
    | zero => cases q1; cases q2; exact .inr ⟨t, h1, h2, .inr rfl⟩
    | succ k =>
      have q1 : ((eT ρ).set i (tOf (.val (frz t))))[k]? = some t' := q1
      have q2 : (eD r)[k]? = some d' := q2
      rw [List.getElem?_set] at q1
      by_cases hj : i = k
      · rw [if_pos hj] at q1
        split at q1
        · cases q1; subst hj; exact .inr ⟨t, h1, q2, .inr rfl⟩
        · cases q1
      · rw [if_neg hj] at q1
        exact .inr ⟨t', q1, q2, .inl rfl⟩
  · cases j with
    | zero => cases q1; exact .inr (nO_frz t)
    | succ j =>
      cases k with
      | zero =>
        have h : j = i := h
        have q1 : ((eT ρ).set i (tOf (.val (frz t))))[j]? = some t' := q1
        rw [List.getElem?_set, if_pos h.symm] at q1
        split at q1
        · cases q1; exact .inr (nO_frz t)
        · cases q1
      | succ k => exact absurd (congrArg (· + 1) (show j = k from h)) ne
/-- a value got in the frozen environment is one in the whole environment -/
theorem Step.backs {us : List T} {es : List D} (hl : us.length = es.length) (e : EOk ρ r) {vs : List Nat} (rp : reps s (eT ρ) (eD r)) (x : exs s (eT ρ) (eD r)) (st : Step s (eT (EN.frzR vs ρ)) (eD r) s' (us ++ eT (EN.frzR vs ρ)) (es ++ eD r)) : Step s (eT ρ) (eD r) s' (us ++ eT (EN.frzOn vs ρ)) (es ++ eD r) := by
  have hO : ∀ a, ¬ inOs s (eT (EN.frzR vs ρ)) (eD r) a := fun a => nOE_inOs (nOE_frzR vs)
  have old : ∀ a, a < s.length → s'[a]? = s[a]? := fun a h => st.fr a h (hO a)
  have fz := Step.frzOn e vs rp x
  have sm : Sms s s' (eT (EN.frzOn vs ρ)) (eD r) := sms_of _ _ fun a h => old a (inFs_lt _ _ a fz.rp h)
  obtain ⟨q1, q2⟩ := reps_app_inv hl st.rp
  obtain ⟨x1, x2, x3, x4⟩ := (exs_app hl).mp st.ex
  have tO : ∀ a, inOs s' us es a → s.length ≤ a := fun a h => by
    rcases st.ow a ((inOs_app hl).mpr (.inl h)) with z | z
    · exact (hO a z).elim
    · exact z
  have tF : ∀ a, inFs s' us es a → (∃ (j : Nat) (u : T) (c : D), vs.contains j = true ∧ (eT ρ)[j]? = some u ∧ (eD r)[j]? = some c ∧ inF s u c a) ∨ s.length ≤ a := fun a h => by
    rcases st.fu a ((inFs_app hl).mpr (.inl h)) with z | z
    · obtain ⟨j, u, c, z1, z2, z3⟩ := inFs_at.mp z
      rw [eT_frzR] at z1
      cases w : (eT ρ)[j]? with
      | none => rw [w] at z1; cases z1
      | some y =>
        rw [w] at z1
        cases z1
        cases b : vs.contains j with
        | true =>
          dsimp only at z3
          rw [if_pos b] at z3
          exact .inl ⟨j, y, c, b, w, z2, inF_frz.mp z3⟩
        | false =>
          dsimp only at z3
          rw [b] at z3
          rw [if_neg (by decide)] at z3
          unfold inF at z3
          exact z3.elim
    · exact .inr z
  refine ⟨st.len, fun a h _ => old a h, reps_app q1 (sm.rp fz.rp), (exs_app hl).mpr ⟨x1, sm.ex fz.ex, fun a o f => ?_, fun a o f => ?_⟩, fun a q => ?_, fun a q => ?_⟩
  · have := tO a o
    have := inFs_lt _ _ a fz.rp ((sm.fu a).mp f)
    omega
  · have o := (sm.ow a).mp o
    rcases tF a f with ⟨j, u, c, b, w1, w2, w3⟩ | z
    · obtain ⟨k, v, g, z1, z2, z3⟩ := inOs_at.mp o
      rw [eT_frzOn] at z1
      cases w : (eT ρ)[k]? with
      | none => rw [w] at z1; cases z1
      | some y =>
        rw [w] at z1
        cases z1
        cases bk : vs.contains k with
        | true =>
          dsimp only at z3
          rw [if_pos bk] at z3
          exact nO_inO (nO_frz y) z3
        | false =>
          dsimp only at z3
          rw [bk, if_neg (by decide)] at z3
          have ne : k ≠ j := fun e => by rw [e, b] at bk; cases bk
          exact (exs_at.mp x).2 k j y g u c ne w z2 w1 w2 a z3 w3
    · have := inFs_lt _ _ a fz.rp (inOs_F _ _ a o)
      omega
  · rcases (inOs_app hl).mp q with z | z
    · exact .inr (tO a z)
    · exact fz.ow a ((sm.ow a).mp z)
  · rcases (inFs_app hl).mp q with z | z
    · rcases tF a z with ⟨j, u, c, _, w1, w2, w3⟩ | z
      · exact .inl (inFs_at.mpr ⟨j, u, c, w1, w2, w3⟩)
      · exact .inr z
    · exact fz.fu a ((sm.fu a).mp z)
/-- .. owned through and through: nothing is frozen -/
theorem Step.backs_own {us : List T} {es : List D} (hl : us.length = es.length) (e : EOk ρ r) {vs : List Nat} (rp : reps s (eT ρ) (eD r)) (x : exs s (eT ρ) (eD r)) (h : dOwns us = true) (st : Step s (eT (EN.frzR vs ρ)) (eD r) s' (us ++ eT (EN.frzR vs ρ)) (es ++ eD r)) : Step s (eT ρ) (eD r) s' (us ++ eT ρ) (es ++ eD r) := by
  have hO : ∀ a, ¬ inOs s (eT (EN.frzR vs ρ)) (eD r) a := fun a => nOE_inOs (nOE_frzR vs)
  have old : ∀ a, a < s.length → s'[a]? = s[a]? := fun a h => st.fr a h (hO a)
  have sm : Sms s s' (eT ρ) (eD r) := sms_of _ _ fun a h => old a (inFs_lt _ _ a rp h)
  obtain ⟨q1, q2⟩ := reps_app_inv hl st.rp
  obtain ⟨x1, x2, x3, x4⟩ := (exs_app hl).mp st.ex
  have tO : ∀ a, inOs s' us es a → s.length ≤ a := fun a h => by
    rcases st.ow a ((inOs_app hl).mpr (.inl h)) with z | z
    · exact (hO a z).elim
    · exact z
  have tF : ∀ a, inFs s' us es a → s.length ≤ a := fun a q => tO a (dOwns_O us es a h q)
  have hI : ∀ a, inFs s' (eT ρ) (eD r) a → a < s.length := fun a q => inFs_lt _ _ a rp ((sm.fu a).mp q)
  refine ⟨st.len, fun a h _ => old a h, reps_app q1 (sm.rp rp), (exs_app hl).mpr ⟨x1, sm.ex x, fun a o f => ?_, fun a o f => ?_⟩, fun a q => ?_, fun a q => ?_⟩
  · have := tO a o; have := hI a f; omega
  · have := tF a f; have := hI a (inOs_F _ _ a o); omega
  · rcases (inOs_app hl).mp q with z | z
    · exact .inr (tO a z)
    · exact .inl ((sm.ow a).mp z)
  · rcases (inFs_app hl).mp q with z | z
    · exact .inr (tF a z)
    · exact .inl ((sm.fu a).mp z)
theorem Step.back (e : EOk ρ r) {vs : List Nat} (rp : reps s (eT ρ) (eD r)) (x : exs s (eT ρ) (eD r)) (st : Step s (eT (EN.frzR vs ρ)) (eD r) s' (t :: eT (EN.frzR vs ρ)) (d :: eD r)) : Step s (eT ρ) (eD r) s' (t :: eT (EN.frzOn vs ρ)) (d :: eD r) :=
  Step.backs (us := [t]) (es := [d]) rfl e rp x st
theorem Step.back_own (e : EOk ρ r) {vs : List Nat} (rp : reps s (eT ρ) (eD r)) (x : exs s (eT ρ) (eD r)) (h : dOwn t = true) (st : Step s (eT (EN.frzR vs ρ)) (eD r) s' (t :: eT (EN.frzR vs ρ)) (d :: eD r)) : Step s (eT ρ) (eD r) s' (t :: eT ρ) (d :: eD r) :=
  Step.backs_own (us := [t]) (es := [d]) rfl e rp x (by unfold dOwns dOwns; rw [h]; rfl) st
/-- an error within the frozen environment -/
theorem Step.back_exc (e : EOk ρ r) {vs : List Nat} (rp : reps s (eT ρ) (eD r)) (x : exs s (eT ρ) (eD r)) {us : List T} {es : List D} (st : Step s (eT (EN.frzR vs ρ)) (eD r) s' us es) : Step s (eT ρ) (eD r) s' (eT ρ) (eD r) := by
  have hO : ∀ a, ¬ inOs s (eT (EN.frzR vs ρ)) (eD r) a := fun a => nOE_inOs (nOE_frzR vs)
  have old : ∀ a, a < s.length → s'[a]? = s[a]? := fun a h => st.fr a h (hO a)
  have sm : Sms s s' (eT ρ) (eD r) := sms_of _ _ fun a h => old a (inFs_lt _ _ a rp h)
  exact ⟨st.len, fun a h _ => old a h, sm.rp rp, sm.ex x, fun a q => .inl ((sm.ow a).mp q), fun a q => .inl ((sm.fu a).mp q)⟩
end
end EW.EN

set_option Elab.async false
set_option linter.all false
set_option maxRecDepth 100000
/-! N layer 3: the meaning over trees: no places, no store. -/
namespace EW.EN
open PySem

inductive NR (α : Type) where
  | ok (a : α) (ρ : NEnv) | exc (x : Exn) (ρ : NEnv) | no
namespace NR
def bind {α β : Type} (x : NR α) (f : α → NEnv → NR β) : NR β := match x with
  | .ok a ρ => f a ρ
  | .exc e ρ => .exc e ρ
  | .no => .no
def opt {α : Type} (o : Option α) (ρ : NEnv) : NR α := match o with
  | some a => .ok a ρ
  | none => .no
end NR
inductive CR where
  | ok (t : T) (outs : List T) | exc (x : Exn) (outs : List T) | no
/-- a program, with what its defs write of what they are handed -/
structure NP where
  P : Prg
  io : Nat → List Nat
  iom : Nat → Bool
structure Nal where
  Q : NP
  L : Nat
  lock : List Nat
  call : Nat → List T → CR

/-! ### looks at the text -/
mutual
def vars : CE → List Nat
  | .var i => [i]
  | .bin _ a b => vars a ++ vars b
  | .neg a => vars a
  | .nt a => vars a
  | .andl es => varss es
  | .orl es => varss es
  | .cmp _ a b => vars a ++ vars b
  | .chn _ _ a b c => vars a ++ (vars b ++ vars c)
  | .ife t a b => vars t ++ (vars a ++ vars b)
  | .fld o _ => vars o
  | .ix o i => vars o ++ vars i
  | .slc o lo hi => vars o ++ (vars lo ++ vars hi)
  | .tup es => varss es
  | .lst es => varss es
  | .dct ks vs => varss ks ++ varss vs
  | .lc _ _ _ src cond elt => varss src ++ (varss cond ++ vars elt)
  | .lc2 _ _ _ src cond _ _ _ src1 cond1 elt => varss src ++ (varss cond ++ (varss src1 ++ (varss cond1 ++ vars elt)))
  | .call _ es => varss es
  | .make _ es => varss es
  | .meth _ o es => vars o ++ varss es
  | .bi _ es => varss es
  | .bm _ o es => vars o ++ varss es
  | .isi e _ => vars e
  | .isx i _ => [i]
  | .xfl i _ => [i]
  | .non => []
  | .bl _ => []
  | .int _ => []
  | .str _ => []
  | .con _ => []
  | .nope => []
def varss : CEs → List Nat
  | .nil => []
  | .cons e es => vars e ++ varss es
end
def bmIo : BM → Bool
  | .append => true
  | .extend => true
  | .pop0 => true
  | .pop1 => true
  | .setdefault => true
  | .update => true
  | _ => false
mutual
def hasIo (Q : NP) : CE → Bool
  | .bin _ a b => hasIo Q a || hasIo Q b
  | .neg a => hasIo Q a
  | .nt a => hasIo Q a
  | .andl es => hasIos Q es
  | .orl es => hasIos Q es
  | .cmp _ a b => hasIo Q a || hasIo Q b
  | .chn _ _ a b c => hasIo Q a || (hasIo Q b || hasIo Q c)
  | .ife t a b => hasIo Q t || (hasIo Q a || hasIo Q b)
  | .fld o _ => hasIo Q o
  | .ix o i => hasIo Q o || hasIo Q i
  | .slc o lo hi => hasIo Q o || (hasIo Q lo || hasIo Q hi)
  | .tup es => hasIos Q es
  | .lst es => hasIos Q es
  | .dct ks vs => hasIos Q ks || hasIos Q vs
  | .lc _ _ _ src cond elt => hasIos Q src || (hasIos Q cond || hasIo Q elt)
  | .lc2 _ _ _ src cond _ _ _ src1 cond1 elt => hasIos Q src || (hasIos Q cond || (hasIos Q src1 || (hasIos Q cond1 || hasIo Q elt)))
  | .call f es => !(Q.io f).isEmpty || hasIos Q es
  | .make _ es => hasIos Q es
  | .meth m o es => Q.iom m || (hasIo Q o || hasIos Q es)
  | .bi _ es => hasIos Q es
  | .bm b o es => bmIo b || (hasIo Q o || hasIos Q es)
  | .isi e _ => hasIo Q e
  | _ => false
def hasIos (Q : NP) : CEs → Bool
  | .nil => false
  | .cons e es => hasIo Q e || hasIos Q es
end

/-! ### the operations over trees -/
def plainL : List T → Option (List D)
  | [] => some []
  | .p x :: r => match plainL r with
    | some xs => some (x :: xs)
    | none => none
  | _ => none
def mkTup (ts : List T) : T := match plainL ts with
  | some xs => .p (.tup xs)
  | none => .tup true ts
def mkLst (ts : List T) : T := match plainL ts with
  | some xs => .lp true xs
  | none => .lst true ts
def kid (o : Bool) (t : T) : T := if o = true then t else frz t
/-- the items of a list or tuple -/
def items : T → Option (List T)
  | .lp _ xs => some (xs.map .p)
  | .p (.tup xs) => some (xs.map .p)
  | .rol xs => some (xs.map .p)
  | .lst o ts => some (kids o ts)
  | .tup o ts => some (kids o ts)
  | _ => none
def lisT : T → Option (List T)
  | .lp _ xs => some (xs.map .p)
  | .lst o ts => some (kids o ts)
  | _ => none
def nbin (op : BO) (x y : T) : Option T := match x, y with
  | .p a, .p b => (match bin op a b [] with
    | .ok d _ => some (.p d)
    | _ => none)
  | .lp _ xs, .lp _ ys => (match op with
    | .add => if xs.length + ys.length ≤ sizeLine then some (.lp true (xs ++ ys)) else none
    | _ => none)
  | x, y => (match op with
    | .add => match lisT x, lisT y with
      | some xs, some ys => if xs.length + ys.length ≤ sizeLine then some (.lst true (xs ++ ys)) else none
      | _, _ => none
    | _ => none)
mutual
def ntoPd : Nat → T → Option PyData
  | n, .p x => toPd [] n x
  | n + 1, .lp _ xs => (omap (toPd [] n) xs).map .list
  | n + 1, .rol xs => (omap (toPd [] n) xs).map .list
  | n + 1, .tup _ ts => (ntoPds n ts).map .tuple
  | n + 1, .lst _ ts => (ntoPds n ts).map .list
  | _, _ => none
def ntoPds : Nat → List T → Option (List PyData)
  | _, [] => some []
  | n, t :: ts => match ntoPd n t with
    | none => none
    | some y => match ntoPds n ts with
      | none => none
      | some ys => some (y :: ys)
end
def neq (x y : T) : Option Bool := match ntoPd 64 x, ntoPd 64 y with
  | some p, some q => if SeqAt.shaped p && SeqAt.shaped q then some (PyData.eqv p q) else none
  | _, _ => none
def nis (x y : T) : Option Bool := match y with
  | .p .non => (match x with
    | .hole => none
    | .p a => some (decide (a = .non))
    | _ => some false)
  | .p (.bl b) => (match x with
    | .p (.bl a) => some (decide (a = b))
    | _ => none)
  | _ => none
def nin (x y : T) : Option Bool := match x with
  | .p a => (match (match y with
      | .lp _ xs => some xs
      | .rol xs => some xs
      | .p (.tup xs) => some xs
      | _ => none : Option (List D)) with
    | some xs => if flatD a && xs.all flatD then some (xs.any fun y => eqF y a) else none
    | none => (match y with
      | .p b => inS a b
      | _ => none))
  | _ => none
def nord (o : CO) (x y : T) : Option Bool := match x, y with
  | .p (.int i), .p (.int j) => cmpI o i j
  | _, _ => none
def ncmp (op : CO) (x y : T) : Option Bool := match op with
  | .eq => neq x y
  | .ne => (neq x y).map (!·)
  | .is => nis x y
  | .isnot => (nis x y).map (!·)
  | .isin => nin x y
  | .notin => (nin x y).map (!·)
  | o => nord o x y
def ntru : T → Option Bool
  | .p x => (match tru x [] with
    | .ok b _ => some b
    | _ => none)
  | .lp _ xs => some (!xs.isEmpty)
  | .rol xs => some (!xs.isEmpty)
  | .dp _ kvs => some (!kvs.isEmpty)
  | .lst _ ts => some (!ts.isEmpty)
  | .tup _ ts => some (!ts.isEmpty)
  | _ => none
def fidx : List Nat → Nat → Option Nat
  | [], _ => none
  | g :: r, f => if g = f then some 0 else (fidx r f).map (· + 1)
def nget (P : Prg) (t : T) (f : Nat) : Option T := match t with
  | .ins o c fs ts => if P.flds c f then (match fidx fs f with
    | some k => (ts[k]?).map (kid o)
    | none => none) else none
  | _ => none
def nix (o i : T) : Option T := match i with
  | .p (.int j) => (match o with
    | .p (.tup xs) => (L2.atI xs j).map .p
    | .p (.str x) => if x.length ≤ sizeLine then (L2.atI x j).map (fun c => .p (.str [c])) else none
    | .lp _ xs => (L2.atI xs j).map .p
    | .rol xs => (L2.atI xs j).map .p
    | .lst b ts => (L2.atI ts j).map (kid b)
    | .tup b ts => (L2.atI ts j).map (kid b)
    | _ => none)
  | _ => none
def nsl (o : T) (lo hi : Option Int) : Option T := match o with
  | .p (.str x) => if x.length ≤ sizeLine then some (.p (.str (cutL x lo hi))) else none
  | .p (.tup xs) => some (.p (.tup (cutL xs lo hi)))
  | .lp _ xs => some (.lp true (cutL xs lo hi))
  | .rol xs => some (.lp true (cutL xs lo hi))
  | .lst b ts => some (.lst true (cutL (kids b ts) lo hi))
  | .tup b ts => some (.tup true (cutL (kids b ts) lo hi))
  | _ => none
def nintO : T → Option (Option Int)
  | .p (.int i) => some (some i)
  | _ => none
def plainI : T → Option (List D)
  | .lp _ xs => some xs
  | .rol xs => some xs
  | .p (.tup xs) => some xs
  | _ => none
def nlen : T → Option Nat
  | .p (.tup xs) => some xs.length
  | .p (.str x) => if x.length ≤ sizeLine then some x.length else none
  | .lp _ xs => some xs.length
  | .rol xs => some xs.length
  | .lst _ ts => some ts.length
  | .tup _ ts => some ts.length
  | _ => none
def nbi (b : BI) (vs : List T) : Option T := match b, vs with
  | .len, [t] => (nlen t).map fun (n : Nat) => T.p (.int (n : Int))
  | .abs, [.p (.int i)] => some (.p (.int (if i < 0 then -i else i)))
  | .int, [.p (.int i)] => some (.p (.int i))
  | .int, [.p (.bl b)] => some (.p (.int (if b = true then 1 else 0)))
  | .min2, [.p (.int i), .p (.int j)] => some (.p (.int (if j < i then j else i)))
  | .max2, [.p (.int i), .p (.int j)] => some (.p (.int (if j > i then j else i)))
  | .all, [.lp _ xs] => (omap blOf xs).map fun bs => .p (.bl (bs.all id))
  | .any, [.lp _ xs] => (omap blOf xs).map fun bs => .p (.bl (bs.any id))
  | .sorted, [t] => (plainI t).bind fun xs => (omap intOf xs).map fun ns => .lp true ((sortI ns).map .int)
  | .lst, [t] => (match plainI t with
    | some xs => some (.lp true xs)
    | none => match items t with
      | some ts => some (.lst true ts)
      | none => none)
  | .tup, [t] => (match plainI t with
    | some xs => some (.p (.tup xs))
    | none => match items t with
      | some ts => some (.tup true ts)
      | none => none)
  | .str, [.p (.int i)] => if i.natAbs.log2 < 1920 then some (.p (.str (sInt i))) else none
  | .int, [.p (.str x)] => (match intText? (strOf x) with
    | some n => if x.length ≤ 640 then some (.p (.int n)) else none
    | none => none)
  | .fmt, [.p (.str x)] => if x.length ≤ sizeLine then some (.p (.str x)) else none
  | .fmt, [.p (.int i)] => if i.natAbs.log2 < 1920 then some (.p (.str (sInt i))) else none
  | .fstr, us => (match plainL us with
    | some ds => (match omap txtOf ds with
      | some xs => if xs.flatten.length ≤ sizeLine then some (.p (.str xs.flatten)) else none
      | none => none)
    | none => none)
  | _, _ => none
def nty (t : T) (y : Ty) : Option Bool := match t with
  | .p x => tyIs [] x y
  | .lp _ _ => some (y == .lst)
  | .lst _ _ => some (y == .lst)
  | .dp _ _ => some (y == .dic)
  | .dic _ _ _ => some (y == .dic)
  | .tup _ _ => some (y == .tup)
  | _ => none
def nisi (t : T) (ts : List Ty) : Option Bool := match ts with
  | [y] => nty t y
  | _ => none
def tupI : T → Option (List T)
  | .p (.tup xs) => some (xs.map .p)
  | .tup o ts => some (kids o ts)
  | _ => none
def tgN : Tg → List Nat
  | .nm i => [i]
  | .tp is => is
  | .tp2 i js => i :: js
def setAllN : List Nat → List T → NEnv → NEnv
  | i :: is, t :: ts, ρ => setAllN is ts (ρ.set i (.val t))
  | _, _, ρ => ρ
def bindN (lock : List Nat) (tg : Tg) (t : T) (ρ : NEnv) : Option NEnv := match tg with
  | .nm i => if lock.contains i then none else some (ρ.set i (.val t))
  | .tp is => if is.any lock.contains then none else (match items t with
    | some ts => if is.length = ts.length then some (setAllN is ts ρ) else none
    | none => none)
  | .tp2 i js => if lock.contains i || js.any lock.contains then none else (match tupI t with
    | some [a, b] => (match tupI b with
      | some ts => if js.length = ts.length then some (setAllN js ts (ρ.set i (.val a))) else none
      | none => none)
    | _ => none)
def wipeN (ρ : NEnv) : List Nat → NEnv
  | [] => ρ
  | v :: vs => (wipeN ρ vs).set v .non
/-- what a loop runs over -/
def nIt (k : IK) (vs : List T) : Option (List T) := match k, vs with
  | .plain, [t] => items (frz t)
  | .range1, [.p (.int j)] => if -(2 ^ 62) ≤ j ∧ j ≤ sizeLine then some ((List.range j.toNat).map fun i => .p (.int (0 + (i : Nat)))) else none
  | .range2, [.p (.int i), .p (.int j)] => if -(2 ^ 62) ≤ i ∧ i < 2 ^ 62 ∧ -(2 ^ 62) ≤ j ∧ j < 2 ^ 62 ∧ j - i ≤ sizeLine then some ((List.range (j - i).toNat).map fun k => .p (.int (i + (k : Nat)))) else none
  | _, _ => none
/-- a method of a built-in type: its answer, and what its receiver is then -/
def nbm (b : BM) (t : T) (vs : List T) : Option (T × T) := match b, vs with
  | .append, [v] => (match t with
    | .lp true xs => if xs.length < sizeLine then (match v with
      | .p x => some (.p .non, .lp true (xs ++ [x]))
      | v => some (.p .non, .lst true (xs.map .p ++ [v]))) else none
    | .lst true ts => if ts.length < sizeLine then some (.p .non, .lst true (ts ++ [v])) else none
    | _ => none)
  | .join, [v] => (match t with
    | .p (.str a) => (match plainI v with
      | some xs => (match omap txtOf xs with
        | some ys => if (ys.map (·.length)).sum + ys.length * a.length ≤ 16777216 then some (.p (.str (TL.joinL a ys)), .p (.str a)) else none
        | none => none)
      | none => none)
    | _ => none)
  | _, _ => none
/-- the receiver is of the method's type -/
def nchk (b : BM) (t : T) : Bool := match bmT b, t with
  | .lst, .lp _ _ => true
  | .lst, .lst _ _ => true
  | .dic, .dp _ _ => true
  | .dic, .dic _ _ _ => true
  | .str, .p (.str _) => true
  | _, _ => false

/-! ### places handed to a def -/
inductive Ar where
  | val (t : T) | plc (i : Nat)
def take1 (a : Ar) (ρ : NEnv) : Option (T × NEnv) := match a with
  | .val t => some (t, ρ)
  | .plc i => match ρ[i]? with
    | some (.val t) => some (t, ρ.set i .non)
    | _ => none
def takes : List Ar → NEnv → Option (List T × NEnv)
  | [], ρ => some ([], ρ)
  | a :: as, ρ => match takes as ρ with
    | some (ts, ρ1) => (match take1 a ρ1 with
      | some (t, ρ2) => some (t :: ts, ρ2)
      | none => none)
    | none => none
def put1 (a : Ar) (t : T) (ρ : NEnv) : Option NEnv := match a with
  | .val _ => some ρ
  | .plc i => match ρ[i]? with
    | some .non => some (ρ.set i (.val t))
    | _ => none
def puts : List Ar → List T → NEnv → Option NEnv
  | a :: as, t :: ts, ρ => match put1 a t ρ with
    | some ρ1 => puts as ts ρ1
    | none => none
  | [], _, ρ => some ρ
  | _ :: _, [], _ => none
def ncall (C : Nal) (f n : Nat) (as : List Ar) (ρ : NEnv) : NR T := match takes as ρ with
  | some (ts, ρ1) => if nrs (C.Q.P.dfl f n) = true ∧ (ts ++ (C.Q.P.dfl f n).map T.p).length = C.Q.P.np f then (match C.call f (ts ++ (C.Q.P.dfl f n).map T.p) with
    | .ok t outs => (match puts as outs ρ1 with
      | some ρ2 => .ok t ρ2
      | none => .no)
    | .exc x outs => (match puts as outs ρ1 with
      | some ρ2 => .exc x ρ2
      | none => .no)
    | .no => .no) else .no
  | none => .no

/-! ### the meaning of expressions -/
/-- in the frozen environment; what the value keeps of the slots is frozen from then on -/
def bor (f : Bool → NEnv → NR T) (vs : List Nat) (ρ : NEnv) : NR T := match f true (frzR vs ρ) with
  | .ok t _ => if dOwn t = true then .ok t ρ else .ok t (frzOn vs ρ)
  | .exc x _ => .exc x ρ
  | .no => .no
def opnd (f : Bool → NEnv → NR T) (io : Bool) (vs : List Nat) (fz : Bool) (ρ : NEnv) : NR T := match fz with
  | true => f true ρ
  | false => match io with
    | true => f false ρ
    | false => bor f vs ρ
def nlcGo (body : T → NEnv → NR (Option T)) (own : List Nat) : List T → List T → NEnv → NR (List T)
  | [], acc, ρ => .ok acc ρ
  | x :: xs, acc, ρ => match body x (wipeN ρ own) with
    | .ok o ρ1 => nlcGo body own xs (acc ++ o.toList) ρ1
    | _ => .no
def nlcOut (body : T → List T → NEnv → NR (List T)) (own : List Nat) : List T → List T → NEnv → NR (List T)
  | [], acc, ρ => .ok acc ρ
  | x :: xs, acc, ρ => match body x acc (wipeN ρ own) with
    | .ok acc1 ρ1 => if acc1.length ≤ sizeLine then nlcOut body own xs acc1 ρ1 else .no
    | _ => .no
/-- the def that a method of a class is -/
def nmeth (C : Nal) (t : T) (m n : Nat) : Option Nat := match t with
  | .ins _ c _ _ => (match C.Q.P.meth c m with
    | some f => if C.Q.P.can f n = true then some f else none
    | none => none)
  | _ => none
/-- a receiver that the method writes: a slot -/
def ownRec (C : Nal) (m n : Nat) (o : CE) (fz : Bool) (ρ : NEnv) : Option (Nat × Nat) := match fz, o with
  | false, .var i => (match ρ[i]? with
    | some (.val t) => (match nmeth C t m n with
      | some f => if (C.Q.io f).contains 0 then some (i, f) else none
      | none => none)
    | _ => none)
  | _, _ => none
def ownBm (b : BM) (o : CE) (fz : Bool) (ρ : NEnv) : Option Nat := match fz, bmIo b, o with
  | false, true, .var i => some i
  | _, _, _ => none
/-- a field of a slot -/
def ownBmF (b : BM) (o : CE) (fz : Bool) : Option (Nat × Nat) := match fz, bmIo b, o with
  | false, true, .fld (.var i) f => some (i, f)
  | _, _, _ => none
/-- a slot's field is taken out -/
def takeF (P : Prg) (i f : Nat) (ρ : NEnv) : Option (T × NEnv × Nat) := match ρ[i]? with
  | some (.val (.ins true c fs ts)) => if P.flds c f then (match fidx fs f with
    | some k => (match ts[k]? with
      | some t => some (t, ρ.set i (.val (.ins true c fs (ts.set k .hole))), k)
      | none => none)
    | none => none) else none
  | _ => none
def putF (i k : Nat) (t : T) (ρ : NEnv) : Option NEnv := match ρ[i]? with
  | some (.val (.ins true c fs ts)) => some (ρ.set i (.val (.ins true c fs (ts.set k t))))
  | _ => none
mutual
def mden (C : Nal) : CE → Bool → NEnv → NR T
  | .var i, fz, ρ => (match ρ[i]? with
    | some (.val t) => if fz = true then .ok t ρ else .ok (frz t) (ρ.set i (.val (frz t)))
    | _ => .no)
  | .non, _, ρ => .ok (.p .non) ρ
  | .bl b, _, ρ => .ok (.p (.bl b)) ρ
  | .int i, _, ρ => .ok (.p (.int i)) ρ
  | .str x, _, ρ => .ok (.p (.str x)) ρ
  | .con g, _, ρ => if nr (C.Q.P.con g) = true then .ok (.p (C.Q.P.con g)) ρ else .no
  | .bin op a b, fz, ρ => NR.bind (opnd (mden C a) (hasIo C.Q a) (vars a) fz ρ) fun x ρ => NR.bind (opnd (mden C b) (hasIo C.Q b) (vars b) fz ρ) fun y ρ => NR.opt (nbin op x y) ρ
  | .neg a, fz, ρ => NR.bind (opnd (mden C a) (hasIo C.Q a) (vars a) fz ρ) fun x ρ => (match x with
    | .p (.int i) => .ok (.p (.int (-i))) ρ
    | _ => .no)
  | .nt a, fz, ρ => NR.bind (opnd (mden C a) (hasIo C.Q a) (vars a) fz ρ) fun x ρ => NR.opt ((ntru x).map fun b => .p (.bl (!b))) ρ
  | .andl es, fz, ρ => mdenAnd C es fz ρ
  | .orl es, fz, ρ => mdenOr C es fz ρ
  | .cmp op a b, fz, ρ => NR.bind (opnd (mden C a) (hasIo C.Q a) (vars a) fz ρ) fun x ρ => NR.bind (opnd (mden C b) (hasIo C.Q b) (vars b) fz ρ) fun y ρ => NR.opt ((ncmp op x y).map fun k => .p (.bl k)) ρ
  | .chn op op2 a b c, fz, ρ => NR.bind (opnd (mden C a) (hasIo C.Q a) (vars a) fz ρ) fun x ρ => NR.bind (opnd (mden C b) (hasIo C.Q b) (vars b) fz ρ) fun y ρ => (match ncmp op x y with
    | some true => NR.bind (opnd (mden C c) (hasIo C.Q c) (vars c) fz ρ) fun z ρ => NR.opt ((ncmp op2 y z).map fun k => .p (.bl k)) ρ
    | some false => .ok (.p (.bl false)) ρ
    | none => .no)
  | .ife t a b, fz, ρ => NR.bind (opnd (mden C t) (hasIo C.Q t) (vars t) fz ρ) fun x ρ => (match ntru x with
    | some true => opnd (mden C a) (hasIo C.Q a) (vars a) fz ρ
    | some false => opnd (mden C b) (hasIo C.Q b) (vars b) fz ρ
    | none => .no)
  | .fld o f, fz, ρ => NR.bind (opnd (mden C o) (hasIo C.Q o) (vars o) fz ρ) fun x ρ => NR.opt (nget C.Q.P x f) ρ
  | .ix o i, fz, ρ => NR.bind (opnd (mden C o) (hasIo C.Q o) (vars o) fz ρ) fun x ρ => NR.bind (opnd (mden C i) (hasIo C.Q i) (vars i) fz ρ) fun y ρ => NR.opt (nix x y) ρ
  | .slc o lo hi, fz, ρ => NR.bind (opnd (mden C o) (hasIo C.Q o) (vars o) fz ρ) fun x ρ =>
      NR.bind (match lo.isNope with
        | true => .ok none ρ
        | false => NR.bind (opnd (mden C lo) (hasIo C.Q lo) (vars lo) fz ρ) fun y ρ => NR.opt (nintO y) ρ) fun l ρ =>
      NR.bind (match hi.isNope with
        | true => .ok none ρ
        | false => NR.bind (opnd (mden C hi) (hasIo C.Q hi) (vars hi) fz ρ) fun y ρ => NR.opt (nintO y) ρ) fun h ρ => NR.opt (nsl x l h) ρ
  | .nope, _, _ => .no
  | .tup es, fz, ρ => NR.bind (mdens C es fz ρ) fun ts ρ => .ok (mkTup ts) ρ
  | .lst es, fz, ρ => NR.bind (mdens C es fz ρ) fun ts ρ => .ok (mkLst ts) ρ
  | .dct _ _, _, _ => .no
  | .lc own tg k src cond elt, fz, ρ => NR.bind (mdens C src fz ρ) fun vs ρ1 => (match (tgN tg).all own.contains, nIt k vs with
    | true, some xs => NR.bind (nlcGo (fun x ρ => match bindN C.lock tg x ρ with
        | some ρ => NR.bind (mdenC C cond fz ρ) fun b ρ => if b = true then NR.bind (opnd (mden C elt) (hasIo C.Q elt) (vars elt) fz ρ) fun y ρ => .ok (some y) ρ else .ok none ρ
        | none => .no) own xs [] ρ1) fun acc ρ2 => .ok (mkLst acc) (if fz = true then ρ else wipeN ρ2 own)
    | _, _ => .no)
  | .lc2 own tg k src cond own1 tg1 k1 src1 cond1 elt, fz, ρ => NR.bind (mdens C src fz ρ) fun vs ρ1 => (match (tgN tg).all own.contains && ((tgN tg1).all own1.contains && own1.all own.contains), nIt k vs with
    | true, some xs => NR.bind (nlcOut (fun x acc ρ => match bindN C.lock tg x ρ with
        | some ρ => NR.bind (mdenC C cond fz ρ) fun b ρ => if b = true then NR.bind (mdens C src1 fz ρ) fun vs1 ρ => (match nIt k1 vs1 with
            | some ys => nlcGo (fun x ρ => match bindN C.lock tg1 x ρ with
                | some ρ => NR.bind (mdenC C cond1 fz ρ) fun b ρ => if b = true then NR.bind (opnd (mden C elt) (hasIo C.Q elt) (vars elt) fz ρ) fun y ρ => .ok (some y) ρ else .ok none ρ
                | none => .no) own1 ys acc ρ
            | none => .no) else .ok acc ρ
        | none => .no) own xs [] ρ1) fun acc ρ2 => .ok (mkLst acc) (if fz = true then ρ else wipeN ρ2 own)
    | _, _ => .no)
  | .call f es, fz, ρ => NR.bind (margs C es (C.Q.io f) 0 fz ρ) fun as ρ => ncall C f es.len as ρ
  | .make c es, fz, ρ => (match C.Q.P.init c with
    | some f => NR.bind (margs C es (C.Q.io f) 1 fz ρ) fun as ρ => (match takes as ρ with
      | some (ts, ρ1) => if nrs (C.Q.P.dfl f (es.len + 1)) = true ∧ (T.ins true c [] [] :: (ts ++ (C.Q.P.dfl f (es.len + 1)).map T.p)).length = C.Q.P.np f then (match C.call f (T.ins true c [] [] :: (ts ++ (C.Q.P.dfl f (es.len + 1)).map T.p)) with
        | .ok (.p .non) (o :: outs) => (match puts as outs ρ1 with
          | some ρ2 => .ok o ρ2
          | none => .no)
        | .exc x (o :: outs) => (match puts as outs ρ1 with
          | some ρ2 => .exc x ρ2
          | none => .no)
        | _ => .no) else .no
      | none => .no)
    | none => (match C.Q.P.plain c, es with
      | true, .nil => .ok (.ins true c [] []) ρ
      | _, _ => .no))
  | .meth m o es, fz, ρ => (match ownRec C m (es.len + 1) o fz ρ with
    | some (i, f) => NR.bind (margs C es (C.Q.io f) 1 fz ρ) fun as ρ => ncall C f (es.len + 1) (.plc i :: as) ρ
    | none => NR.bind (opnd (mden C o) (hasIo C.Q o) (vars o) fz ρ) fun t ρ => (match nmeth C t m (es.len + 1) with
      | some f => NR.bind (margs C es (C.Q.io f) 1 fz ρ) fun as ρ => ncall C f (es.len + 1) (.val t :: as) ρ
      | none => .no))
  | .bi b es, fz, ρ => NR.bind (mdens C es fz ρ) fun ts ρ => NR.opt (nbi b ts) ρ
  | .bm b o es, fz, ρ => (match ownBm b o fz ρ with
    | some i => (match ρ[i]? with
      | some (.val t0) => if nchk b t0 = true then NR.bind (mdens C es fz ρ) fun vs ρ => (match ρ[i]? with
        | some (.val t) => (match nbm b t vs with
          | some (a, t') => .ok a (ρ.set i (.val t'))
          | none => .no)
        | _ => .no) else .no
      | _ => .no)
    | none => (match ownBmF b o fz with
      | some (i, f) => (match mdens C es true (frzR (varss es) ρ) with
        | .ok vs _ => (match takeF C.Q.P i f (if dOwns vs = true then ρ else frzOn (varss es) ρ) with
          | some (t, ρ1, k) => if nchk b t = true then (match nbm b t vs with
            | some (a, t') => (match putF i k t' ρ1 with
              | some ρ2 => .ok a ρ2
              | none => .no)
            | none => .no) else .no
          | none => .no)
        | .exc x _ => (match takeF C.Q.P i f ρ with
          | some (t, _, _) => if nchk b t = true then .exc x ρ else .no
          | none => .no)
        | .no => .no)
      | none => NR.bind (opnd (mden C o) (hasIo C.Q o) (vars o) fz ρ) fun t ρ => if nchk b t = true then NR.bind (mdens C es fz ρ) fun vs ρ => (match nbm b t vs with
        | some (a, _) => .ok a ρ
        | none => .no) else .no))
  | .isi e ts, fz, ρ => NR.bind (opnd (mden C e) (hasIo C.Q e) (vars e) fz ρ) fun x ρ => NR.opt ((nisi x ts).map fun k => .p (.bl k)) ρ
  | .isx i c, _, ρ => (match ρ[i]? with
    | some (.exc x) => if x.fs = [] then (match C.Q.P.sub x.c c with
      | some b => .ok (.p (.bl b)) ρ
      | none => .no) else .no
    | _ => .no)
  | .xfl i f, _, ρ => (match ρ[i]? with
    | some (.exc x) => (match x.fs.lookup f with
      | some d => if nr d = true then .ok (.p d) ρ else .no
      | none => .no)
    | _ => .no)
def mdens (C : Nal) : CEs → Bool → NEnv → NR (List T)
  | .nil, _, ρ => .ok [] ρ
  | .cons e es, fz, ρ => NR.bind (opnd (mden C e) (hasIo C.Q e) (vars e) fz ρ) fun x ρ => NR.bind (mdens C es fz ρ) fun xs ρ => .ok (x :: xs) ρ
def margs (C : Nal) : CEs → List Nat → Nat → Bool → NEnv → NR (List Ar)
  | .nil, _, _, _, ρ => .ok [] ρ
  | .cons e es, io, j, fz, ρ => NR.bind (match fz, io.contains j, e with
    | false, true, .var i => (match ρ[i]? with
      | some (.val _) => .ok (.plc i) ρ
      | _ => .no)
    | _, _, _ => NR.bind (opnd (mden C e) (hasIo C.Q e) (vars e) fz ρ) fun x ρ => .ok (.val x) ρ) fun a ρ => NR.bind (margs C es io (j + 1) fz ρ) fun as ρ => .ok (a :: as) ρ
def mdenAnd (C : Nal) : CEs → Bool → NEnv → NR T
  | .nil, _, _ => .no
  | .cons e .nil, fz, ρ => opnd (mden C e) (hasIo C.Q e) (vars e) fz ρ
  | .cons e (.cons e2 es), fz, ρ => NR.bind (opnd (mden C e) (hasIo C.Q e) (vars e) fz ρ) fun x ρ => (match ntru x with
    | some true => mdenAnd C (.cons e2 es) fz ρ
    | some false => .ok x ρ
    | none => .no)
def mdenOr (C : Nal) : CEs → Bool → NEnv → NR T
  | .nil, _, _ => .no
  | .cons e .nil, fz, ρ => opnd (mden C e) (hasIo C.Q e) (vars e) fz ρ
  | .cons e (.cons e2 es), fz, ρ => NR.bind (opnd (mden C e) (hasIo C.Q e) (vars e) fz ρ) fun x ρ => (match ntru x with
    | some true => .ok x ρ
    | some false => mdenOr C (.cons e2 es) fz ρ
    | none => .no)
def mdenC (C : Nal) : CEs → Bool → NEnv → NR Bool
  | .nil, _, ρ => .ok true ρ
  | .cons e .nil, fz, ρ => NR.bind (opnd (mden C e) (hasIo C.Q e) (vars e) fz ρ) fun x ρ => NR.opt (ntru x) ρ
  | _, _, _ => .no
end
end EW.EN

set_option Elab.async false
set_option linter.all false
set_option maxRecDepth 100000
set_option maxHeartbeats 1000000
/-! N layer 4: the operations over trees are those over the store. -/
namespace EW.EN
open PySem

theorem nrs_mem : ∀ {xs : List D}, nrs xs = true → ∀ {x : D}, x ∈ xs → nr x = true
  | y :: ys, h, x, hx => by
    unfold nrs at h
    rw [Bool.and_eq_true] at h
    rcases List.mem_cons.mp hx with rfl | hx
    · exact h.1
    · exact nrs_mem h.2 hx
theorem nrs_of : ∀ {xs : List D}, (∀ x ∈ xs, nr x = true) → nrs xs = true
  | [], _ => by unfold nrs; rfl
  | y :: ys, h => by
    unfold nrs
    rw [h y (.head _), nrs_of fun x hx => h x (.tail _ hx)]
    rfl
theorem nrs_app {xs ys : List D} (h1 : nrs xs = true) (h2 : nrs ys = true) : nrs (xs ++ ys) = true :=
  nrs_of fun x hx => (List.mem_append.mp hx).elim (nrs_mem h1) (nrs_mem h2)
theorem nr_tup {xs : List D} : nr (.tup xs) = nrs xs := by rw [nr]
theorem atI_mem {α : Type} {xs : List α} {j : Int} {x : α} (h : L2.atI xs j = some x) : x ∈ xs := by
  unfold L2.atI at h
  cases q : L2.ixN xs.length j with
  | none => rw [q] at h; cases h
  | some k => rw [q] at h; exact List.mem_of_getElem? h
theorem atI_map {α β : Type} (f : α → β) {xs : List α} {j : Int} : L2.atI (xs.map f) j = (L2.atI xs j).map f := by
  unfold L2.atI
  rw [List.length_map]
  cases L2.ixN xs.length j with
  | none => rfl
  | some k => exact List.getElem?_map ..
theorem atI_some {α : Type} {xs : List α} {j : Int} {x : α} (h : L2.atI xs j = some x) : ∃ k, L2.ixN xs.length j = some k ∧ xs[k]? = some x := by
  unfold L2.atI at h
  cases q : L2.ixN xs.length j with
  | none => rw [q] at h; cases h
  | some k => rw [q] at h; exact ⟨k, rfl, h⟩
theorem atI_of {α : Type} {xs : List α} {j : Int} {k : Nat} {x : α} (h : L2.ixN xs.length j = some k) (h2 : xs[k]? = some x) : L2.atI xs j = some x := by
  unfold L2.atI
  rw [h]
  exact h2
theorem bin_nr {op : BO} {a b d : D} {z : Sto} (ha : nr a = true) (hb : nr b = true) (h : bin op a b [] = .ok d z) : (∀ s, bin op a b s = .ok d s) ∧ nr d = true := by
  cases op <;> cases a <;> cases b <;> first
    | (simp only [bin] at h; cases h; done)
    | (simp only [bin] at h; cases h; exact ⟨fun s => rfl, rfl⟩)
    | (rw [nr] at ha; cases ha; done)
    | (simp only [bin] at h; split at h <;> first
        | (cases h; done)
        | (rename_i q; cases h; refine ⟨fun s => by simp only [bin]; rw [if_pos q], ?_⟩; first
            | rfl
            | (rw [nr_tup] at ha hb ⊢; exact nrs_app ha hb)
            | (rw [nr_tup] at ha ⊢; exact nrs_of fun x hx => (by obtain ⟨l, hl, hx⟩ := List.mem_flatten.mp hx; rw [List.eq_of_mem_replicate hl] at hx; exact nrs_mem ha hx))))
/-! ### what a tree's node is -/
section
variable {s s' : Sto} {t : T} {d : D}
theorem rep_p {x : D} : rep s (.p x) d ↔ d = x ∧ nr x = true := by unfold rep; exact Iff.rfl
theorem rep_lp {o : Bool} {xs : List D} : rep s (.lp o xs) d ↔ ∃ m, d = .ref m ∧ s[m]? = some (.lst xs) ∧ nrs xs = true := by
  unfold rep kd
  constructor
  · rintro ⟨m, ob, e, h, rfl, q⟩; exact ⟨m, e, h, q⟩
  · rintro ⟨m, e, h, q⟩; exact ⟨m, _, e, h, rfl, q⟩
theorem rep_rol {xs : List D} : rep s (.rol xs) d ↔ ∃ m, d = .ref m ∧ s[m]? = some (.rol xs) ∧ nrs xs = true := by
  unfold rep kd
  constructor
  · rintro ⟨m, ob, e, h, rfl, q⟩; exact ⟨m, e, h, q⟩
  · rintro ⟨m, e, h, q⟩; exact ⟨m, _, e, h, rfl, q⟩
theorem rep_lst {o : Bool} {ts : List T} : rep s (.lst o ts) d ↔ ∃ m ds, d = .ref m ∧ s[m]? = some (.lst ds) ∧ reps s ts ds := by
  unfold rep kd
  constructor
  · rintro ⟨m, ob, e, h, ⟨ds, rfl⟩, q⟩; exact ⟨m, ds, e, h, q⟩
  · rintro ⟨m, ds, e, h, q⟩; exact ⟨m, _, e, h, ⟨ds, rfl⟩, q⟩
theorem rep_ins {o : Bool} {c : Nat} {fs : List Nat} {ts : List T} : rep s (.ins o c fs ts) d ↔ ∃ m fds, d = .ref m ∧ s[m]? = some (.ins c fds) ∧ fds.map (·.1) = fs ∧ reps s ts (fds.map (·.2)) := by
  unfold rep kd
  constructor
  · rintro ⟨m, ob, e, h, ⟨fds, rfl, z⟩, q⟩; exact ⟨m, fds, e, h, z, q⟩
  · rintro ⟨m, fds, e, h, z, q⟩; exact ⟨m, _, e, h, ⟨fds, rfl, z⟩, q⟩
theorem rep_tup {o : Bool} {ts : List T} : rep s (.tup o ts) d ↔ ∃ ds, d = .tup ds ∧ reps s ts ds := by unfold rep; exact Iff.rfl
theorem lst_at' {m : Nat} {xs : List D} (h : s[m]? = some (.lst xs)) : lstAt s m = some xs := by unfold lstAt; rw [h]
theorem rol_at' {m : Nat} {xs : List D} (h : s[m]? = some (.rol xs)) : lstAt s m = some xs := by unfold lstAt; rw [h]

/-! ### an operation's result -/
def Op (s : Sto) (us : List T) (es : List D) (t : T) (w : Res D) : Prop :=
  ∃ d s', w = .ok d s' ∧ ∀ I J, reps s (us ++ I) (es ++ J) → exs s (us ++ I) (es ++ J) → Step s (us ++ I) (es ++ J) s' (t :: I) (d :: J)
theorem Op.plain {us : List T} {es : List D} {x : D} {w : Res D} (hl : us.length = es.length) (h : nr x = true) (hw : w = .ok x s) : Op s us es (.p x) w :=
  ⟨x, s, hw, fun _ _ r e => Step.res hl r e h⟩
theorem reps_plain : ∀ {xs : List D}, nrs xs = true → reps s (xs.map T.p) xs
  | [], _ => reps_nil
  | x :: xs, h => by
    unfold nrs at h
    rw [Bool.and_eq_true] at h
    exact reps_cons.mpr ⟨rep_p.mpr ⟨rfl, h.1⟩, reps_plain h.2⟩
/-- a new list of plain items; the parts go -/
theorem Op.newlp {us : List T} {es xs : List D} {w : Res D} (hl : us.length = es.length) (h : nrs xs = true) (hw : w = .ok (.ref s.length) (s ++ [.lst xs])) : Op s us es (.lp true xs) w :=
  ⟨_, _, hw, fun _ _ r e => have st := Step.drop hl r e; st.trans (Step.flat (.lp true xs) ⟨rfl, h⟩ st.rp st.ex)⟩
/-- a new list of what stands in front -/
theorem Op.newlst {us : List T} {es : List D} {w : Res D} (hl : us.length = es.length) (hw : w = .ok (.ref s.length) (s ++ [.lst es])) : Op s us es (.lst true us) w :=
  ⟨_, _, hw, fun _ _ r e => Step.node (.lst true us) rfl ⟨es, rfl⟩ rfl r e hl⟩
theorem Op.newtup {us : List T} {es : List D} {w : Res D} (hl : us.length = es.length) (hw : w = .ok (.tup es) s) : Op s us es (.tup true us) w :=
  ⟨_, _, hw, fun _ _ r e => Step.tup hl r e⟩
/-- first a rearrangement, then the operation -/
theorem Op.pre {us vs : List T} {es fs : List D} {w : Res D} (h : ∀ I J, reps s (us ++ I) (es ++ J) → exs s (us ++ I) (es ++ J) → Step s (us ++ I) (es ++ J) s (vs ++ I) (fs ++ J)) (o : Op s vs fs t w) : Op s us es t w := by
  obtain ⟨d, s', hw, k⟩ := o
  exact ⟨d, s', hw, fun I J r e => have st := h I J r e; st.trans (k I J st.rp st.ex)⟩
/-- an item of what stands in front -/
theorem Op.pick {us : List T} {es : List D} {w : Res D} {k : Nat} (hl : us.length = es.length) (h1 : us[k]? = some t) (h2 : es[k]? = some d) (hw : w = .ok d s) : Op s us es t w := by
  refine ⟨d, s, hw, fun I J r e => Step.sub (fun j => match j with
    | 0 => k
    | i + 1 => us.length + i) r e ?_ (fun i t' d' q1 q2 => ?_) (fun i j t' u' ne q => ?_)⟩
  · have := reps_len r
    simp only [List.length_append, List.length_cons] at this ⊢
    omega
  · have hk : k < us.length := (List.getElem?_eq_some_iff.mp h1).1
    cases i with
    | zero =>
      cases q1; cases q2
      exact .inr ⟨t, by dsimp only; rw [List.getElem?_append_left hk]; exact h1, by dsimp only; rw [List.getElem?_append_left (hl ▸ hk)]; exact h2, .inl rfl⟩
    | succ i =>
      have q1 : I[i]? = some t' := q1
      have q2 : J[i]? = some d' := q2
      exact .inr ⟨t', by dsimp only; rw [List.getElem?_append_right (by omega), Nat.add_sub_cancel_left]; exact q1, by dsimp only; rw [List.getElem?_append_right (by omega), hl, Nat.add_sub_cancel_left]; exact q2, .inl rfl⟩
  · have hk : k < us.length := (List.getElem?_eq_some_iff.mp h1).1
    cases i with
    | zero => cases j with
      | zero => exact absurd rfl ne
      | succ j => have q : k = us.length + j := q; omega
    | succ i => cases j with
      | zero => have q : us.length + i = k := q; omega
      | succ j => have q : us.length + i = us.length + j := q; omega
theorem kids_at {o : Bool} {ts : List T} {k : Nat} {t : T} (h : ts[k]? = some t) : (kids o ts)[k]? = some (kid o t) := by
  unfold kids kid
  split
  · exact h
  · rw [List.getElem?_map, h]; rfl
/-- the parts of a container in front -/
theorem open_lst {o : Bool} {ts : List T} {m : Nat} {ds : List D} (hm : s[m]? = some (.lst ds)) (r1 : reps s ts ds) (us : List T) (es : List D) : ∀ I J, reps s ((.lst o ts :: us) ++ I) ((.ref m :: es) ++ J) → exs s ((.lst o ts :: us) ++ I) ((.ref m :: es) ++ J) → Step s ((.lst o ts :: us) ++ I) ((.ref m :: es) ++ J) s ((kids o ts ++ us) ++ I) ((ds ++ es) ++ J) := fun I J r e => by
  have := Step.open_node (.lst o ts) hm r1 r e
  rw [List.append_assoc, List.append_assoc]
  exact this
/-- a rearrangement behind what stands in front -/
theorem pre_frame {us vs ws : List T} {es fs gs : List D} (hl : ws.length = gs.length) (h : ∀ I J, reps s (us ++ I) (es ++ J) → exs s (us ++ I) (es ++ J) → Step s (us ++ I) (es ++ J) s (vs ++ I) (fs ++ J)) : ∀ I J, reps s ((ws ++ us) ++ I) ((gs ++ es) ++ J) → exs s ((ws ++ us) ++ I) ((gs ++ es) ++ J) → Step s ((ws ++ us) ++ I) ((gs ++ es) ++ J) s ((ws ++ vs) ++ I) ((gs ++ fs) ++ J) := fun I J r e => by
  rw [List.append_assoc, List.append_assoc] at r e ⊢
  rw [List.append_assoc, List.append_assoc]
  obtain ⟨r1, r2⟩ := reps_app_inv hl r
  obtain ⟨_, e2, _, _⟩ := (exs_app hl).mp e
  exact (h I J r2 e2).frame r1 e
end
/-! ### truth, equality -/
section
variable {s : Sto}
theorem tru_nr {x : D} {b : Bool} {z : Sto} (h : nr x = true) (q : tru x [] = .ok b z) : tru x s = .ok b s := by
  cases x <;> first
    | (rw [nr] at h; cases h; done)
    | (simp only [tru] at q ⊢; cases q; rfl)
    | (simp only [tru] at q ⊢; split at q <;> first
        | (cases q; done)
        | (rename_i w; cases q; rw [if_pos w]))
theorem ntru_ok {t : T} {d : D} {b : Bool} (r : rep s t d) (h : ntru t = some b) : tru d s = .ok b s := by
  cases t with
  | p x =>
    obtain ⟨rfl, n⟩ := rep_p.mp r
    unfold ntru at h
    dsimp only at h
    split at h
    · cases h; rename_i q; exact tru_nr n q
    · cases h
  | lp o xs =>
    obtain ⟨m, rfl, q, _⟩ := rep_lp.mp r
    cases h
    simp only [tru, q]
  | rol xs =>
    obtain ⟨m, rfl, q, _⟩ := rep_rol.mp r
    cases h
    simp only [tru, q]
  | dp o kvs =>
    unfold rep kd at r
    obtain ⟨m, ob, rfl, q, rfl, _⟩ := r
    cases h
    simp only [tru, q]
  | lst o ts =>
    obtain ⟨m, ds, rfl, q, q2⟩ := rep_lst.mp r
    cases h
    simp only [tru, q]
    have := reps_len q2
    cases ts <;> cases ds <;> first | rfl | cases this
  | tup o ts =>
    obtain ⟨ds, rfl, q2⟩ := rep_tup.mp r
    cases h
    simp only [tru]
    have := reps_len q2
    cases ts <;> cases ds <;> first | rfl | cases this
  | hole => cases h
  | dic o ks ts => cases h
  | ins o c fs ts => cases h
  | cell o => cases h
theorem omap_nr {f g : D → Option PyData} : ∀ {xs : List D} {ys : List PyData}, (∀ x ∈ xs, ∀ y, f x = some y → g x = some y) → omap f xs = some ys → omap g xs = some ys
  | [], ys, _, h => h
  | x :: xs, ys, k, h => by
    unfold omap at h ⊢
    split at h
    · cases h
    · rename_i y q
      rw [k x (.head _) y q]
      dsimp only
      split at h
      · cases h
      · rename_i zs q2
        rw [omap_nr (fun x hx => k x (.tail _ hx)) q2]
        exact h
theorem toPd_nr : ∀ (n : Nat) {x : D} {p : PyData}, nr x = true → toPd [] n x = some p → toPd s n x = some p
  | n, .non, _, _, h => by cases n <;> exact h
  | n, .bl b, _, _, h => by cases n <;> exact h
  | n, .int i, _, _, h => by cases n <;> exact h
  | n, .str x, _, _, h => by cases n <;> exact h
  | n, .ref m, _, h, _ => by rw [nr] at h; cases h
  | 0, .tup xs, p, _, h => by unfold toPd at h; cases h
  | n + 1, .tup xs, p, hn, h => by
    rw [nr_tup] at hn
    unfold toPd at h ⊢
    cases q : omap (toPd [] n) xs with
    | none => rw [q] at h; cases h
    | some ys =>
      rw [q] at h
      rw [omap_nr (fun x hx y => toPd_nr n (nrs_mem hn hx)) q]
      exact h
theorem omap_pd {n : Nat} {xs : List D} {ys : List PyData} (h : nrs xs = true) (q : omap (toPd [] n) xs = some ys) : omap (toPd s n) xs = some ys :=
  omap_nr (fun x hx y => toPd_nr n (nrs_mem h hx)) q
mutual
theorem ntoPd_ok : ∀ (n : Nat) (t : T) (d : D) (p : PyData), rep s t d → ntoPd n t = some p → toPd s n d = some p
  | n, .p x, d, p, r, h => by
    obtain ⟨rfl, q⟩ := rep_p.mp r
    have h : toPd [] n d = some p := by cases n <;> (unfold ntoPd at h; exact h)
    exact toPd_nr n q h
  | 0, .lp _ _, _, _, _, h => by unfold ntoPd at h; cases h
  | 0, .rol _, _, _, _, h => by unfold ntoPd at h; cases h
  | 0, .tup _ _, _, _, _, h => by unfold ntoPd at h; cases h
  | 0, .lst _ _, _, _, _, h => by unfold ntoPd at h; cases h
  | n, .hole, _, _, _, h => by cases n <;> (unfold ntoPd at h; cases h)
  | n, .cell _, _, _, _, h => by cases n <;> (unfold ntoPd at h; cases h)
  | n, .dp _ _, _, _, _, h => by cases n <;> (unfold ntoPd at h; cases h)
  | n, .dic _ _ _, _, _, _, h => by cases n <;> (unfold ntoPd at h; cases h)
  | n, .ins _ _ _ _, _, _, _, h => by cases n <;> (unfold ntoPd at h; cases h)
  | n + 1, .lp o xs, d, p, r, h => by
    obtain ⟨m, rfl, q, z⟩ := rep_lp.mp r
    unfold ntoPd at h
    unfold toPd
    rw [q]
    dsimp only
    cases w : omap (toPd [] n) xs with
    | none => rw [w] at h; cases h
    | some ys => rw [w] at h; rw [omap_pd z w]; exact h
  | n + 1, .rol xs, d, p, r, h => by
    obtain ⟨m, rfl, q, z⟩ := rep_rol.mp r
    unfold ntoPd at h
    unfold toPd
    rw [q]
    dsimp only
    cases w : omap (toPd [] n) xs with
    | none => rw [w] at h; cases h
    | some ys => rw [w] at h; rw [omap_pd z w]; exact h
  | n + 1, .tup o ts, d, p, r, h => by
    obtain ⟨ds, rfl, q⟩ := rep_tup.mp r
    unfold ntoPd at h
    unfold toPd
    cases w : ntoPds n ts with
    | none => rw [w] at h; cases h
    | some ys => rw [w] at h; rw [ntoPds_ok n ts ds ys q w]; exact h
  | n + 1, .lst o ts, d, p, r, h => by
    obtain ⟨m, ds, rfl, q, z⟩ := rep_lst.mp r
    unfold ntoPd at h
    unfold toPd
    rw [q]
    dsimp only
    cases w : ntoPds n ts with
    | none => rw [w] at h; cases h
    | some ys => rw [w] at h; rw [ntoPds_ok n ts ds ys z w]; exact h
theorem ntoPds_ok : ∀ (n : Nat) (ts : List T) (ds : List D) (ps : List PyData), reps s ts ds → ntoPds n ts = some ps → omap (toPd s n) ds = some ps
  | n, [], ds, ps, r, h => by
    unfold reps at r
    rw [r]
    unfold ntoPds at h
    exact h
  | n, t :: ts, ds, ps, r, h => by
    unfold reps at r
    obtain ⟨d, e, rfl, q1, q2⟩ := r
    unfold ntoPds at h
    unfold omap
    split at h
    · cases h
    · rename_i y w
      rw [ntoPd_ok n t d y q1 w]
      dsimp only
      split at h
      · cases h
      · rename_i ys w2
        rw [ntoPds_ok n ts e ys q2 w2]
        exact h
end
theorem neq_ok {x y : T} {a b : D} {k : Bool} (r1 : rep s x a) (r2 : rep s y b) (h : neq x y = some k) : peq s a b = some k := by
  unfold neq at h
  unfold peq
  split at h
  · rename_i p q h1 h2
    rw [ntoPd_ok 64 x a p r1 h1, ntoPd_ok 64 y b q r2 h2]
    exact h
  · cases h
theorem nis_ok {x y : T} {a b : D} {k : Bool} (r1 : rep s x a) (r2 : rep s y b) (h : nis x y = some k) : cmp .is a b s = .ok (.bl k) s := by
  unfold nis at h
  split at h
  · obtain ⟨rfl, _⟩ := rep_p.mp r2
    split at h
    · cases h
    · obtain ⟨rfl, _⟩ := rep_p.mp r1
      cases h; rfl
    · cases h
      have hn : a ≠ .non := by
        rename_i z1 z2
        cases x with
        | p w => exact (z2 w rfl).elim
        | hole => exact (z1 rfl).elim
        | tup o ts => obtain ⟨ds, rfl, _⟩ := rep_tup.mp r1; exact fun e => D.noConfusion e
        | lst o ts => obtain ⟨m, ds, rfl, _⟩ := rep_lst.mp r1; exact fun e => D.noConfusion e
        | lp o xs => obtain ⟨m, rfl, _⟩ := rep_lp.mp r1; exact fun e => D.noConfusion e
        | rol xs => obtain ⟨m, rfl, _⟩ := rep_rol.mp r1; exact fun e => D.noConfusion e
        | ins o c fs ts => obtain ⟨m, _, rfl, _⟩ := rep_ins.mp r1; exact fun e => D.noConfusion e
        | dp o kvs => unfold rep at r1; obtain ⟨m, _, rfl, _⟩ := r1; exact fun e => D.noConfusion e
        | dic o ks ts => unfold rep at r1; obtain ⟨m, _, rfl, _⟩ := r1; exact fun e => D.noConfusion e
        | cell o => unfold rep at r1; obtain ⟨m, _, rfl, _⟩ := r1; exact fun e => D.noConfusion e
      show Res.ok (D.bl (decide (a = .non))) s = _
      rw [decide_eq_false hn]
  · obtain ⟨rfl, _⟩ := rep_p.mp r2
    split at h
    · obtain ⟨rfl, _⟩ := rep_p.mp r1
      cases h; rfl
    · cases h
  · cases h
theorem isnot_of {a b : D} {k : Bool} (h : cmp .is a b s = .ok (.bl k) s) : cmp .isnot a b s = .ok (.bl (!k)) s := by
  cases b with
  | non => cases h; rfl
  | bl y => cases a with
    | bl x => cases h; rfl
    | _ => cases h
  | _ => cases h
theorem nin_ok {x y : T} {a b : D} {k : Bool} (r1 : rep s x a) (r2 : rep s y b) (h : nin x y = some k) : inD a b s = some k := by
  unfold nin at h
  split at h
  · obtain ⟨rfl, _⟩ := rep_p.mp r1
    have key : ∀ xs, seqOf s b = some xs → (if flatD a && xs.all flatD then some (xs.any fun y => eqF y a) else none) = some k → inD a b s = some k := fun xs e q => by
      unfold inD
      rw [e]
      exact q
    cases y with
    | lp o xs =>
      obtain ⟨m, rfl, q, _⟩ := rep_lp.mp r2
      exact key xs (by unfold seqOf; dsimp only; rw [q]) h
    | rol xs =>
      obtain ⟨m, rfl, q, _⟩ := rep_rol.mp r2
      exact key xs (by unfold seqOf; dsimp only; rw [q]) h
    | p z =>
      obtain ⟨rfl, hn⟩ := rep_p.mp r2
      cases b with
      | tup xs => exact key xs rfl h
      | ref m => rw [nr] at hn; cases hn
      | _ => unfold inD; unfold seqOf; exact h
    | _ => cases h
  · cases h
theorem ord_ok {o : CO} {x y : T} {a b : D} {k : Bool} (r1 : rep s x a) (r2 : rep s y b) (q : nord o x y = some k) : ∃ i j, a = .int i ∧ b = .int j ∧ cmpI o i j = some k := by
  unfold nord at q
  split at q
  · obtain ⟨rfl, _⟩ := rep_p.mp r1
    obtain ⟨rfl, _⟩ := rep_p.mp r2
    exact ⟨_, _, rfl, rfl, q⟩
  · cases q
theorem ncmp_ok {op : CO} {x y : T} {a b : D} {k : Bool} (r1 : rep s x a) (r2 : rep s y b) (h : ncmp op x y = some k) : cmp op a b s = .ok (.bl k) s := by
  have neg : ∀ {o : Option Bool}, o.map (!·) = some k → ∃ j, o = some j ∧ k = !j := fun {o} q => by
    cases o with
    | none => cases q
    | some j => cases q; exact ⟨j, rfl, rfl⟩
  cases op with
  | eq => have h : neq x y = some k := h; simp only [cmp, neq_ok r1 r2 h]
  | ne => obtain ⟨j, q, rfl⟩ := neg h; simp only [cmp, neq_ok r1 r2 q]
  | is => exact nis_ok r1 r2 h
  | isnot => obtain ⟨j, q, rfl⟩ := neg h; exact isnot_of (nis_ok r1 r2 q)
  | isin => have h : nin x y = some k := h; simp only [cmp, nin_ok r1 r2 h]
  | notin => obtain ⟨j, q, rfl⟩ := neg h; simp only [cmp, nin_ok r1 r2 q]
  | lt => obtain ⟨i, j, rfl, rfl, q⟩ := ord_ok (o := .lt) r1 r2 h; simp only [cmp, q]
  | le => obtain ⟨i, j, rfl, rfl, q⟩ := ord_ok (o := .le) r1 r2 h; simp only [cmp, q]
  | gt => obtain ⟨i, j, rfl, rfl, q⟩ := ord_ok (o := .gt) r1 r2 h; simp only [cmp, q]
  | ge => obtain ⟨i, j, rfl, rfl, q⟩ := ord_ok (o := .ge) r1 r2 h; simp only [cmp, q]
end
end EW.EN

set_option Elab.async false
set_option linter.all false
set_option maxRecDepth 100000
set_option maxHeartbeats 1000000
/-! N layer 5: operations, further: fields, items, slices, built-ins, append. -/
namespace EW.EN
open PySem
section
variable {s s' : Sto} {t : T} {d : D}
theorem Step.plains : ∀ {xs : List D} {I : List T} {J : List D}, nrs xs = true → reps s I J → exs s I J → Step s I J s (xs.map T.p ++ I) (xs ++ J)
  | [], I, J, _, r, x => Step.refl r x
  | y :: ys, I, J, h, r, x => by
    unfold nrs at h
    rw [Bool.and_eq_true] at h
    have st := Step.plains h.2 r x
    exact st.trans (Step.plain st.rp st.ex h.1)
/-- the parts of a tuple or list stand in its place -/
structure Opn (s : Sto) (t : T) (d : D) (us : List T) (es : List D) : Prop where
  len : us.length = es.length
  st : ∀ I J, reps s (t :: I) (d :: J) → exs s (t :: I) (d :: J) → Step s (t :: I) (d :: J) s (us ++ I) (es ++ J)
theorem Opn.plain {xs : List D} (h : nrs xs = true) : Opn s t d (xs.map T.p) xs :=
  ⟨by simp, fun I J r x => have st := Step.drop (us := [t]) (es := [d]) rfl r x; st.trans (Step.plains h st.rp st.ex)⟩
theorem Opn.lst {o : Bool} {ts : List T} {m : Nat} {ds : List D} (hm : s[m]? = some (.lst ds)) (r1 : reps s ts ds) : Opn s (.lst o ts) (.ref m) (kids o ts) ds :=
  ⟨kids_len.trans (reps_len r1), fun I J r x => Step.open_node (.lst o ts) hm r1 r x⟩
theorem Opn.ins {o : Bool} {c : Nat} {fs : List Nat} {ts : List T} {m : Nat} {fds : List (Nat × D)} (hm : s[m]? = some (.ins c fds)) (r1 : reps s ts (fds.map (·.2))) : Opn s (.ins o c fs ts) (.ref m) (kids o ts) (fds.map (·.2)) :=
  ⟨kids_len.trans (reps_len r1), fun I J r x => Step.open_node (.ins o c fs ts) hm r1 r x⟩
theorem Opn.tup {o : Bool} {ts : List T} {ds : List D} (r1 : reps s ts ds) : Opn s (.tup o ts) (.tup ds) (kids o ts) ds :=
  ⟨kids_len.trans (reps_len r1), fun I J r x => Step.open_tup r1 r x⟩
theorem Opn.op1 {us : List T} {es : List D} {t' : T} {w : Res D} (q : Opn s t d us es) (o : Op s us es t' w) : Op s [t] [d] t' w := Op.pre q.st o
/-- of what items it is -/
def SeqD (s : Sto) (d : D) (ds : List D) : Prop := d = .tup ds ∨ ∃ m, d = .ref m ∧ lstAt s m = some ds
theorem items_ok {ts : List T} (r : rep s t d) (h : items t = some ts) : ∃ ds, SeqD s d ds ∧ Opn s t d ts ds := by
  cases t with
  | lp o xs =>
    obtain ⟨m, rfl, q, z⟩ := rep_lp.mp r
    cases h
    exact ⟨xs, .inr ⟨m, rfl, lst_at' q⟩, Opn.plain z⟩
  | rol xs =>
    obtain ⟨m, rfl, q, z⟩ := rep_rol.mp r
    cases h
    exact ⟨xs, .inr ⟨m, rfl, rol_at' q⟩, Opn.plain z⟩
  | p x =>
    obtain ⟨rfl, z⟩ := rep_p.mp r
    cases d with
    | tup xs => cases h; rw [nr_tup] at z; exact ⟨xs, .inl rfl, Opn.plain z⟩
    | _ => cases h
  | lst o us =>
    obtain ⟨m, ds, rfl, q, z⟩ := rep_lst.mp r
    cases h
    exact ⟨ds, .inr ⟨m, rfl, lst_at' q⟩, Opn.lst q z⟩
  | tup o us =>
    obtain ⟨ds, rfl, z⟩ := rep_tup.mp r
    cases h
    exact ⟨ds, .inl rfl, Opn.tup z⟩
  | _ => cases h
theorem lisT_ok {ts : List T} (r : rep s t d) (h : lisT t = some ts) : ∃ m ds, d = .ref m ∧ s[m]? = some (.lst ds) ∧ Opn s t d ts ds := by
  cases t with
  | lp o xs =>
    obtain ⟨m, rfl, q, z⟩ := rep_lp.mp r
    cases h
    exact ⟨m, xs, rfl, q, Opn.plain z⟩
  | lst o us =>
    obtain ⟨m, ds, rfl, q, z⟩ := rep_lst.mp r
    cases h
    exact ⟨m, ds, rfl, q, Opn.lst q z⟩
  | _ => cases h
theorem plainI_ok {xs : List D} (r : rep s t d) (h : plainI t = some xs) : SeqD s d xs ∧ nrs xs = true := by
  cases t with
  | lp o ys =>
    obtain ⟨m, rfl, q, z⟩ := rep_lp.mp r
    cases h
    exact ⟨.inr ⟨m, rfl, lst_at' q⟩, z⟩
  | rol ys =>
    obtain ⟨m, rfl, q, z⟩ := rep_rol.mp r
    cases h
    exact ⟨.inr ⟨m, rfl, rol_at' q⟩, z⟩
  | p x =>
    obtain ⟨rfl, z⟩ := rep_p.mp r
    cases d with
    | tup ys => cases h; rw [nr_tup] at z; exact ⟨.inl rfl, z⟩
    | _ => cases h
  | _ => cases h
theorem op_bin {op : BO} {x y : T} {a b : D} (r1 : rep s x a) (r2 : rep s y b) (h : nbin op x y = some t) : Op s [x, y] [a, b] t (bin op a b s) := by
  have gen : ∀ {xs ys : List T}, lisT x = some xs → lisT y = some ys → xs.length + ys.length ≤ sizeLine → Op s [x, y] [a, b] (.lst true (xs ++ ys)) (bin .add a b s) := fun {xs ys} h1 h2 h3 => by
    obtain ⟨m, ds, rfl, q1, o1⟩ := lisT_ok r1 h1
    obtain ⟨n, es, rfl, q2, o2⟩ := lisT_ok r2 h2
    have e : bin .add (.ref m) (.ref n) s = .ok (.ref s.length) (s ++ [.lst (ds ++ es)]) := by
      simp only [bin, q1, q2]
      rw [if_pos (by rw [← o1.len, ← o2.len]; exact h3)]
    refine Op.pre (vs := xs ++ [y]) (fs := ds ++ [.ref n]) (fun I J r x => ?_) (Op.pre (vs := xs ++ ys) (fs := ds ++ es) (pre_frame (us := [y]) (es := [.ref n]) o1.len fun I J r x => o2.st I J r x) (Op.newlst (by rw [List.length_append, List.length_append, o1.len, o2.len]) e))
    rw [List.append_assoc, List.append_assoc]
    exact o1.st _ _ r x
  unfold nbin at h
  split at h
  · obtain ⟨rfl, z1⟩ := rep_p.mp r1
    obtain ⟨rfl, z2⟩ := rep_p.mp r2
    split at h
    · rename_i w; cases h
      obtain ⟨q1, q2⟩ := bin_nr z1 z2 w
      exact Op.plain rfl q2 (q1 s)
    · cases h
  · split at h
    · split at h
      · cases h
        obtain ⟨m, rfl, q1, z1⟩ := rep_lp.mp r1
        obtain ⟨n, rfl, q2, z2⟩ := rep_lp.mp r2
        rename_i w
        exact Op.newlp rfl (nrs_app z1 z2) (by simp only [bin, q1, q2]; rw [if_pos w])
      · cases h
    · cases h
  · split at h
    · split at h
      · split at h
        · cases h
          rename_i h1 h2 h3
          exact gen h1 h2 h3
        · cases h
      · cases h
    · cases h
theorem plainL_ok : ∀ {ts : List T} {xs ds : List D}, plainL ts = some xs → reps s ts ds → ds = xs ∧ nrs xs = true
  | [], xs, ds, h, r => by
    cases h
    unfold reps at r
    exact ⟨r, by unfold nrs; rfl⟩
  | t :: ts, xs, ds, h, r => by
    cases t with
    | p y =>
      unfold reps at r
      obtain ⟨e, f, rfl, q1, q2⟩ := r
      unfold plainL at h
      split at h
      · cases h
        rename_i ys w
        obtain ⟨rfl, z⟩ := plainL_ok w q2
        obtain ⟨rfl, z2⟩ := rep_p.mp q1
        exact ⟨rfl, by unfold nrs; rw [z2, z]; rfl⟩
      · cases h
    | _ => cases h
theorem op_mkTup {us : List T} {es : List D} (r : reps s us es) : Op s us es (mkTup us) (.ok (.tup es) s) := by
  unfold mkTup
  split
  · rename_i xs q
    obtain ⟨rfl, z⟩ := plainL_ok q r
    exact Op.plain (reps_len r) (by rw [nr_tup]; exact z) rfl
  · exact Op.newtup (reps_len r) rfl
theorem op_mkLst {us : List T} {es : List D} (r : reps s us es) : Op s us es (mkLst us) (newO (.lst es) s) := by
  unfold mkLst
  split
  · rename_i xs q
    obtain ⟨rfl, z⟩ := plainL_ok q r
    exact Op.newlp (reps_len r) z rfl
  · exact Op.newlst (reps_len r) rfl
theorem fidx_lookup : ∀ {fds : List (Nat × D)} {f k : Nat}, fidx (fds.map (·.1)) f = some k → fds.lookup f = (fds.map (·.2))[k]?
  | [], f, k, h => by cases h
  | p :: r, f, k, h => by
    have h : (if p.1 = f then some 0 else (fidx (r.map (·.1)) f).map (· + 1)) = some k := h
    obtain ⟨g, v⟩ := p
    split at h
    · rename_i e
      cases h
      have e : g = f := e
      rw [List.lookup_cons, e]
      simp
    · rename_i e
      have e : g ≠ f := e
      cases q : fidx (r.map (·.1)) f with
      | none => rw [q] at h; cases h
      | some j =>
        rw [q] at h
        cases h
        rw [List.lookup_cons, show (f == g) = false from by simp [Ne.symm e]]
        exact fidx_lookup q
theorem op_get {P : Prg} {x : T} {a : D} {f : Nat} (r : rep s x a) (h : nget P x f = some t) : Op s [x] [a] t (getF P a f s) := by
  cases x with
  | ins o c fs ts =>
    obtain ⟨m, fds, rfl, q, rfl, z⟩ := rep_ins.mp r
    unfold nget at h
    dsimp only at h
    split at h
    · rename_i hf
      split at h
      · rename_i k hk
        cases hk2 : ts[k]? with
        | none => rw [hk2] at h; cases h
        | some u =>
          rw [hk2] at h
          cases h
          obtain ⟨e, he⟩ : ∃ e, (fds.map (·.2))[k]? = some e := by
            have : k < (fds.map (·.2)).length := (reps_len z) ▸ (List.getElem?_eq_some_iff.mp hk2).1
            exact ⟨_, List.getElem?_eq_getElem this⟩
          refine (Opn.ins q z).op1 (Op.pick (kids_len.trans (reps_len z)) (kids_at hk2) he ?_)
          unfold getF
          dsimp only
          rw [q]
          dsimp only
          rw [if_pos hf, fidx_lookup hk, he]
      · cases h
    · cases h
  | _ => cases h
theorem item_ref {m : Nat} {ds : List D} {j : Int} {e : D} (q : lstAt s m = some ds) (h : L2.atI ds j = some e) : item (.ref m) (.int j) s = .ok e s := by
  unfold lstAt at q
  split at q
  · cases q; rename_i w
    simp only [item, w, h]
  · cases q; rename_i w
    simp only [item, w, h]
  · cases q
theorem op_ix {x y : T} {a b : D} (r1 : rep s x a) (r2 : rep s y b) (h : nix x y = some t) : Op s [x, y] [a, b] t (item a b s) := by
  have omp : ∀ {α : Type} {o : Option α} {g : α → T}, o.map g = some t → ∃ z, o = some z ∧ t = g z := fun {α o g} q => by
    cases o with
    | none => cases q
    | some z => cases q; exact ⟨z, rfl, rfl⟩
  unfold nix at h
  split at h
  · rename_i j
    obtain ⟨rfl, _⟩ := rep_p.mp r2
    have gen : ∀ {ts : List T} {ds : List D}, Opn s x a ts ds → ∀ {u : T}, L2.atI ts j = some u → (∀ e, L2.atI ds j = some e → item a (.int j) s = .ok e s) → Op s [x, .p (.int j)] [a, .int j] u (item a (.int j) s) := fun {ts ds} o u hu hi => by
      obtain ⟨k, k1, k2⟩ := atI_some hu
      obtain ⟨e, he⟩ : ∃ e, ds[k]? = some e := ⟨_, List.getElem?_eq_getElem (o.len ▸ (List.getElem?_eq_some_iff.mp k2).1)⟩
      refine Op.pre (vs := ts) (fs := ds) (fun I J r x => ?_) (Op.pick o.len k2 he (hi e (atI_of (o.len ▸ k1) he)))
      have st := o.st (T.p (D.int j) :: I) (D.int j :: J) r x
      refine st.trans ?_
      refine Step.sub (fun i => if i < ts.length then i else i + 1) st.rp st.ex (by have := reps_len st.rp; simp only [List.length_append, List.length_cons, List.length_nil] at this ⊢; omega) (fun i t' d' q1 q2 => ?_) (fun i i' t' u' ne q => ?_)
      · by_cases hi : i < ts.length
        · rw [List.getElem?_append_left hi] at q1
          rw [List.getElem?_append_left (o.len ▸ hi)] at q2
          exact .inr ⟨t', by rw [if_pos hi, List.getElem?_append_left hi]; exact q1, by rw [if_pos hi, List.getElem?_append_left (o.len ▸ hi)]; exact q2, .inl rfl⟩
        · rw [List.getElem?_append_right (by omega)] at q1
          rw [List.getElem?_append_right (by rw [← o.len]; omega)] at q2
          refine .inr ⟨t', ?_, ?_, .inl rfl⟩
          · rw [if_neg hi, List.getElem?_append_right (by omega), show i + 1 - ts.length = (i - ts.length) + 1 by omega]; exact q1
          · rw [if_neg hi, List.getElem?_append_right (by rw [← o.len]; omega), show i + 1 - ds.length = (i - ds.length) + 1 by rw [← o.len]; omega]; exact q2
      · have q : (if i < ts.length then i else i + 1) = (if i' < ts.length then i' else i' + 1) := q
        split at q <;> split at q <;> omega
    cases x with
    | p z =>
      obtain ⟨rfl, z1⟩ := rep_p.mp r1
      cases a with
      | tup xs =>
        obtain ⟨w, h1, rfl⟩ := omp h
        rw [nr_tup] at z1
        exact Op.plain rfl (nrs_mem z1 (atI_mem h1)) (by simp only [item, h1])
      | str x =>
        have h : (if x.length ≤ sizeLine then (L2.atI x j).map (fun c => T.p (.str [c])) else none) = some t := h
        split at h
        · rename_i w
          obtain ⟨c, h1, rfl⟩ := omp h
          exact Op.plain rfl rfl (by simp only [item, h1]; rw [if_pos w])
        · cases h
      | _ => cases h
    | lp o xs =>
      obtain ⟨m, rfl, q, z⟩ := rep_lp.mp r1
      obtain ⟨w, h1, rfl⟩ := omp h
      exact Op.plain rfl (nrs_mem z (atI_mem h1)) (item_ref (lst_at' q) h1)
    | rol xs =>
      obtain ⟨m, rfl, q, z⟩ := rep_rol.mp r1
      obtain ⟨w, h1, rfl⟩ := omp h
      exact Op.plain rfl (nrs_mem z (atI_mem h1)) (item_ref (rol_at' q) h1)
    | lst o ts =>
      obtain ⟨m, ds, rfl, q, z⟩ := rep_lst.mp r1
      obtain ⟨w, h1, rfl⟩ := omp h
      refine gen (Opn.lst q z) ?_ fun e he => item_ref (lst_at' q) he
      obtain ⟨k, k1, k2⟩ := atI_some h1
      exact atI_of (by rw [kids_len]; exact k1) (kids_at k2)
    | tup o ts =>
      obtain ⟨ds, rfl, z⟩ := rep_tup.mp r1
      obtain ⟨w, h1, rfl⟩ := omp h
      refine gen (Opn.tup z) ?_ fun e he => by simp only [item, he]
      obtain ⟨k, k1, k2⟩ := atI_some h1
      exact atI_of (by rw [kids_len]; exact k1) (kids_at k2)
    | _ => cases h
  · cases h
theorem Step.cut {us I : List T} {es J : List D} (n m : Nat) (hl : us.length = es.length) (r : reps s (us ++ I) (es ++ J)) (x : exs s (us ++ I) (es ++ J)) : Step s (us ++ I) (es ++ J) s ((us.drop n).take m ++ I) ((es.drop n).take m ++ J) := by
  have hlen : ((us.drop n).take m).length = ((es.drop n).take m).length := by simp [hl]
  have hk : ((us.drop n).take m).length ≤ us.length := by simp; omega
  refine Step.sub (fun i => if i < ((us.drop n).take m).length then n + i else us.length + (i - ((us.drop n).take m).length)) r x (by have := reps_len r; simp only [List.length_append] at this ⊢; omega) (fun i t' d' q1 q2 => ?_) (fun i j t' u' ne q h1 h2 => ?_)
  · by_cases hi : i < ((us.drop n).take m).length
    · rw [List.getElem?_append_left hi] at q1
      rw [List.getElem?_append_left (hlen ▸ hi)] at q2
      have hm : i < m := by rw [List.length_take] at hi; omega
      rw [List.getElem?_take, if_pos hm, List.getElem?_drop] at q1 q2
      have b1 := (List.getElem?_eq_some_iff.mp q1).1
      have b2 := (List.getElem?_eq_some_iff.mp q2).1
      exact .inr ⟨t', by rw [if_pos hi, List.getElem?_append_left b1]; exact q1, by rw [if_pos hi, List.getElem?_append_left b2]; exact q2, .inl rfl⟩
    · rw [List.getElem?_append_right (by omega)] at q1
      rw [List.getElem?_append_right (by omega)] at q2
      refine .inr ⟨t', ?_, ?_, .inl rfl⟩
      · rw [if_neg hi, List.getElem?_append_right (by omega), Nat.add_sub_cancel_left]; exact q1
      · rw [if_neg hi, List.getElem?_append_right (by omega), hl, Nat.add_sub_cancel_left, hlen]; exact q2
  · have q : (if i < ((us.drop n).take m).length then n + i else us.length + (i - ((us.drop n).take m).length)) = (if j < ((us.drop n).take m).length then n + j else us.length + (j - ((us.drop n).take m).length)) := q
    have hb : ∀ k, k < ((us.drop n).take m).length → n + k < us.length := fun k hk => by rw [List.length_take, List.length_drop] at hk; omega
    split at q <;> split at q
    · omega
    · have := hb i ‹_›; omega
    · have := hb j ‹_›; omega
    · omega
theorem cutL_nr {xs : List D} {lo hi : Option Int} (h : nrs xs = true) : nrs (cutL xs lo hi) = true :=
  nrs_of fun x hx => nrs_mem h (List.mem_of_mem_drop (List.mem_of_mem_take hx))
theorem op_slc {x : T} {a : D} {lo hi : Option Int} (r : rep s x a) (h : nsl x lo hi = some t) : Op s [x] [a] t (sliceD a lo hi s) := by
  cases x with
  | p z =>
    obtain ⟨rfl, z1⟩ := rep_p.mp r
    cases a with
    | tup xs =>
      cases h
      rw [nr_tup] at z1
      exact Op.plain rfl (by rw [nr_tup]; exact cutL_nr z1) rfl
    | str x =>
      have h : (if x.length ≤ sizeLine then some (T.p (.str (cutL x lo hi))) else none) = some t := h
      split at h
      · cases h; rename_i w
        exact Op.plain rfl rfl (by simp only [sliceD]; rw [if_pos w])
      · cases h
    | _ => cases h
  | lp o xs =>
    obtain ⟨m, rfl, q, z⟩ := rep_lp.mp r
    cases h
    exact Op.newlp rfl (cutL_nr z) (by simp only [sliceD, lst_at' q])
  | rol xs =>
    obtain ⟨m, rfl, q, z⟩ := rep_rol.mp r
    cases h
    exact Op.newlp rfl (cutL_nr z) (by simp only [sliceD, rol_at' q])
  | lst o ts =>
    obtain ⟨m, ds, rfl, q, z⟩ := rep_lst.mp r
    cases h
    have hl : (kids o ts).length = ds.length := kids_len.trans (reps_len z)
    refine (Opn.lst q z).op1 (Op.pre (vs := cutL (kids o ts) lo hi) (fs := cutL ds lo hi) (fun I J r x => ?_) (Op.newlst (by unfold cutL; simp [hl]) (by simp only [sliceD, lst_at' q])))
    unfold cutL
    rw [hl]
    exact Step.cut _ _ hl r x
  | tup o ts =>
    obtain ⟨ds, rfl, z⟩ := rep_tup.mp r
    cases h
    have hl : (kids o ts).length = ds.length := kids_len.trans (reps_len z)
    refine (Opn.tup z).op1 (Op.pre (vs := cutL (kids o ts) lo hi) (fs := cutL ds lo hi) (fun I J r x => ?_) (Op.newtup (by unfold cutL; simp [hl]) rfl))
    unfold cutL
    rw [hl]
    exact Step.cut _ _ hl r x
  | _ => cases h
theorem nrs_ints : ∀ (ns : List Int), nrs (ns.map D.int) = true := fun ns => nrs_of fun x hx => by
  obtain ⟨n, _, rfl⟩ := List.mem_map.mp hx
  rfl
theorem len_ok {x : T} {a : D} {n : Nat} (r : rep s x a) (h : nlen x = some n) : lenD a s = .ok (.int n) s := by
  cases x with
  | p z =>
    obtain ⟨rfl, z1⟩ := rep_p.mp r
    cases a with
    | tup xs => cases h; rfl
    | str x =>
      have h : (if x.length ≤ sizeLine then some x.length else none) = some n := h
      split at h
      · cases h; rename_i w
        simp only [lenD]; rw [if_pos w]
      · cases h
    | _ => cases h
  | lp o xs =>
    obtain ⟨m, rfl, q, z⟩ := rep_lp.mp r
    cases h
    simp only [lenD, lst_at' q]
  | rol xs =>
    obtain ⟨m, rfl, q, z⟩ := rep_rol.mp r
    cases h
    simp only [lenD, rol_at' q]
  | lst o ts =>
    obtain ⟨m, ds, rfl, q, z⟩ := rep_lst.mp r
    cases h
    simp only [lenD, lst_at' q, reps_len z]
  | tup o ts =>
    obtain ⟨ds, rfl, z⟩ := rep_tup.mp r
    cases h
    simp only [lenD, reps_len z]
  | _ => cases h
theorem op_bi {b : BI} {us : List T} {es : List D} (r : reps s us es) (h : nbi b us = some t) : Op s us es t (bis b es s) := by
  have omp : ∀ {α : Type} {o : Option α} {g : α → T}, o.map g = some t → ∃ z, o = some z ∧ t = g z := fun {α o g} q => by
    cases o with
    | none => cases q
    | some z => cases q; exact ⟨z, rfl, rfl⟩
  have one : ∀ {x : T}, us = [x] → ∃ a, es = [a] ∧ rep s x a := fun {x} e => by
    subst e
    unfold reps at r
    obtain ⟨a, f, rfl, q1, q2⟩ := r
    unfold reps at q2
    subst q2
    exact ⟨a, rfl, q1⟩
  have two : ∀ {x y : T}, us = [x, y] → ∃ a b, es = [a, b] ∧ rep s x a ∧ rep s y b := fun {x y} e => by
    subst e
    unfold reps at r
    obtain ⟨a, f, rfl, q1, q2⟩ := r
    unfold reps at q2
    obtain ⟨b, f, rfl, q2, q3⟩ := q2
    unfold reps at q3
    subst q3
    exact ⟨a, b, rfl, q1, q2⟩
  unfold nbi at h
  split at h
  · obtain ⟨n, h1, rfl⟩ := omp h
    obtain ⟨a, rfl, q⟩ := one rfl
    exact Op.plain rfl rfl (len_ok q h1)
  · cases h
    obtain ⟨a, rfl, q⟩ := one rfl
    obtain ⟨rfl, _⟩ := rep_p.mp q
    exact Op.plain rfl rfl rfl
  · cases h
    obtain ⟨a, rfl, q⟩ := one rfl
    obtain ⟨rfl, _⟩ := rep_p.mp q
    exact Op.plain rfl rfl rfl
  · cases h
    obtain ⟨a, rfl, q⟩ := one rfl
    obtain ⟨rfl, _⟩ := rep_p.mp q
    exact Op.plain rfl rfl rfl
  · cases h
    obtain ⟨a, b, rfl, q1, q2⟩ := two rfl
    obtain ⟨rfl, _⟩ := rep_p.mp q1
    obtain ⟨rfl, _⟩ := rep_p.mp q2
    exact Op.plain rfl rfl rfl
  · cases h
    obtain ⟨a, b, rfl, q1, q2⟩ := two rfl
    obtain ⟨rfl, _⟩ := rep_p.mp q1
    obtain ⟨rfl, _⟩ := rep_p.mp q2
    exact Op.plain rfl rfl rfl
  · obtain ⟨bs, h1, rfl⟩ := omp h
    obtain ⟨a, rfl, q⟩ := one rfl
    obtain ⟨m, rfl, q, z⟩ := rep_lp.mp q
    exact Op.plain rfl rfl (by show allD (.ref m) s = _; simp only [allD, lst_at' q, h1])
  · obtain ⟨bs, h1, rfl⟩ := omp h
    obtain ⟨a, rfl, q⟩ := one rfl
    obtain ⟨m, rfl, q, z⟩ := rep_lp.mp q
    exact Op.plain rfl rfl (by show anyD (.ref m) s = _; simp only [anyD, lst_at' q, h1])
  · rename_i x
    cases e : plainI x with
    | none => rw [e] at h; cases h
    | some xs =>
      rw [e] at h
      have h : (omap intOf xs).map (fun ns => T.lp true ((sortI ns).map .int)) = some t := h
      obtain ⟨ns, h1, rfl⟩ := omp h
      obtain ⟨a, rfl, q⟩ := one rfl
      obtain ⟨sq, z⟩ := plainI_ok q e
      refine Op.newlp rfl (nrs_ints _) ?_
      show sortedD a s = _
      rcases sq with rfl | ⟨m, rfl, w⟩
      · simp only [sortedD, h1]
      · simp only [sortedD, w, h1]
  · rename_i x
    obtain ⟨a, rfl, q⟩ := one rfl
    split at h
    · cases h
      rename_i e
      obtain ⟨sq, z⟩ := plainI_ok q e
      refine Op.newlp rfl z ?_
      show lstD a s = _
      rcases sq with rfl | ⟨m, rfl, w⟩
      · rfl
      · simp only [lstD, w]
    · split at h
      · cases h
        rename_i e
        obtain ⟨ds, sq, o⟩ := items_ok q e
        refine o.op1 (Op.newlst o.len ?_)
        show lstD a s = _
        rcases sq with rfl | ⟨m, rfl, w⟩
        · rfl
        · simp only [lstD, w]
      · cases h
  · rename_i x
    obtain ⟨a, rfl, q⟩ := one rfl
    split at h
    · cases h
      rename_i e
      obtain ⟨sq, z⟩ := plainI_ok q e
      refine Op.plain rfl (by rw [nr_tup]; exact z) ?_
      show tupD a s = _
      rcases sq with rfl | ⟨m, rfl, w⟩
      · rfl
      · simp only [tupD, w]
    · split at h
      · cases h
        rename_i e
        obtain ⟨ds, sq, o⟩ := items_ok q e
        refine o.op1 (Op.newtup o.len ?_)
        show tupD a s = _
        rcases sq with rfl | ⟨m, rfl, w⟩
        · rfl
        · simp only [tupD, w]
      · cases h
  · split at h
    · rename_i c
      cases h
      obtain ⟨a, rfl, q⟩ := one rfl
      obtain ⟨rfl, _⟩ := rep_p.mp q
      exact Op.plain rfl rfl (if_pos c)
    · cases h
  · rename_i x
    split at h
    · rename_i n e
      split at h
      · rename_i c
        cases h
        obtain ⟨a, rfl, q⟩ := one rfl
        obtain ⟨rfl, _⟩ := rep_p.mp q
        refine Op.plain rfl rfl ?_
        show intD (.str x) s = _
        unfold intD
        dsimp only
        rw [e]
        exact if_pos c
      · cases h
    · cases h
  · split at h
    · rename_i c
      cases h
      obtain ⟨a, rfl, q⟩ := one rfl
      obtain ⟨rfl, _⟩ := rep_p.mp q
      exact Op.plain rfl rfl (if_pos c)
    · cases h
  · split at h
    · rename_i c
      cases h
      obtain ⟨a, rfl, q⟩ := one rfl
      obtain ⟨rfl, _⟩ := rep_p.mp q
      exact Op.plain rfl rfl (if_pos c)
    · cases h
  · split at h
    · rename_i ds e
      split at h
      · rename_i xs e2
        split at h
        · rename_i c
          cases h
          obtain ⟨rfl, _⟩ := plainL_ok e r
          refine Op.plain (reps_len r) rfl ?_
          show fstrA [] _ s = _
          unfold fstrA
          rw [e2]
          exact if_pos c
        · cases h
      · cases h
    · cases h
  · cases h
theorem ty_ok {x : T} {a : D} {y : Ty} {k : Bool} (r : rep s x a) (h : nty x y = some k) : tyIs s a y = some k := by
  cases x with
  | p z =>
    obtain ⟨rfl, z1⟩ := rep_p.mp r
    cases a with
    | ref m => rw [nr] at z1; cases z1
    | _ => exact h
  | lp o xs =>
    obtain ⟨m, rfl, q, z⟩ := rep_lp.mp r
    simp only [tyIs, q]; exact h
  | lst o ts =>
    obtain ⟨m, ds, rfl, q, z⟩ := rep_lst.mp r
    simp only [tyIs, q]; exact h
  | tup o ts =>
    obtain ⟨ds, rfl, z⟩ := rep_tup.mp r
    exact h
  | dp o kvs =>
    unfold rep kd at r
    obtain ⟨m, ob, rfl, q, rfl, _⟩ := r
    simp only [tyIs, q]; exact h
  | dic o ks ts =>
    unfold rep kd at r
    obtain ⟨m, ob, rfl, q, ⟨kds, rfl, _⟩, _⟩ := r
    simp only [tyIs, q]; exact h
  | _ => cases h
theorem isi_ok {x : T} {a : D} {ts : List Ty} {k : Bool} (r : rep s x a) (h : nisi x ts = some k) : isiD a ts s = .ok (.bl k) s := by
  unfold nisi at h
  split at h
  · simp only [isiD, ty_ok r h]
  · cases h
theorem chk_ok {b : BM} {x : T} {a : D} (r : rep s x a) (h : nchk b x = true) : chkB b a s = .ok () s := by
  cases x with
  | p z =>
    obtain ⟨rfl, z1⟩ := rep_p.mp r
    unfold nchk at h
    unfold chkB
    cases a <;> cases e : bmT b <;> rw [e] at h <;> first | rfl | cases h
  | lp o xs =>
    obtain ⟨m, rfl, q, z⟩ := rep_lp.mp r
    unfold nchk at h
    unfold chkB
    cases e : bmT b <;> rw [e] at h <;> first | (simp only [q]; done) | cases h
  | lst o ts =>
    obtain ⟨m, ds, rfl, q, z⟩ := rep_lst.mp r
    unfold nchk at h
    unfold chkB
    cases e : bmT b <;> rw [e] at h <;> first | (simp only [q]; done) | cases h
  | dp o kvs =>
    unfold rep kd at r
    obtain ⟨m, ob, rfl, q, rfl, _⟩ := r
    unfold nchk at h
    unfold chkB
    cases e : bmT b <;> rw [e] at h <;> first | (simp only [q]; done) | cases h
  | dic o ks ts =>
    unfold rep kd at r
    obtain ⟨m, ob, rfl, q, ⟨kds, rfl, _⟩, _⟩ := r
    unfold nchk at h
    unfold chkB
    cases e : bmT b <;> rw [e] at h <;> first | (simp only [q]; done) | cases h
  | _ => unfold nchk at h; cases e : bmT b <;> rw [e] at h <;> cases h
/-- a method: the receiver stands in front, its arguments behind -/
def OpM (s : Sto) (t : T) (d : D) (us : List T) (es : List D) (a t' : T) (w : Res D) : Prop :=
  ∃ e s', w = .ok e s' ∧ ∀ I J, reps s ((t :: us) ++ I) ((d :: es) ++ J) → exs s ((t :: us) ++ I) ((d :: es) ++ J) → Step s ((t :: us) ++ I) ((d :: es) ++ J) s' (a :: t' :: I) (e :: d :: J)
theorem set_at {m : Nat} {ob ob' : Ob} (h : s[m]? = some ob) : (s.set m ob')[m]? = some ob' := List.getElem?_set_self (lt_some h)
theorem op_bm {b : BM} {a t' : T} {us : List T} {es : List D} (r : rep s t d) (r2 : reps s us es) (h : nbm b t us = some (a, t')) : OpM s t d us es a t' (bms b d es s) := by
  unfold nbm at h
  split at h
  · rename_i v
    unfold reps at r2
    obtain ⟨dv, f, rfl, q1, q2⟩ := r2
    unfold reps at q2
    subst q2
    split at h
    · rename_i xs
      obtain ⟨m, rfl, q, z⟩ := rep_lp.mp r
      split at h
      · rename_i hz
        have e : ∀ w : D, appD (.ref m) w s = .ok .non (s.set m (.lst (xs ++ [w]))) := fun w => by
          unfold appD
          dsimp only
          rw [q]
          dsimp only
          rw [if_pos hz]
        split at h
        · cases h
          obtain ⟨rfl, zx⟩ := rep_p.mp q1
          refine ⟨_, _, e _, fun I J r x => ?_⟩
          have s1 := Step.uncell_flat (.lp true xs) rfl q r x
          have s2 : Step s _ _ s (.cell true :: I) (.ref m :: J) := s1.trans (Step.sub (fun i => match i with
            | 0 => 0
            | k + 1 => k + 2) s1.rp s1.ex (by have := reps_len s1.rp; simp at this ⊢; omega) (fun i t1 d1 w1 w2 => by
              cases i with
              | zero => cases w1; cases w2; exact .inr ⟨_, rfl, rfl, .inl rfl⟩
              | succ i => exact .inr ⟨_, w1, w2, .inl rfl⟩) (fun i j t1 u1 ne w => by
              cases i <;> cases j <;> first | exact absurd rfl ne | (dsimp only at w; omega)))
          have s3 := s2.trans (Step.write (.lst (xs ++ [dv])) s2.rp s2.ex)
          have s4 := s3.trans (Step.close_flat (t := .lp true (xs ++ [dv])) (.lp true _) ⟨rfl, nrs_app z (by unfold nrs nrs; rw [zx]; rfl)⟩ (set_at q) s3.rp s3.ex)
          exact s4.trans (Step.plain s4.rp s4.ex rfl)
        · cases h
          refine ⟨_, _, e _, fun I J r x => ?_⟩
          have s1 := Step.uncell_flat (.lp true xs) rfl q r x
          have s2 := s1.then (us := [.cell true]) (es := [.ref m]) rfl (Step.plains z (reps_cons.mp s1.rp).2 (exs_cons.mp s1.ex).2.2.2)
          have s3 := s2.trans (Step.write (.lst (xs ++ [dv])) s2.rp s2.ex)
          have s4 := s3.trans (Step.close (t := .lst true (xs.map T.p ++ [v])) (ob := .lst (xs ++ [dv])) (us := xs.map T.p ++ [v]) (es := xs ++ [dv]) (I := I) (J := J) (.lst true _) rfl ⟨_, rfl⟩ (set_at q) rfl (by simp) (by rw [List.append_assoc, List.append_assoc]; exact s3.rp) (by rw [List.append_assoc, List.append_assoc]; exact s3.ex) |> fun z => by rw [List.append_assoc, List.append_assoc] at z; exact z)
          exact s4.trans (Step.plain s4.rp s4.ex rfl)
      · cases h
    · rename_i ts
      obtain ⟨m, ds, rfl, q, z⟩ := rep_lst.mp r
      have hl := reps_len z
      split at h
      · rename_i hz
        cases h
        have e : appD (.ref m) dv s = .ok .non (s.set m (.lst (ds ++ [dv]))) := by
          unfold appD
          dsimp only
          rw [q]
          dsimp only
          rw [if_pos (hl ▸ hz)]
        refine ⟨_, _, e, fun I J r x => ?_⟩
        have s1 := Step.uncell (.lst true ts) rfl q r x
        have s3 := s1.trans (Step.write (.lst (ds ++ [dv])) s1.rp s1.ex)
        have s4 := s3.trans (Step.close (t := .lst true (ts ++ [v])) (ob := .lst (ds ++ [dv])) (us := ts ++ [v]) (es := ds ++ [dv]) (I := I) (J := J) (.lst true _) rfl ⟨_, rfl⟩ (set_at q) rfl (by simp [hl]) (by rw [List.append_assoc, List.append_assoc]; exact s3.rp) (by rw [List.append_assoc, List.append_assoc]; exact s3.ex) |> fun z => by rw [List.append_assoc, List.append_assoc] at z; exact z)
        exact s4.trans (Step.plain s4.rp s4.ex rfl)
      · cases h
    · cases h
  · rename_i v
    unfold reps at r2
    obtain ⟨dv, f, rfl, q1, q2⟩ := r2
    unfold reps at q2
    subst q2
    split at h
    · rename_i x
      obtain ⟨rfl, zx⟩ := rep_p.mp r
      split at h
      · rename_i xs e
        split at h
        · rename_i ys e2
          split at h
          · rename_i c
            cases h
            obtain ⟨sq, z⟩ := plainI_ok q1 e
            have e3 : joinD (.str x) dv s = .ok (.str (TL.joinL x ys)) s := by
              have e4 : seqOf s dv = some xs := by
                rcases sq with rfl | ⟨m, rfl, w⟩
                · rfl
                · exact w
              unfold joinD
              dsimp only
              rw [e4]
              dsimp only
              rw [e2]
              exact if_pos c
            refine ⟨_, _, e3, fun I J r x => ?_⟩
            have s2 := Step.sub (ts' := T.p (.str _) :: I) (ds' := D.str _ :: J) (fun i => match i with
              | 0 => 0
              | k + 1 => k + 2) r x (by have := reps_len r; simp at this ⊢; omega) (fun i t1 d1 w1 w2 => by
                cases i with
                | zero => cases w1; cases w2; exact .inr ⟨_, rfl, rfl, .inl rfl⟩
                | succ i => exact .inr ⟨_, w1, w2, .inl rfl⟩) (fun i j t1 u1 ne w => by
                cases i <;> cases j <;> first | exact absurd rfl ne | (dsimp only at w; omega))
            exact s2.trans (Step.plain s2.rp s2.ex rfl)
          · cases h
        · cases h
      · cases h
    · cases h
  · cases h
end
end EW.EN

set_option Elab.async false
set_option linter.all false
set_option maxRecDepth 100000
set_option maxHeartbeats 1000000
/-! N layer 6: what is to be shown of a meaning; places handed over; loops. -/
namespace EW.EN
open PySem

def RT (t : T) (d : D) (us : List T) (es : List D) : Prop := us = [t] ∧ es = [d]
def RL (ts : List T) (ds : List D) (us : List T) (es : List D) : Prop := us = ts ∧ es = ds
def RC {α : Type} (a b : α) (us : List T) (es : List D) : Prop := a = b ∧ us = [] ∧ es = []
def RO (a : Option T) (b : Option D) (us : List T) (es : List D) : Prop := us = a.toList ∧ es = b.toList
def Gd {α β : Type} (R : α → β → List T → List D → Prop) (s0 : Sto) (A : List T) (B : List D) (r : Env) (F : NEnv → Prop) (q : NR α) (w : Res β) : Prop := match q with
  | .ok a ρ => ∃ b s us es, w = .ok b s ∧ R a b us es ∧ us.length = es.length ∧ EOk ρ r ∧ F ρ ∧ Step s0 A B s (us ++ eT ρ) (es ++ eD r)
  | .exc x ρ => ∃ s, w = .exc x s ∧ EOk ρ r ∧ Step s0 A B s (eT ρ) (eD r)
  | .no => True
structure St (fz : Bool) (s : Sto) (ρ : NEnv) (r : Env) : Prop where
  ok : EOk ρ r
  rp : reps s (eT ρ) (eD r)
  ex : exs s (eT ρ) (eD r)
  nz : fz = true → nOE ρ
def Fz (fz : Bool) (ρ0 ρ : NEnv) : Prop := fz = true → ρ = ρ0
section
variable {α β γ δ : Type} {R R1 : α → β → List T → List D → Prop} {R2 : γ → δ → List T → List D → Prop} {s0 s s' : Sto} {A I us vs : List T} {B J es fs : List D} {r : Env} {F F1 F2 : NEnv → Prop} {ρ ρ' : NEnv} {fz : Bool}
theorem Gd.bind {q : NR α} {f : α → NEnv → NR γ} {w : M β} {g : β → M δ} (h : Gd R1 s0 A B r F1 q (w s))
    (k : ∀ a b ρ s us es, R1 a b us es → us.length = es.length → EOk ρ r → F1 ρ → Step s0 A B s (us ++ eT ρ) (es ++ eD r) → Gd R2 s0 A B r F2 (f a ρ) (g b s)) : Gd R2 s0 A B r F2 (NR.bind q f) (M.bind w g s) := by
  cases q with
  | ok a ρ =>
    obtain ⟨b, s1, us, es, e, h1, h2, h3, h4, h5⟩ := h
    show Gd R2 s0 A B r F2 (f a ρ) (M.bind w g s)
    unfold M.bind
    rw [e]
    exact k a b ρ s1 us es h1 h2 h3 h4 h5
  | exc x ρ =>
    obtain ⟨s1, e, h3, h5⟩ := h
    show Gd R2 s0 A B r F2 (.exc x ρ) (M.bind w g s)
    unfold M.bind
    rw [e]
    exact ⟨s1, rfl, h3, h5⟩
  | no => trivial
/-- behind what waits in front -/
theorem Gd.lift {q : NR α} {w : Res β} (st : Step s0 A B s (us ++ eT ρ) (es ++ eD r)) (hl : us.length = es.length) (h : Gd R s (eT ρ) (eD r) r F q w) :
    Gd (fun a b vs fs => ∃ us' es', R a b us' es' ∧ us'.length = es'.length ∧ vs = us ++ us' ∧ fs = es ++ es') s0 A B r F q w := by
  cases q with
  | ok a ρ =>
    obtain ⟨b, s1, us', es', e, h1, h2, h3, h4, h5⟩ := h
    refine ⟨b, s1, us ++ us', es ++ es', e, ⟨us', es', h1, h2, rfl, rfl⟩, by simp [hl, h2], h3, h4, ?_⟩
    rw [List.append_assoc, List.append_assoc]
    exact st.then hl h5
  | exc x ρ =>
    obtain ⟨s1, e, h3, h5⟩ := h
    have := st.then hl h5
    exact ⟨s1, e, h3, this.trans (Step.drop hl this.rp this.ex)⟩
  | no => trivial
theorem Gd.from {q : NR α} {w : Res β} (st : Step s0 A B s (eT ρ) (eD r)) (h : Gd R s (eT ρ) (eD r) r F q w) (k : ∀ ρ, F ρ → F1 ρ) : Gd R s0 A B r F1 q w := by
  cases q with
  | ok a ρ =>
    obtain ⟨b, s1, us', es', e, h1, h2, h3, h4, h5⟩ := h
    exact ⟨b, s1, us', es', e, h1, h2, h3, k _ h4, st.trans h5⟩
  | exc x ρ =>
    obtain ⟨s1, e, h3, h5⟩ := h
    exact ⟨s1, e, h3, st.trans h5⟩
  | no => trivial
theorem Gd.opt {o : Option T} {w : Res D} (st : Step s0 A B s (us ++ eT ρ) (es ++ eD r)) (hl : us.length = es.length) (e : EOk ρ r) (f : F ρ) (k : ∀ t, o = some t → Op s us es t w) : Gd RT s0 A B r F (NR.opt o ρ) w := by
  cases o with
  | none => trivial
  | some t =>
    obtain ⟨d, s', hw, z⟩ := k t rfl
    exact ⟨d, s', [t], [d], hw, ⟨rfl, rfl⟩, rfl, e, f, st.trans (z _ _ st.rp st.ex)⟩
theorem Gd.plain {x : D} {w : Res D} (st : Step s0 A B s (us ++ eT ρ) (es ++ eD r)) (hl : us.length = es.length) (e : EOk ρ r) (f : F ρ) (hx : nr x = true) (hw : w = .ok x s) : Gd RT s0 A B r F (.ok (.p x) ρ) w :=
  ⟨x, s, [.p x], [x], hw, ⟨rfl, rfl⟩, rfl, e, f, st.trans (Step.res hl st.rp st.ex hx)⟩
theorem St.next (h : St fz s0 ρ r) (st : Step s0 A B s (us ++ eT ρ') (es ++ eD r)) (hl : us.length = es.length) (e : EOk ρ' r) (f : Fz fz ρ ρ') : St fz s ρ' r :=
  ⟨e, (reps_app_inv hl st.rp).2, ((exs_app hl).mp st.ex).2.1, fun z => by rw [f z]; exact h.nz z⟩
theorem Step.start (h : St fz s ρ r) : Step s (eT ρ) (eD r) s ([] ++ eT ρ) ([] ++ eD r) := Step.refl h.rp h.ex
theorem reps_front (st : Step s0 A B s (us ++ eT ρ) (es ++ eD r)) (hl : us.length = es.length) : reps s us es := (reps_app_inv hl st.rp).1
/-- what stands in front goes behind -/
theorem Step.rot {t : T} {d : D} (hl : us.length = es.length) (r : reps s (us ++ (t :: I)) (es ++ (d :: J))) (x : exs s (us ++ (t :: I)) (es ++ (d :: J))) : Step s (us ++ (t :: I)) (es ++ (d :: J)) s (t :: (us ++ I)) (d :: (es ++ J)) := by
  refine Step.sub (fun i => if i = 0 then us.length else if i ≤ us.length then i - 1 else i) r x (by have := reps_len r; simp at this ⊢; omega) (fun i t' d' q1 q2 => ?_) (fun i j t' u' ne q _ _ => ?_)
  · cases i with
    | zero =>
      cases q1; cases q2
      exact .inr ⟨t, by simp, by simp [hl], .inl rfl⟩
    | succ i =>
      have q1 : (us ++ I)[i]? = some t' := q1
      have q2 : (es ++ J)[i]? = some d' := q2
      rw [if_neg (by omega)]
      by_cases hi : i < us.length
      · rw [if_pos (by omega)]
        rw [List.getElem?_append_left hi] at q1
        rw [List.getElem?_append_left (hl ▸ hi)] at q2
        exact .inr ⟨t', by rw [Nat.add_sub_cancel, List.getElem?_append_left hi]; exact q1, by rw [Nat.add_sub_cancel, List.getElem?_append_left (hl ▸ hi)]; exact q2, .inl rfl⟩
      · rw [if_neg (by omega)]
        rw [List.getElem?_append_right (by omega)] at q1
        rw [List.getElem?_append_right (by omega)] at q2
        refine .inr ⟨t', ?_, ?_, .inl rfl⟩
        · rw [List.getElem?_append_right (by omega), show i + 1 - us.length = (i - us.length) + 1 by omega]; exact q1
        · rw [List.getElem?_append_right (by omega), show i + 1 - es.length = (i - es.length) + 1 by omega]; exact q2
  · have q : (if i = 0 then us.length else if i ≤ us.length then i - 1 else i) = (if j = 0 then us.length else if j ≤ us.length then j - 1 else j) := q
    split at q <;> split at q <;> (try split at q) <;> (try split at q) <;> omega
theorem Step.unrot {t : T} {d : D} (hl : us.length = es.length) (r : reps s (t :: (us ++ I)) (d :: (es ++ J))) (x : exs s (t :: (us ++ I)) (d :: (es ++ J))) : Step s (t :: (us ++ I)) (d :: (es ++ J)) s (us ++ (t :: I)) (es ++ (d :: J)) := by
  refine Step.sub (fun i => if i < us.length then i + 1 else if i = us.length then 0 else i) r x (by have := reps_len r; simp at this ⊢; omega) (fun i t' d' q1 q2 => ?_) (fun i j t' u' ne q _ _ => ?_)
  · by_cases hi : i < us.length
    · rw [if_pos hi]
      rw [List.getElem?_append_left hi] at q1
      rw [List.getElem?_append_left (hl ▸ hi)] at q2
      refine .inr ⟨t', ?_, ?_, .inl rfl⟩
      · show (us ++ I)[i]? = _
        rw [List.getElem?_append_left hi]; exact q1
      · show (es ++ J)[i]? = _
        rw [List.getElem?_append_left (hl ▸ hi)]; exact q2
    · rw [if_neg hi]
      rw [List.getElem?_append_right (by omega)] at q1
      rw [List.getElem?_append_right (by omega)] at q2
      by_cases hz : i = us.length
      · rw [if_pos hz]
        rw [hz, Nat.sub_self] at q1
        rw [hz, hl, Nat.sub_self] at q2
        cases q1; cases q2
        exact .inr ⟨_, rfl, rfl, .inl rfl⟩
      · rw [if_neg hz]
        obtain ⟨k, hk⟩ : ∃ k, i = us.length + (k + 1) := ⟨i - us.length - 1, by omega⟩
        have e1 : i - us.length = k + 1 := by omega
        have e2 : i - es.length = k + 1 := by omega
        rw [e1] at q1
        rw [e2] at q2
        have q1 : I[k]? = some t' := q1
        have q2 : J[k]? = some d' := q2
        refine .inr ⟨t', ?_, ?_, .inl rfl⟩
        · rw [show i = (us.length + k) + 1 by omega]
          show (us ++ I)[us.length + k]? = _
          rw [List.getElem?_append_right (by omega), Nat.add_sub_cancel_left]; exact q1
        · rw [show i = (es.length + k) + 1 by omega]
          show (es ++ J)[es.length + k]? = _
          rw [List.getElem?_append_right (by omega), Nat.add_sub_cancel_left]; exact q2
  · have q : (if i < us.length then i + 1 else if i = us.length then 0 else i) = (if j < us.length then j + 1 else if j = us.length then 0 else j) := q
    split at q <;> split at q <;> (try split at q) <;> (try split at q) <;> omega
/-- within a frozen environment: the environment stands as before -/
theorem Step.frozen (h : nOE ρ) (hl : us.length = es.length) (rp : reps s (eT ρ) (eD r)) (x : exs s (eT ρ) (eD r)) (st : Step s (eT ρ) (eD r) s' (us ++ I) (es ++ J)) : Step s (eT ρ) (eD r) s' (us ++ eT ρ) (es ++ eD r) := by
  have hO : ∀ a, ¬ inOs s (eT ρ) (eD r) a := fun a => nOE_inOs h
  have old : ∀ a, a < s.length → s'[a]? = s[a]? := fun a w => st.fr a w (hO a)
  have sm : Sms s s' (eT ρ) (eD r) := sms_of _ _ fun a w => old a (inFs_lt _ _ a rp w)
  obtain ⟨q1, _⟩ := reps_app_inv hl st.rp
  obtain ⟨x1, _, _, _⟩ := (exs_app hl).mp st.ex
  have tO : ∀ a, inOs s' us es a → s.length ≤ a := fun a w => by
    rcases st.ow a ((inOs_app hl).mpr (.inl w)) with z | z
    · exact (hO a z).elim
    · exact z
  refine ⟨st.len, fun a w _ => old a w, reps_app q1 (sm.rp rp), (exs_app hl).mpr ⟨x1, sm.ex x, fun a o f => ?_, fun a o f => ?_⟩, fun a q => ?_, fun a q => ?_⟩
  · have := tO a o
    have := inFs_lt _ _ a rp ((sm.fu a).mp f)
    omega
  · exact (hO a ((sm.ow a).mp o)).elim
  · rcases (inOs_app hl).mp q with z | z
    · exact .inr (tO a z)
    · exact .inl ((sm.ow a).mp z)
  · rcases (inFs_app hl).mp q with z | z
    · exact st.fu a ((inFs_app hl).mpr (.inl z))
    · exact .inl ((sm.fu a).mp z)
end

/-! ### operands -/
structure CalOk (C : Nal) (Cm : Cal) : Prop where
  P : Cm.P = C.Q.P
  L : Cm.L = C.L
  call : ∀ f args vs s, reps s args vs → exs s args vs → match C.call f args with
    | .ok t outs => ∃ d s', Cm.call f vs s = .ok d s' ∧ Step s args vs s' (t :: outs) (d :: vs)
    | .exc x outs => ∃ s', Cm.call f vs s = .exc x s' ∧ Step s args vs s' outs vs
    | .no => True
/-- a meaning is right at every frozen or whole environment -/
def Sn (f : Bool → NEnv → NR T) (g : Env → M D) : Prop := ∀ (fz : Bool) (ρ : NEnv) (r : Env) (s : Sto), St fz s ρ r → Gd RT s (eT ρ) (eD r) r (Fz fz ρ) (f fz ρ) (g r s)
theorem opnd_ok {f : Bool → NEnv → NR T} {g : Env → M D} (h : Sn f g) {io : Bool} {vs : List Nat} {fz : Bool} {ρ : NEnv} {r : Env} {s : Sto} (st : St fz s ρ r) : Gd RT s (eT ρ) (eD r) r (Fz fz ρ) (opnd f io vs fz ρ) (g r s) := by
  unfold opnd
  cases fz with
  | true => exact h true ρ r s st
  | false =>
    cases io with
    | true => exact h false ρ r s st
    | false =>
      dsimp only
      unfold bor
      have fr := Step.frzR st.ok vs st.rp st.ex
      have q := h true (frzR vs ρ) r s ⟨st.ok.frzR vs, fr.rp, fr.ex, fun _ => nOE_frzR vs⟩
      cases z : f true (frzR vs ρ) with
      | ok t ρ' =>
        rw [z] at q
        obtain ⟨d, s1, us, es, e, ⟨rfl, rfl⟩, h2, h3, h4, h5⟩ := q
        have h4 : ρ' = frzR vs ρ := h4 rfl
        subst h4
        dsimp only
        split
        · rename_i w
          exact ⟨d, s1, [t], [d], e, ⟨rfl, rfl⟩, rfl, st.ok, fun w => Bool.noConfusion w, Step.back_own st.ok st.rp st.ex w h5⟩
        · exact ⟨d, s1, [t], [d], e, ⟨rfl, rfl⟩, rfl, st.ok.frzOn vs, fun w => Bool.noConfusion w, Step.back st.ok st.rp st.ex h5⟩
      | exc x ρ' =>
        rw [z] at q
        obtain ⟨s1, e, h3, h5⟩ := q
        exact ⟨s1, e, st.ok, Step.back_exc st.ok st.rp st.ex h5⟩
      | no => trivial

/-! ### what is handed to a def -/
def arRel (r : Env) : List Ar → List D → List T → List D → Prop
  | [], ds, us, es => ds = [] ∧ us = [] ∧ es = []
  | .val t :: as, ds, us, es => ∃ d ds' us' es', ds = d :: ds' ∧ us = t :: us' ∧ es = d :: es' ∧ arRel r as ds' us' es'
  | .plc i :: as, ds, us, es => ∃ d ds', ds = d :: ds' ∧ (∀ y, r[i]? = some (.val y) → y = d) ∧ arRel r as ds' us es
section
variable {s : Sto} {ρ ρ' : NEnv} {r : Env}
theorem arRel.len : ∀ {as : List Ar} {ds : List D} {us : List T} {es : List D}, arRel r as ds us es → us.length = es.length ∧ as.length = ds.length
  | [], _, _, _, ⟨rfl, rfl, rfl⟩ => ⟨rfl, rfl⟩
  | .val t :: as, _, _, _, ⟨d, ds', us', es', e1, e2, e3, h⟩ => by
    obtain ⟨h1, h2⟩ := arRel.len h
    subst e1 e2 e3
    exact ⟨by simp [h1], by simp [h2]⟩
  | .plc i :: as, _, _, _, ⟨d, ds', e1, _, h⟩ => by
    obtain ⟨h1, h2⟩ := arRel.len h
    subst e1
    exact ⟨h1, by simp [h2]⟩
theorem takes_ok : ∀ {as : List Ar} {ds : List D} {us : List T} {es : List D} {ρ ρ' : NEnv} {ts : List T}, arRel r as ds us es → takes as ρ = some (ts, ρ') → EOk ρ r → reps s (us ++ eT ρ) (es ++ eD r) → exs s (us ++ eT ρ) (es ++ eD r) →
    EOk ρ' r ∧ ts.length = ds.length ∧ Step s (us ++ eT ρ) (es ++ eD r) s (ts ++ eT ρ') (ds ++ eD r)
  | [], _, _, _, ρ, ρ', ts, ⟨rfl, rfl, rfl⟩, h, e, rp, x => by
    cases h
    exact ⟨e, rfl, Step.refl rp x⟩
  | .val t :: as, _, _, _, ρ, ρ', ts, ⟨d, ds', us', es', e1, e2, e3, h⟩, q, e, rp, x => by
    subst e1 e2 e3
    unfold takes at q
    cases w : takes as ρ with
    | none => rw [w] at q; cases q
    | some p =>
      obtain ⟨ts1, ρ1⟩ := p
      rw [w] at q
      cases q
      obtain ⟨h1, h2, h3⟩ := takes_ok h w e (reps_cons.mp rp).2 (exs_cons.mp x).2.2.2
      refine ⟨h1, by simp [h2], ?_⟩
      exact h3.frame (us := [t]) (es := [d]) (reps_cons.mpr ⟨(reps_cons.mp rp).1, reps_nil⟩) x
  | .plc i :: as, _, us, es, ρ, ρ', ts, ⟨d, ds', e1, hd, h⟩, q, e, rp, x => by
    subst e1
    unfold takes at q
    cases w : takes as ρ with
    | none => rw [w] at q; cases q
    | some p =>
      obtain ⟨ts1, ρ1⟩ := p
      rw [w] at q
      dsimp only at q
      obtain ⟨h1, h2, h3⟩ := takes_ok h w e rp x
      cases z : take1 (.plc i) ρ1 with
      | none => rw [z] at q; cases q
      | some p =>
        obtain ⟨t, ρ2⟩ := p
        rw [z] at q
        cases q
        unfold take1 at z
        dsimp only at z
        split at z
        · cases z
          rename_i hs
          obtain ⟨y, y1, y2, y3⟩ := h1.val hs
          cases hd y y1
          obtain ⟨r1, r2⟩ := reps_app_inv h2 h3.rp
          obtain ⟨_, x2, _, _⟩ := (exs_app h2).mp h3.ex
          have st := h3.then h2 (Step.take y2 y3 r2 x2 h1.len)
          exact ⟨h1.set' fun _ _ => trivial, by simp [h2], st.trans (Step.rot h2 st.rp st.ex)⟩
        · cases z
theorem puts_ok : ∀ {as : List Ar} {ds fs : List D} {us : List T} {es : List D} {ρ ρ' : NEnv} {outs : List T}, arRel r as ds us es → puts as outs ρ = some ρ' → EOk ρ r → outs.length = (ds ++ fs).length → (∀ i, Ar.plc i ∈ as → ∃ y, r[i]? = some (.val y)) → reps s (outs ++ eT ρ) ((ds ++ fs) ++ eD r) → exs s (outs ++ eT ρ) ((ds ++ fs) ++ eD r) →
    EOk ρ' r ∧ Step s (outs ++ eT ρ) ((ds ++ fs) ++ eD r) s (eT ρ') (eD r)
  | [], _, fs, _, _, ρ, ρ', outs, ⟨rfl, rfl, rfl⟩, h, e, hl, _, rp, x => by
    have h : some ρ = some ρ' := by cases outs <;> exact h
    cases h
    exact ⟨e, Step.drop hl rp x⟩
  | _ :: _, _, _, _, _, ρ, ρ', [], h, q, e, hl, _, rp, x => by cases q
  | .val t :: as, _, fs, _, _, ρ, ρ', o :: outs, ⟨d, ds', us', es', e1, e2, e3, h⟩, q, e, hl, hp, rp, x => by
    subst e1 e2 e3
    have q : puts as outs ρ = some ρ' := q
    have st : Step s (o :: (outs ++ eT ρ)) (d :: ((ds' ++ fs) ++ eD r)) s (outs ++ eT ρ) ((ds' ++ fs) ++ eD r) := Step.drop (us := [o]) (es := [d]) rfl rp x
    obtain ⟨h1, h2⟩ := puts_ok h q e (by simpa using hl) (fun i hi => hp i (.tail _ hi)) st.rp st.ex
    exact ⟨h1, st.trans h2⟩
  | .plc i :: as, _, fs, us, es, ρ, ρ', o :: outs, ⟨d, ds', e1, hd, h⟩, q, e, hl, hp, rp, x => by
    subst e1
    unfold puts at q
    cases z : put1 (.plc i) o ρ with
    | none => rw [z] at q; cases q
    | some ρ1 =>
      rw [z] at q
      have q : puts as outs ρ1 = some ρ' := q
      unfold put1 at z
      dsimp only at z
      split at z
      · cases z
        obtain ⟨y, hy⟩ := hp i (.head _)
        cases hd y hy
        have hlo : outs.length = (ds' ++ fs).length := by simpa using hl
        have st : Step s (o :: (outs ++ eT ρ)) (d :: ((ds' ++ fs) ++ eD r)) s (outs ++ (o :: eT ρ)) ((ds' ++ fs) ++ (d :: eD r)) := Step.unrot hlo rp x
        obtain ⟨r1, r2⟩ := reps_app_inv hlo st.rp
        obtain ⟨_, x2, _, _⟩ := (exs_app hlo).mp st.ex
        have pt := Step.put (i := i) r2 x2 e.len
        have hr : r.set i (.val d) = r := by
          apply List.ext_getElem?
          intro j
          rw [List.getElem?_set]
          split
          · rename_i hj
            subst hj
            split
            · exact hy.symm
            · rename_i hn
              exact (List.getElem?_eq_none (by omega)).symm
          · rfl
        rw [hr] at pt
        have st2 := st.then hlo pt
        obtain ⟨h1, h2⟩ := puts_ok h q (e.set' fun y' hy' => by rw [hy] at hy'; cases hy'; trivial) hlo (fun j hj => hp j (.tail _ hj)) st2.rp st2.ex
        exact ⟨h1, st2.trans h2⟩
      · cases z
theorem takes_plc : ∀ {as : List Ar} {ρ ρ' : NEnv} {ts : List T}, takes as ρ = some (ts, ρ') → EOk ρ r → ∀ i, Ar.plc i ∈ as → ∃ y, r[i]? = some (.val y)
  | [], _, _, _, _, _, i, h => by cases h
  | a :: as, ρ, ρ', ts, q, e, i, h => by
    unfold takes at q
    cases w : takes as ρ with
    | none => rw [w] at q; cases q
    | some p =>
      obtain ⟨ts1, ρ1⟩ := p
      rw [w] at q
      dsimp only at q
      rcases List.mem_cons.mp h with rfl | h
      · cases z : take1 (.plc i) ρ1 with
        | none => rw [z] at q; cases q
        | some p =>
          unfold take1 at z
          dsimp only at z
          split at z
          · rename_i hs
            have sub : ∀ {as : List Ar} {ρ ρ1 : NEnv} {ts : List T}, takes as ρ = some (ts, ρ1) → ∀ t, ρ1[i]? = some (.val t) → ∃ t', ρ[i]? = some (.val t') := fun {as} => by
              induction as with
              | nil => intro ρ ρ1 ts w t ht; cases w; exact ⟨t, ht⟩
              | cons a as ih =>
                intro ρ ρ1 ts w t ht
                unfold takes at w
                cases w2 : takes as ρ with
                | none => rw [w2] at w; cases w
                | some p =>
                  obtain ⟨ts2, ρ2⟩ := p
                  rw [w2] at w
                  dsimp only at w
                  cases w3 : take1 a ρ2 with
                  | none => rw [w3] at w; cases w
                  | some p =>
                    obtain ⟨t3, ρ3⟩ := p
                    rw [w3] at w
                    cases w
                    cases a with
                    | val t4 =>
                      cases w3
                      exact ih w2 t ht
                    | plc k =>
                      unfold take1 at w3
                      dsimp only at w3
                      split at w3
                      · cases w3
                        rw [List.getElem?_set] at ht
                        split at ht
                        · split at ht <;> cases ht
                        · exact ih w2 t ht
                      · cases w3
            obtain ⟨t', ht'⟩ := sub w _ hs
            obtain ⟨y, hy, _⟩ := e.val ht'
            exact ⟨y, hy⟩
          · cases z
      · exact takes_plc w e i h
end
section
variable {C : Nal} {Cm : Cal} {s0 s : Sto} {A us : List T} {B ds es : List D} {r : Env} {F : NEnv → Prop} {ρ : NEnv} {f n : Nat} {as : List Ar}
theorem ncall_ok (c : CalOk C Cm) (h : arRel r as ds us es) (e : EOk ρ r) (st : Step s0 A B s (us ++ eT ρ) (es ++ eD r)) (hF : ∀ ρ', (∀ i, Ar.plc i ∉ as) → ρ' = ρ → F ρ') (hF2 : (∃ i, Ar.plc i ∈ as) → ∀ ρ', F ρ') : Gd RT s0 A B r F (ncall C f n as ρ) (callN Cm f n ds s) := by
  have noPlc : (∀ i, Ar.plc i ∉ as) → ∀ {ρ ρ' ts}, takes as ρ = some (ts, ρ') → ρ' = ρ := by
    clear h st hF hF2
    induction as with
    | nil => intro _ ρ ρ' ts w; cases w; rfl
    | cons a as ih =>
      intro hn ρ ρ' ts w
      unfold takes at w
      cases w2 : takes as ρ with
      | none => rw [w2] at w; cases w
      | some p =>
        obtain ⟨ts2, ρ2⟩ := p
        rw [w2] at w
        cases a with
        | val t => cases w; exact ih (fun i q => hn i (.tail _ q)) w2
        | plc i => exact (hn i (.head _)).elim
  have noPut : (∀ i, Ar.plc i ∉ as) → ∀ {ρ ρ' : NEnv} {ts : List T}, puts as ts ρ = some ρ' → ρ' = ρ := by
    clear h st hF hF2 noPlc
    induction as with
    | nil => intro _ ρ ρ' ts w; cases ts <;> (cases w; rfl)
    | cons a as ih =>
      intro hn ρ ρ' ts w
      cases ts with
      | nil => cases w
      | cons t ts =>
        cases a with
        | val t => exact ih (fun i q => hn i (.tail _ q)) w
        | plc i => exact (hn i (.head _)).elim
  unfold ncall
  cases w : takes as ρ with
  | none => trivial
  | some p =>
    obtain ⟨ts, ρ1⟩ := p
    dsimp only
    split
    · rename_i hc
      obtain ⟨h1, h2⟩ := hc
      obtain ⟨e1, l1, t1⟩ := takes_ok h w e st.rp st.ex
      have st1 := st.trans t1
      have hpl := takes_plc w e
      obtain ⟨r1, r2⟩ := reps_app_inv l1 st1.rp
      obtain ⟨_, x2, _, _⟩ := (exs_app l1).mp st1.ex
      have pl := st1.then l1 (Step.plains h1 r2 x2)
      rw [← List.append_assoc, ← List.append_assoc] at pl
      have l2 : (ts ++ (C.Q.P.dfl f n).map T.p).length = (ds ++ C.Q.P.dfl f n).length := by simp [l1]
      obtain ⟨r3, r4⟩ := reps_app_inv l2 pl.rp
      obtain ⟨x3, _, _, _⟩ := (exs_app l2).mp pl.ex
      have hm : callN Cm f n ds = Cm.call f (ds ++ C.Q.P.dfl f n) := by
        unfold callN
        rw [c.P, if_pos (by rw [← l2]; exact h2)]
      rw [hm]
      have q := c.call f _ _ s r3 x3
      -- behind the call the rest stands as it is
      have fin : ∀ {ρ2 : NEnv} {outs : List T}, puts as outs ρ1 = some ρ2 → F ρ2 := fun {ρ2 outs} hp => by
        by_cases hn : ∀ i, Ar.plc i ∉ as
        · exact hF ρ2 hn ((noPut hn hp).trans (noPlc hn w))
        · exact hF2 (Classical.not_forall.mp hn |>.imp fun i z => Classical.not_not.mp z) ρ2
      cases z : C.call f (ts ++ (C.Q.P.dfl f n).map T.p) with
      | ok t outs =>
        rw [z] at q
        obtain ⟨d, s', hw, t2⟩ := q
        dsimp only
        cases hp : puts as outs ρ1 with
        | none => trivial
        | some ρ2 =>
          have fr := Step.frameR l2 t2 r4 pl.ex
          have st2 := pl.trans fr
          have lo : outs.length = (ds ++ C.Q.P.dfl f n).length := by
            have := reps_len t2.rp
            simpa using this
          obtain ⟨e3, t3⟩ := puts_ok h hp e1 lo hpl (reps_cons.mp st2.rp).2 (exs_cons.mp st2.ex).2.2.2
          exact ⟨d, s', [t], [d], hw, ⟨rfl, rfl⟩, rfl, e3, fin hp, st2.then (us := [t]) (es := [d]) rfl t3⟩
      | exc x outs =>
        rw [z] at q
        obtain ⟨s', hw, t2⟩ := q
        dsimp only
        cases hp : puts as outs ρ1 with
        | none => trivial
        | some ρ2 =>
          have st2 := pl.trans (Step.frameR l2 t2 r4 pl.ex)
          obtain ⟨e3, t3⟩ := puts_ok h hp e1 (reps_len t2.rp) hpl st2.rp st2.ex
          exact ⟨s', hw, e3, st2.trans t3⟩
      | no => trivial
    · trivial
end
end EW.EN

set_option Elab.async false
set_option linter.all false
set_option maxRecDepth 100000
set_option maxHeartbeats 1000000
/-! N layer 7: targets, what is walked, loops of comprehensions, fields taken out. -/
namespace EW.EN
open PySem
structure Ag (vs : List Nat) (r1 r0 : Env) : Prop where
  len : r1.length = r0.length
  at_ : ∀ i, i ∉ vs → r1[i]? = r0[i]?
theorem Ag.refl {vs : List Nat} {r : Env} : Ag vs r r := ⟨rfl, fun _ _ => rfl⟩
theorem Ag.trans {vs : List Nat} {r r1 r2 : Env} (a : Ag vs r r1) (b : Ag vs r1 r2) : Ag vs r r2 := ⟨a.len.trans b.len, fun i h => (a.at_ i h).trans (b.at_ i h)⟩
theorem Ag.symm {vs : List Nat} {r r1 : Env} (a : Ag vs r r1) : Ag vs r1 r := ⟨a.len.symm, fun i h => (a.at_ i h).symm⟩
theorem Ag.mono {vs ws : List Nat} {r r1 : Env} (a : Ag vs r r1) (h : ∀ i, i ∈ vs → i ∈ ws) : Ag ws r r1 := ⟨a.len, fun i q => a.at_ i fun z => q (h i z)⟩
theorem Ag.set {vs : List Nat} {r : Env} {i : Nat} {z : Slot} (h : i ∈ vs) : Ag vs (r.set i z) r :=
  ⟨by simp, fun j hj => List.getElem?_set_ne fun e => hj (by subst e; exact h)⟩
section
variable {s : Sto} {ρ ρ' : NEnv} {r : Env} {t : T} {d : D} {I : List T} {J : List D}
theorem setAll_ok : ∀ {is : List Nat} {ts : List T} {ds : List D} {ρ : NEnv} {r : Env}, is.length = ts.length → ts.length = ds.length → EOk ρ r → reps s (ts ++ eT ρ) (ds ++ eD r) → exs s (ts ++ eT ρ) (ds ++ eD r) →
    EOk (setAllN is ts ρ) (setAll is ds r) ∧ Step s (ts ++ eT ρ) (ds ++ eD r) s (eT (setAllN is ts ρ)) (eD (setAll is ds r)) ∧ Ag is (setAll is ds r) r
  | [], [], [], ρ, r, _, _, e, rp, x => ⟨e, Step.refl rp x, Ag.refl⟩
  | i :: is, t :: ts, d :: ds, ρ, r, h1, h2, e, rp, x => by
    have h1 : is.length = ts.length := by simpa using h1
    have h2 : ts.length = ds.length := by simpa using h2
    have a : Step s (t :: (ts ++ eT ρ)) (d :: (ds ++ eD r)) s (ts ++ (t :: eT ρ)) (ds ++ (d :: eD r)) := Step.unrot h2 rp x
    obtain ⟨r1, r2⟩ := reps_app_inv h2 a.rp
    obtain ⟨_, x2, _, _⟩ := (exs_app h2).mp a.ex
    have b := a.then h2 (Step.put (i := i) r2 x2 e.len)
    obtain ⟨q1, q2, q3⟩ := setAll_ok (is := is) h1 h2 (e.set (i := i) (z := .val t) (y := .val d) trivial) b.rp b.ex
    exact ⟨q1, b.trans q2, (q3.mono fun j hj => .tail _ hj).trans (Ag.set (.head _))⟩
theorem tupI_ok {ts : List T} (r : rep s t d) (h : tupI t = some ts) : ∃ ds, d = .tup ds ∧ Opn s t d ts ds := by
  cases t with
  | p x =>
    obtain ⟨rfl, z⟩ := rep_p.mp r
    cases d with
    | tup xs => cases h; rw [nr_tup] at z; exact ⟨xs, rfl, Opn.plain z⟩
    | _ => cases h
  | tup o us =>
    obtain ⟨ds, rfl, z⟩ := rep_tup.mp r
    cases h
    exact ⟨ds, rfl, Opn.tup z⟩
  | _ => cases h
theorem bindN_ok {lock : List Nat} {tg : Tg} (h : bindN lock tg t ρ = some ρ') (e : EOk ρ r) (rp : reps s (t :: eT ρ) (d :: eD r)) (x : exs s (t :: eT ρ) (d :: eD r)) :
    ∃ r', bindT tg d r s = .ok r' s ∧ EOk ρ' r' ∧ Step s (t :: eT ρ) (d :: eD r) s (eT ρ') (eD r') ∧ Ag (tgN tg) r' r ∧ ∀ i ∈ lock, r'[i]? = r[i]? := by
  have hr := (reps_cons.mp rp).1
  cases tg with
  | nm i =>
    have h : (if lock.contains i then none else some (ρ.set i (.val t))) = some ρ' := h
    split at h
    · cases h
    · rename_i hk
      cases h
      refine ⟨_, rfl, e.set trivial, Step.put rp x e.len, Ag.set (.head _), fun j hj => List.getElem?_set_ne fun q => hk ?_⟩
      subst q
      exact List.contains_iff_mem.mpr hj
  | tp is =>
    have h : (if is.any lock.contains then none else (match items t with
      | some ts => if is.length = ts.length then some (setAllN is ts ρ) else none
      | none => none)) = some ρ' := h
    split at h
    · cases h
    · rename_i hk
      split at h
      · rename_i ts ht
        split at h
        · rename_i hl
          cases h
          obtain ⟨ds, sq, o⟩ := items_ok hr ht
          have st := o.st _ _ rp x
          obtain ⟨q1, q2, q3⟩ := setAll_ok (is := is) hl o.len e st.rp st.ex
          refine ⟨_, ?_, q1, st.trans q2, q3, fun j hj => q3.at_ j fun hi => hk ?_⟩
          · rcases sq with rfl | ⟨m, rfl, w⟩
            · show (if is.length = ds.length then M.pure (setAll is ds r) else M.stuck) s = _
              rw [if_pos (hl.trans o.len)]
              rfl
            · show (match lstAt s m with
                | some ds => if is.length = ds.length then Res.ok (setAll is ds r) s else Res.no
                | none => Res.no) = _
              rw [w]
              dsimp only
              rw [if_pos (hl.trans o.len)]
          · exact List.any_eq_true.mpr ⟨j, hi, List.contains_iff_mem.mpr hj⟩
        · cases h
      · cases h
  | tp2 i js =>
    have h : (if lock.contains i || js.any lock.contains then none else (match tupI t with
      | some [a, b] => (match tupI b with
        | some ts => if js.length = ts.length then some (setAllN js ts (ρ.set i (.val a))) else none
        | none => none)
      | _ => none)) = some ρ' := h
    split at h
    · cases h
    · rename_i hk
      split at h
      · rename_i a b ht
        split at h
        · rename_i ts ht2
          split at h
          · rename_i hl
            cases h
            obtain ⟨ds, rfl, o⟩ := tupI_ok hr ht
            have l2 := o.len
            obtain ⟨da, db, rfl⟩ : ∃ da db, ds = [da, db] := by
              match ds, l2 with
              | [da, db], _ => exact ⟨da, db, rfl⟩
            have st := o.st _ _ rp x
            have rb := (reps_cons.mp (reps_cons.mp st.rp).2).1
            obtain ⟨es, rfl, o2⟩ := tupI_ok rb ht2
            -- a :: b :: env: a goes to its slot, b is opened
            have s1 : Step s _ _ s (b :: (a :: eT ρ)) (.tup es :: (da :: eD r)) := st.trans (Step.unrot (us := [b]) (es := [.tup es]) rfl st.rp st.ex)
            have s2 := s1.then (us := [b]) (es := [.tup es]) rfl (Step.put (i := i) (reps_cons.mp s1.rp).2 (exs_cons.mp s1.ex).2.2.2 e.len)
            have s3 := s2.trans (o2.st _ _ s2.rp s2.ex)
            obtain ⟨q1, q2, q3⟩ := setAll_ok (is := js) hl o2.len (e.set (i := i) (z := .val a) (y := .val da) trivial) s3.rp s3.ex
            refine ⟨_, ?_, q1, s3.trans q2, (q3.mono fun j hj => .tail _ hj).trans (Ag.set (.head _)), fun j hj => ?_⟩
            · show (if js.length = es.length then M.pure (setAll js es (r.set i (.val da))) else M.stuck) s = _
              rw [if_pos (hl.trans o2.len)]
              rfl
            · have hk : ¬ (lock.contains i = true ∨ js.any lock.contains = true) := by rw [← Bool.or_eq_true]; exact hk
              rw [q3.at_ j fun hi => hk (.inr (List.any_eq_true.mpr ⟨j, hi, List.contains_iff_mem.mpr hj⟩))]
              exact List.getElem?_set_ne fun q => hk (.inl (by subst q; exact List.contains_iff_mem.mpr hj))
          · cases h
        · cases h
      · cases h
theorem nO_kids {o : Bool} {ts : List T} (h : o = false) : ∀ u ∈ kids o ts, nO u = true := fun u hu => by
  subst h
  obtain ⟨v, _, rfl⟩ := List.mem_map.mp hu
  exact nO_frz v
theorem tupI_nO {ts : List T} (h : tupI t = some ts) (hn : nO t = true) : ∀ u ∈ ts, nO u = true := by
  cases t with
  | p x =>
    cases x with
    | tup xs =>
      cases h
      intro u hu
      obtain ⟨v, _, rfl⟩ := List.mem_map.mp hu
      rfl
    | _ => cases h
  | tup o us => cases h; exact nO_kids (by unfold nO T.ow at hn; simpa using hn)
  | _ => cases h
theorem frz_kids (t : T) {ts : List T} (h : items (frz t) = some ts) : ∀ u ∈ ts, nO u = true := by
  cases t with
  | lp o xs => cases h; intro u hu; obtain ⟨v, _, rfl⟩ := List.mem_map.mp hu; rfl
  | rol xs => cases h; intro u hu; obtain ⟨v, _, rfl⟩ := List.mem_map.mp hu; rfl
  | p x => cases x with
    | tup xs => cases h; intro u hu; obtain ⟨v, _, rfl⟩ := List.mem_map.mp hu; rfl
    | _ => cases h
  | lst o us => cases h; exact nO_kids rfl
  | tup o us => cases h; exact nO_kids rfl
  | _ => cases h
theorem items_nO {ts : List T} (h : items t = some ts) (hn : nO t = true) : ∀ u ∈ ts, nO u = true := by
  rw [← frz_nO hn] at h
  exact frz_kids t h
theorem nOE_set {i : Nat} (h : nOE ρ) (ht : nO t = true) : nOE (ρ.set i (.val t)) := fun j u q => by
  rw [List.getElem?_set] at q
  split at q
  · split at q
    · cases q; exact ht
    · cases q
  · exact h j u q
theorem nOE_setAll : ∀ (is : List Nat) (ts : List T) (ρ : NEnv), nOE ρ → (∀ u ∈ ts, nO u = true) → nOE (setAllN is ts ρ)
  | [], _, _, h, _ => h
  | i :: is, [], _, h, _ => h
  | i :: is, t :: ts, ρ, h, k => nOE_setAll is ts _ (nOE_set h (k t (.head _))) fun u hu => k u (.tail _ hu)
theorem bindN_nOE {lock : List Nat} {tg : Tg} (h : bindN lock tg t ρ = some ρ') (hn : nO t = true) (k : nOE ρ) : nOE ρ' := by
  cases tg with
  | nm i =>
    have h : (if lock.contains i then none else some (ρ.set i (.val t))) = some ρ' := h
    split at h
    · cases h
    · cases h; exact nOE_set k hn
  | tp is =>
    have h : (if is.any lock.contains then none else (match items t with
      | some ts => if is.length = ts.length then some (setAllN is ts ρ) else none
      | none => none)) = some ρ' := h
    split at h
    · cases h
    · split at h
      · rename_i ts ht
        split at h
        · cases h; exact nOE_setAll _ _ _ k (items_nO ht hn)
        · cases h
      · cases h
  | tp2 i js =>
    have h : (if lock.contains i || js.any lock.contains then none else (match tupI t with
      | some [a, b] => (match tupI b with
        | some ts => if js.length = ts.length then some (setAllN js ts (ρ.set i (.val a))) else none
        | none => none)
      | _ => none)) = some ρ' := h
    split at h
    · cases h
    · split at h
      · rename_i a b ht
        have z := tupI_nO ht hn
        split at h
        · rename_i ts ht2
          split at h
          · cases h; exact nOE_setAll _ _ _ (nOE_set k (z a (.head _))) (tupI_nO ht2 (z b (.tail _ (.head _))))
          · cases h
        · cases h
      · cases h

/-! ### slots wiped -/
theorem wipeN_len (vs : List Nat) : (wipeN ρ vs).length = ρ.length := by
  induction vs with
  | nil => rfl
  | cons v vs ih => show ((wipeN ρ vs).set v .non).length = _; rw [List.length_set, ih]
theorem wipeN_in {vs : List Nat} {i : Nat} {z : Sl} (h : (wipeN ρ vs)[i]? = some z) : (i ∈ vs ∧ z = .non) ∨ (i ∉ vs ∧ ρ[i]? = some z) := by
  induction vs with
  | nil => exact .inr ⟨fun q => by (cases q), h⟩
  | cons v vs ih =>
    have h : ((wipeN ρ vs).set v .non)[i]? = some z := h
    rw [List.getElem?_set] at h
    split at h
    · rename_i hv
      split at h
      · cases h; subst hv; exact .inl ⟨.head _, rfl⟩
      · cases h
    · rename_i hv
      rcases ih h with ⟨q1, q2⟩ | ⟨q1, q2⟩
      · exact .inl ⟨.tail _ q1, q2⟩
      · exact .inr ⟨fun q => by rcases List.mem_cons.mp q with rfl | q; exact hv rfl; exact q1 q, q2⟩
theorem wipeE_ag (r : Env) : ∀ vs : List Nat, Ag vs (wipeE r vs) r
  | [] => Ag.refl
  | v :: vs => (Ag.set (.head _)).trans ((wipeE_ag r vs).mono fun i h => .tail _ h)
theorem nOE_wipe {vs : List Nat} (h : nOE ρ) : nOE (wipeN ρ vs) := fun i t q => by
  rcases wipeN_in q with ⟨_, z⟩ | ⟨_, z⟩
  · cases z
  · exact h i t z
theorem EOk.wipe {own : List Nat} {r1 r0 : Env} (e : EOk ρ r1) (a : Ag own r1 r0) : EOk (wipeN ρ own) r0 := by
  refine ⟨(wipeN_len own).trans (e.len.trans a.len), fun i z y h1 h2 => ?_⟩
  rcases wipeN_in h1 with ⟨_, rfl⟩ | ⟨q1, q2⟩
  · trivial
  · rw [← a.at_ i q1] at h2
    exact e.ok i z y q2 h2
theorem Step.wipe {own : List Nat} {r1 r0 : Env} (e : EOk ρ r1) (a : Ag own r1 r0) (rp : reps s (eT ρ) (eD r1)) (x : exs s (eT ρ) (eD r1)) : Step s (eT ρ) (eD r1) s (eT (wipeN ρ own)) (eD r0) := by
  refine Step.sub id rp x (by simp [wipeN_len, e.len, a.len]) (fun i t' d' h1 h2 => ?_) (fun i j t' u' ne h => absurd h ne)
  unfold eT at h1
  rw [List.getElem?_map] at h1
  cases q : (wipeN ρ own)[i]? with
  | none => rw [q] at h1; cases h1
  | some z =>
    rw [q] at h1
    cases h1
    rcases wipeN_in q with ⟨_, rfl⟩ | ⟨q1, q2⟩
    · exact .inl rfl
    · refine .inr ⟨tOf z, by simp [q2], ?_, .inl rfl⟩
      unfold eD at h2 ⊢
      rw [List.getElem?_map] at h2 ⊢
      rw [show r1[id i]? = r0[i]? from a.at_ i q1]
      exact h2

/-! ### what is walked -/
theorem Step.view {u x : T} {e : D} (hu : nO u = true) (hx : nO x = true) (rx : rep s x d) (hF : ∀ a, inF s x d a → inF s u e a) (rp : reps s (u :: I) (e :: J)) (xx : exs s (u :: I) (e :: J)) : Step s (u :: I) (e :: J) s (x :: (u :: I)) (d :: (e :: J)) := by
  obtain ⟨x1, x2, x3, x4⟩ := exs_cons.mp xx
  refine ⟨Nat.le_refl _, fun _ _ _ => rfl, reps_cons.mpr ⟨rx, rp⟩, exs_cons.mpr ⟨nO_ex hx, fun a o => (nO_inO hx o).elim, fun a o f => ?_, xx⟩, fun a q => ?_, fun a q => ?_⟩
  · rcases inOs_cons.mp o with o | o
    · exact nO_inO hu o
    · exact x3 a o (hF a f)
  · rcases inOs_cons.mp q with o | o
    · exact (nO_inO hx o).elim
    · exact .inl o
  · rcases inFs_cons.mp q with o | o
    · exact .inl (inFs_cons.mpr (.inl (hF a o)))
    · exact .inl o
structure Src (us : List T) (es : List D) (xs : List T) (it : Itr) (s : Sto) : Prop where
  n : it.n = xs.length
  fin : it.fin s = true
  get : ∀ (i : Nat) (x : T), xs[i]? = some x → nO x = true ∧ ∃ d, it.at_ i s = some d ∧ ∀ I J, reps s (us ++ I) (es ++ J) → exs s (us ++ I) (es ++ J) → Step s (us ++ I) (es ++ J) s (x :: (us ++ I)) (d :: (es ++ J))
theorem Src.plain {us : List T} {es xs : List D} {it : Itr} (h : nrs xs = true) (n : it.n = xs.length) (fin : it.fin s = true) (at_ : ∀ i : Nat, it.at_ i s = xs[i]?) : Src us es (xs.map T.p) it s := by
  refine ⟨by rw [n, List.length_map], fin, fun i x hx => ?_⟩
  rw [List.getElem?_map] at hx
  cases q : xs[i]? with
  | none => rw [q] at hx; cases hx
  | some d =>
    rw [q] at hx
    cases hx
    exact ⟨rfl, d, by rw [at_, q], fun I J r x => Step.plain r x (nrs_mem h (List.mem_of_getElem? q))⟩
theorem src_kids {u : T} {e : D} {ts : List T} {ds : List D} {it : Itr} (hu : nO u = true) (r1 : reps s ts ds) (hF : ∀ a, inFs s ts ds a → inF s u e a) (n : it.n = ts.length) (fin : it.fin s = true) (at_ : ∀ i : Nat, it.at_ i s = ds[i]?) : Src [u] [e] (ts.map frz) it s := by
  refine ⟨by rw [n, List.length_map], fin, fun i x hx => ?_⟩
  rw [List.getElem?_map] at hx
  cases q : ts[i]? with
  | none => rw [q] at hx; cases hx
  | some t =>
    rw [q] at hx
    cases hx
    obtain ⟨d, hd⟩ : ∃ d, ds[i]? = some d := ⟨_, List.getElem?_eq_getElem ((reps_len r1) ▸ (List.getElem?_eq_some_iff.mp q).1)⟩
    exact ⟨nO_frz t, d, by rw [at_, hd], fun I J r x => Step.view hu (nO_frz t) (rep_frz.mpr ((reps_at.mp r1).2 i t d q hd)) (fun a z => hF a (inFs_at.mpr ⟨i, t, d, q, hd, inF_frz.mp z⟩)) r x⟩
theorem fin_lst {m : Nat} {xs : List D} (h : lstAt s m = some xs) : (itLst m xs.length).fin s = true := by
  show (match lstAt s m with
    | some ys => decide (ys.length ≤ xs.length)
    | none => false) = true
  rw [h]
  exact decide_eq_true (Nat.le_refl _)
theorem at_lst {m n : Nat} {xs : List D} (h : lstAt s m = some xs) (i : Nat) : (itLst m n).at_ i s = xs[i]? := by
  show (lstAt s m).bind (fun xs => xs[i]?) = _
  rw [h]
  rfl
theorem range_nr (lo : Int) (n : Nat) : nrs ((List.range n).map fun k => D.int (lo + (k : Nat))) = true := nrs_of fun x hx => by
  obtain ⟨k, _, rfl⟩ := List.mem_map.mp hx
  rfl
theorem src_range {us : List T} {es : List D} (lo : Int) (n : Nat) : Src us es ((List.range n).map fun k => T.p (.int (lo + (k : Nat)))) (itRng lo n) s := by
  refine ⟨by show n = _; simp, rfl, fun i x hx => ?_⟩
  rw [List.getElem?_map] at hx
  by_cases hi : i < n
  · rw [List.getElem?_range hi] at hx
    cases hx
    exact ⟨rfl, _, rfl, fun I J r x => Step.plain r x rfl⟩
  · rw [List.getElem?_eq_none (by simpa using hi)] at hx
    cases hx
theorem nIt_ok {k : IK} {vs xs : List T} {ds : List D} (h : nIt k vs = some xs) (r : reps s vs ds) : ∃ it us es, mkIt k ds s = .ok it s ∧ us.length = es.length ∧
    (∀ I J, reps s (vs ++ I) (ds ++ J) → exs s (vs ++ I) (ds ++ J) → Step s (vs ++ I) (ds ++ J) s (us ++ I) (es ++ J)) ∧ ∀ s', reps s' us es → Src us es xs it s' := by
  unfold nIt at h
  split at h
  · rename_i t
    unfold reps at r
    obtain ⟨d, e, rfl, r1, r2⟩ := r
    unfold reps at r2
    subst r2
    have fz : ∀ I J, reps s ([t] ++ I) ([d] ++ J) → exs s ([t] ++ I) ([d] ++ J) → Step s ([t] ++ I) ([d] ++ J) s ([frz t] ++ I) ([d] ++ J) := fun I J r x => by
      refine Step.sub id r x (by have := reps_len r; simp at this ⊢; omega) (fun i t' d' q1 q2 => ?_) (fun i j _ _ ne q => absurd q ne)
      cases i with
      | zero => cases q1; cases q2; exact .inr ⟨t, rfl, rfl, .inr rfl⟩
      | succ i => exact .inr ⟨t', q1, q2, .inl rfl⟩
    cases t with
    | lp o ys =>
      obtain ⟨m, rfl, q, z⟩ := rep_lp.mp r1
      cases h
      refine ⟨itLst m ys.length, [.lp false ys], [.ref m], ?_, rfl, fz, fun s' r' => ?_⟩
      · show itPlain (.ref m) s = _
        simp only [itPlain, lst_at' q]
      · obtain ⟨m', e', q', z'⟩ := rep_lp.mp (reps_cons.mp r').1
        cases e'
        exact Src.plain z rfl (fin_lst (lst_at' q')) (at_lst (lst_at' q'))
    | rol ys =>
      obtain ⟨m, rfl, q, z⟩ := rep_rol.mp r1
      cases h
      refine ⟨itLst m ys.length, [.rol ys], [.ref m], ?_, rfl, fz, fun s' r' => ?_⟩
      · show itPlain (.ref m) s = _
        simp only [itPlain, rol_at' q]
      · obtain ⟨m', e', q', z'⟩ := rep_rol.mp (reps_cons.mp r').1
        cases e'
        exact Src.plain z rfl (fin_lst (rol_at' q')) (at_lst (rol_at' q'))
    | p y =>
      obtain ⟨rfl, z⟩ := rep_p.mp r1
      cases d with
      | tup ys =>
        cases h
        rw [nr_tup] at z
        exact ⟨itTup ys, [.p (.tup ys)], [.tup ys], rfl, rfl, fz, fun s' r' => Src.plain z rfl rfl fun i => rfl⟩
      | _ => cases h
    | lst o ts =>
      obtain ⟨m, es, rfl, q, z⟩ := rep_lst.mp r1
      cases h
      refine ⟨itLst m es.length, [.lst false ts], [.ref m], ?_, rfl, fz, fun s' r' => ?_⟩
      · show itPlain (.ref m) s = _
        simp only [itPlain, lst_at' q]
      · obtain ⟨m', es', e', q', z'⟩ := rep_lst.mp (reps_cons.mp r').1
        cases e'
        have hl : es.length = es'.length := (reps_len z).symm.trans (reps_len z')
        rw [hl]
        exact src_kids rfl z' (fun a w => (NodeT.lst false ts).inF.mpr (.inr ⟨m, _, rfl, q', w⟩)) (reps_len z').symm (fin_lst (lst_at' q')) (at_lst (lst_at' q'))
    | tup o ts =>
      obtain ⟨es, rfl, z⟩ := rep_tup.mp r1
      cases h
      refine ⟨itTup es, [.tup false ts], [.tup es], rfl, rfl, fz, fun s' r' => ?_⟩
      obtain ⟨es', e', z'⟩ := rep_tup.mp (reps_cons.mp r').1
      cases e'
      exact src_kids rfl z' (fun a w => by unfold inF; exact ⟨es, rfl, w⟩) (reps_len z').symm rfl fun i => rfl
    | _ => cases h
  · rename_i j
    split at h
    · rename_i hj
      cases h
      unfold reps at r
      obtain ⟨d, e, rfl, r1, r2⟩ := r
      unfold reps at r2
      subst r2
      obtain ⟨rfl, _⟩ := rep_p.mp r1
      refine ⟨itRng 0 j.toNat, [], [], ?_, rfl, fun I J r x => Step.drop (us := [_]) (es := [_]) rfl r x, fun s' _ => src_range 0 _⟩
      show itR1 (.int j) s = _
      simp only [itR1]
      rw [if_pos hj]
    · cases h
  · rename_i i j
    split at h
    · rename_i hj
      cases h
      unfold reps at r
      obtain ⟨d, e, rfl, r1, r2⟩ := r
      unfold reps at r2
      obtain ⟨d2, e2, rfl, r2, r3⟩ := r2
      unfold reps at r3
      subst r3
      obtain ⟨rfl, _⟩ := rep_p.mp r1
      obtain ⟨rfl, _⟩ := rep_p.mp r2
      refine ⟨itRng i (j - i).toNat, [], [], ?_, rfl, fun I J r x => Step.drop (us := [_, _]) (es := [_, _]) rfl r x, fun s' _ => src_range i _⟩
      show itR2 (.int i) (.int j) s = _
      simp only [itR2]
      rw [if_pos hj]
    · cases h
  · cases h
end

/-! ### the loops of comprehensions -/
structure BodyOk (own : List Nat) (r0 : Env) (fz : Bool) (bN : T → NEnv → NR (Option T)) (bM : D → M (Option D)) : Prop where
  go : ∀ (ρ : NEnv) (s : Sto) (x : T) (d : D), EOk ρ r0 → reps s (x :: eT ρ) (d :: eD r0) → exs s (x :: eT ρ) (d :: eD r0) → nO x = true → (fz = true → nOE ρ) → match bN x ρ with
    | .ok o ρ1 => ∃ b s' r1, bM d s = .ok b s' ∧ EOk ρ1 r1 ∧ Ag own r1 r0 ∧ (fz = true → nOE ρ1) ∧ o.toList.length = b.toList.length ∧ Step s (x :: eT ρ) (d :: eD r0) s' (o.toList ++ eT ρ1) (b.toList ++ eD r1)
    | _ => True
section
variable {own : List Nat} {r0 : Env} {fz : Bool} {s0 : Sto} {A us xs : List T} {B es : List D} {it : Itr}
theorem lcGo_ok {bN : T → NEnv → NR (Option T)} {bM : D → M (Option D)} (hb : BodyOk own r0 fz bN bM) (hl : us.length = es.length) (src : ∀ s', reps s' us es → Src us es xs it s') :
    ∀ (ys pre acc acc' : List T) (accD : List D) (ρ ρ' : NEnv) (s : Sto) (r1 : Env), xs = pre ++ ys → nlcGo bN own ys acc ρ = .ok acc' ρ' → (fz = true → nOE ρ) → EOk ρ r1 → Ag own r1 r0 → acc.length = accD.length →
      Step s0 A B s (us ++ (acc ++ eT ρ)) (es ++ (accD ++ eD r1)) → ∃ accD' s' r1', lcGo it bM ys.length pre.length accD s = .ok accD' s' ∧ EOk ρ' r1' ∧ Ag own r1' r0 ∧ (fz = true → nOE ρ') ∧ acc'.length = accD'.length ∧
        Step s0 A B s' (us ++ (acc' ++ eT ρ')) (es ++ (accD' ++ eD r1'))
  | [], pre, acc, acc', accD, ρ, ρ', s, r1, hx, q, hn, e, ag, la, st => by
    cases q
    have sr := src s (reps_app_inv hl st.rp).1
    refine ⟨accD, s, r1, ?_, e, ag, hn, la, st⟩
    show (if it.fin s then Res.ok accD s else .no) = _
    rw [if_pos sr.fin]
  | y :: ys, pre, acc, acc', accD, ρ, ρ', s, r1, hx, q, hn, e, ag, la, st => by
    unfold nlcGo at q
    have sr := src s (reps_app_inv hl st.rp).1
    obtain ⟨hy, d, hd, hst⟩ := sr.get pre.length y (by rw [hx]; simp)
    have st1 := st.trans (hst _ _ st.rp st.ex)
    -- y :: us ++ acc ++ env: y goes behind us, acc
    have la2 : (us ++ acc).length = (es ++ accD).length := by simp [hl, la]
    have st2 : Step s0 A B s ((us ++ acc) ++ (y :: eT ρ)) ((es ++ accD) ++ (d :: eD r1)) := st1.trans (Step.unrot la2 (by rw [List.append_assoc, List.append_assoc]; exact st1.rp) (by rw [List.append_assoc, List.append_assoc]; exact st1.ex) |> fun z => by rw [List.append_assoc, List.append_assoc] at z; exact z)
    obtain ⟨q1, q2⟩ := reps_app_inv la2 st2.rp
    obtain ⟨_, q4, _, _⟩ := (exs_app la2).mp st2.ex
    have st3 := st2.then la2 ((Step.wipe e ag (reps_cons.mp q2).2 (exs_cons.mp q4).2.2.2).frame (us := [y]) (es := [d]) (reps_cons.mpr ⟨(reps_cons.mp q2).1, reps_nil⟩) q4)
    obtain ⟨w1, w2⟩ := reps_app_inv la2 st3.rp
    obtain ⟨_, w4, _, _⟩ := (exs_app la2).mp st3.ex
    have g := hb.go (wipeN ρ own) s y d (e.wipe ag) w2 w4 hy (fun z => nOE_wipe (hn z))
    cases z : bN y (wipeN ρ own) with
    | ok o ρ1 =>
      rw [z] at g q
      obtain ⟨b, s', r2, hw, e2, ag2, hn2, lo, stp⟩ := g
      dsimp only at q
      have st4 := st3.then la2 stp
      have st5 : Step s0 A B s' (us ++ ((acc ++ o.toList) ++ eT ρ1)) (es ++ ((accD ++ b.toList) ++ eD r2)) := by
        simp only [List.append_assoc] at st4 ⊢
        exact st4
      obtain ⟨accD', s2, r3, h1, h2⟩ := lcGo_ok hb hl src ys (pre ++ [y]) (acc ++ o.toList) acc' (accD ++ b.toList) ρ1 ρ' s' r2 (by rw [hx]; simp) q hn2 e2 ag2 (by simp [la, lo]) st5
      refine ⟨accD', s2, r3, ?_, h2⟩
      show (match it.at_ pre.length s with
        | none => Res.no
        | some x => match bM x s with
          | .ok r s1 => lcGo it bM ys.length (pre.length + 1) (accD ++ r.toList) s1
          | _ => .no) = _
      rw [hd]
      dsimp only
      rw [hw]
      dsimp only
      rw [show pre.length + 1 = (pre ++ [y]).length by simp]
      exact h1
    | exc x ρ1 => rw [z] at q; cases q
    | no => rw [z] at q; cases q
/-- one turn of the outer loop of a comprehension -/
def outStep (tg : Tg) (fc : Env → M Bool) (inn : Env → List D → M (List D)) (r0 : Env) (x : D) (acc : List D) : Sto → Res (List D) := fun s => match bindT tg x r0 s with
  | .ok r1 s1 => (match fc r1 s1 with
    | .ok b s2 => if b = true then inn r1 acc s2 else .ok acc s2
    | _ => .no)
  | _ => .no
structure OutOk (own : List Nat) (r0 : Env) (fz : Bool) (bN : T → List T → NEnv → NR (List T)) (bM : D → List D → Sto → Res (List D)) : Prop where
  go : ∀ (ρ : NEnv) (s : Sto) (x : T) (d : D) (acc : List T) (accD : List D), EOk ρ r0 → acc.length = accD.length → reps s (acc ++ (x :: eT ρ)) (accD ++ (d :: eD r0)) → exs s (acc ++ (x :: eT ρ)) (accD ++ (d :: eD r0)) → nO x = true → (fz = true → nOE ρ) → match bN x acc ρ with
    | .ok acc1 ρ1 => ∃ accD1 s' r1, bM d accD s = .ok accD1 s' ∧ EOk ρ1 r1 ∧ Ag own r1 r0 ∧ (fz = true → nOE ρ1) ∧ acc1.length = accD1.length ∧ Step s (acc ++ (x :: eT ρ)) (accD ++ (d :: eD r0)) s' (acc1 ++ eT ρ1) (accD1 ++ eD r1)
    | _ => True
theorem lcOut_ok {bN : T → List T → NEnv → NR (List T)} {tg : Tg} {fc : Env → M Bool} {inn : Env → List D → M (List D)} (hb : OutOk own r0 fz bN (outStep tg fc inn r0)) (hl : us.length = es.length) (src : ∀ s', reps s' us es → Src us es xs it s') :
    ∀ (ys pre acc acc' : List T) (accD : List D) (ρ ρ' : NEnv) (s : Sto) (r1 : Env), xs = pre ++ ys → nlcOut bN own ys acc ρ = .ok acc' ρ' → (fz = true → nOE ρ) → EOk ρ r1 → Ag own r1 r0 → acc.length = accD.length →
      Step s0 A B s (us ++ (acc ++ eT ρ)) (es ++ (accD ++ eD r1)) → ∃ accD' s' r1', lcOut it tg fc inn r0 ys.length pre.length accD s = .ok accD' s' ∧ EOk ρ' r1' ∧ Ag own r1' r0 ∧ (fz = true → nOE ρ') ∧ acc'.length = accD'.length ∧
        Step s0 A B s' (us ++ (acc' ++ eT ρ')) (es ++ (accD' ++ eD r1'))
  | [], pre, acc, acc', accD, ρ, ρ', s, r1, hx, q, hn, e, ag, la, st => by
    cases q
    have sr := src s (reps_app_inv hl st.rp).1
    refine ⟨accD, s, r1, ?_, e, ag, hn, la, st⟩
    show (if it.fin s then Res.ok accD s else .no) = _
    rw [if_pos sr.fin]
  | y :: ys, pre, acc, acc', accD, ρ, ρ', s, r1, hx, q, hn, e, ag, la, st => by
    unfold nlcOut at q
    have sr := src s (reps_app_inv hl st.rp).1
    obtain ⟨hy, d, hd, hst⟩ := sr.get pre.length y (by rw [hx]; simp)
    have st1 := st.trans (hst _ _ st.rp st.ex)
    have la2 : (us ++ acc).length = (es ++ accD).length := by simp [hl, la]
    have st2 : Step s0 A B s ((us ++ acc) ++ (y :: eT ρ)) ((es ++ accD) ++ (d :: eD r1)) := st1.trans (Step.unrot la2 (by rw [List.append_assoc, List.append_assoc]; exact st1.rp) (by rw [List.append_assoc, List.append_assoc]; exact st1.ex) |> fun z => by rw [List.append_assoc, List.append_assoc] at z; exact z)
    obtain ⟨q1, q2⟩ := reps_app_inv la2 st2.rp
    obtain ⟨_, q4, _, _⟩ := (exs_app la2).mp st2.ex
    have st3 := st2.then la2 ((Step.wipe e ag (reps_cons.mp q2).2 (exs_cons.mp q4).2.2.2).frame (us := [y]) (es := [d]) (reps_cons.mpr ⟨(reps_cons.mp q2).1, reps_nil⟩) q4)
    have st3' : Step s0 A B s (us ++ (acc ++ (y :: eT (wipeN ρ own)))) (es ++ (accD ++ (d :: eD r0))) := by
      simp only [List.append_assoc] at st3 ⊢
      exact st3
    obtain ⟨w1, w2⟩ := reps_app_inv hl st3'.rp
    obtain ⟨_, w4, _, _⟩ := (exs_app hl).mp st3'.ex
    have g := hb.go (wipeN ρ own) s y d acc accD (e.wipe ag) la w2 w4 hy (fun z => nOE_wipe (hn z))
    cases z : bN y acc (wipeN ρ own) with
    | ok acc1 ρ1 =>
      rw [z] at g q
      obtain ⟨accD1, s', r2, hw, e2, ag2, hn2, lo, stp⟩ := g
      dsimp only at q
      split at q
      · rename_i hz
        have st4 := st3'.then hl stp
        obtain ⟨accD', s2, r3, h1, h2⟩ := lcOut_ok hb hl src ys (pre ++ [y]) acc1 acc' accD1 ρ1 ρ' s' r2 (by rw [hx]; simp) q hn2 e2 ag2 lo st4
        refine ⟨accD', s2, r3, ?_, h2⟩
        show (match it.at_ pre.length s with
          | none => Res.no
          | some x => match bindT tg x r0 s with
            | .ok r1 s1 => (match fc r1 s1 with
              | .ok b s2 => if b = true then (match inn r1 accD s2 with
                  | .ok acc2 s3 => if acc2.length ≤ sizeLine then lcOut it tg fc inn r0 ys.length (pre.length + 1) acc2 s3 else .no
                  | _ => .no) else lcOut it tg fc inn r0 ys.length (pre.length + 1) accD s2
              | _ => .no)
            | _ => .no) = _
        rw [hd]
        dsimp only
        rw [show pre.length + 1 = (pre ++ [y]).length by simp]
        unfold outStep at hw
        cases z1 : bindT tg d r0 s with
        | ok r4 s4 =>
          rw [z1] at hw
          dsimp only at hw ⊢
          cases z2 : fc r4 s4 with
          | ok b s5 =>
            rw [z2] at hw
            dsimp only at hw ⊢
            split at hw
            · rename_i hbt
              rw [if_pos hbt, hw]
              dsimp only
              rw [if_pos (lo ▸ hz)]
              exact h1
            · rename_i hbt
              rw [if_neg hbt]
              cases hw
              exact h1
          | exc x s5 => rw [z2] at hw; cases hw
          | no => rw [z2] at hw; cases hw
        | exc x s4 => rw [z1] at hw; cases hw
        | no => rw [z1] at hw; cases hw
      · cases q
    | exc x ρ1 => rw [z] at q; cases q
    | no => rw [z] at q; cases q
end
/-! ### a field taken out of a slot, and put back -/
section
variable {s s' : Sto} {ρ ρ' ρ1 : NEnv} {r : Env} {t : T} {d : D} {ts I : List T} {ds J : List D} {i k m : Nat}
theorem Step.pickOut (h1 : ts[k]? = some t) (h2 : ds[k]? = some d) (hl : ts.length = ds.length) (rp : reps s (.cell true :: (ts ++ I)) (.ref m :: (ds ++ J))) (x : exs s (.cell true :: (ts ++ I)) (.ref m :: (ds ++ J))) :
    Step s (.cell true :: (ts ++ I)) (.ref m :: (ds ++ J)) s (t :: (.cell true :: (ts.set k .hole ++ I))) (d :: (.ref m :: (ds ++ J))) := by
  have hk := (List.getElem?_eq_some_iff.mp h1).1
  have at_ : ∀ j : Nat, (ts.set k .hole ++ I)[j]? = if j = k then some .hole else (ts ++ I)[j]? := fun j => by
    by_cases hj : j < ts.length
    · rw [List.getElem?_append_left (by simpa using hj), List.getElem?_append_left hj, List.getElem?_set]
      by_cases e : k = j
      · rw [if_pos e, if_pos hk, if_pos e.symm]
      · rw [if_neg e, if_neg (Ne.symm e)]
    · rw [List.getElem?_append_right (by simpa using Nat.le_of_not_lt hj), List.getElem?_append_right (by omega), if_neg (by omega)]
      simp
  refine Step.sub (fun j => match j with
    | 0 => k + 1
    | 1 => 0
    | j + 2 => j + 1) rp x (by have := reps_len rp; simp at this ⊢; omega) (fun j t' d' q1 q2 => ?_) (fun j j' t' u' ne q q1 q2 => ?_)
  · match j with
    | 0 =>
      cases q1; cases q2
      refine .inr ⟨t, ?_, ?_, .inl rfl⟩
      · show (ts ++ I)[k]? = _
        rw [List.getElem?_append_left hk]; exact h1
      · show (ds ++ J)[k]? = _
        rw [List.getElem?_append_left (hl ▸ hk)]; exact h2
    | 1 => cases q1; cases q2; exact .inr ⟨_, rfl, rfl, .inl rfl⟩
    | j + 2 =>
      have q1 : (ts.set k .hole ++ I)[j]? = some t' := q1
      rw [at_] at q1
      split at q1
      · cases q1; exact .inl rfl
      · exact .inr ⟨t', q1, q2, .inl rfl⟩
  · match j, j' with
    | 0, 0 => exact absurd rfl ne
    | 0, 1 => cases q
    | 0, j' + 2 =>
      have q : k + 1 = j' + 1 := q
      have q2 : (ts.set k .hole ++ I)[j']? = some u' := q2
      rw [at_, if_pos (by omega)] at q2
      cases q2; exact .inl rfl
    | 1, 0 => cases q
    | 1, 1 => exact absurd rfl ne
    | 1, j' + 2 => cases q
    | j + 2, 0 =>
      have q : j + 1 = k + 1 := q
      have q1 : (ts.set k .hole ++ I)[j]? = some t' := q1
      rw [at_, if_pos (by omega)] at q1
      cases q1; exact .inr rfl
    | j + 2, 1 => cases q
    | j + 2, j' + 2 => exact absurd (by have q : j + 1 = j' + 1 := q; omega) ne
theorem Step.pickIn (h2 : ds[k]? = some d) (hl : ts.length = ds.length) (rp : reps s (.cell true :: (ts ++ (t :: I))) (.ref m :: (ds ++ (d :: J)))) (x : exs s (.cell true :: (ts ++ (t :: I))) (.ref m :: (ds ++ (d :: J)))) :
    Step s (.cell true :: (ts ++ (t :: I))) (.ref m :: (ds ++ (d :: J))) s (.cell true :: (ts.set k t ++ I)) (.ref m :: (ds ++ J)) := by
  have hk : k < ts.length := hl ▸ (List.getElem?_eq_some_iff.mp h2).1
  refine Step.sub (fun j => match j with
    | 0 => 0
    | j + 1 => if j = k then ts.length + 1 else if j < ts.length then j + 1 else j + 2) rp x (by have := reps_len rp; simp at this ⊢; omega) (fun j t' d' q1 q2 => ?_) (fun j j' t' u' ne q q1 q2 => ?_)
  · match j with
    | 0 => cases q1; cases q2; exact .inr ⟨_, rfl, rfl, .inl rfl⟩
    | j + 1 =>
      have q1 : (ts.set k t ++ I)[j]? = some t' := q1
      have q2 : (ds ++ J)[j]? = some d' := q2
      dsimp only
      by_cases hj : j < ts.length
      · rw [List.getElem?_append_left (by simpa using hj), List.getElem?_set] at q1
        rw [List.getElem?_append_left (hl ▸ hj)] at q2
        by_cases e : k = j
        · rw [if_pos e, if_pos hk] at q1
          cases q1
          subst e
          rw [h2] at q2; cases q2
          rw [if_pos rfl]
          refine .inr ⟨_, ?_, ?_, .inl rfl⟩
          · show (ts ++ (t :: I))[ts.length]? = some t
            simp
          · show (ds ++ (d :: J))[ts.length]? = some d
            rw [hl]; simp
        · rw [if_neg e] at q1
          rw [if_neg (Ne.symm e), if_pos hj]
          refine .inr ⟨t', ?_, ?_, .inl rfl⟩
          · show (ts ++ (t :: I))[j]? = _
            rw [List.getElem?_append_left hj]; exact q1
          · show (ds ++ (d :: J))[j]? = _
            rw [List.getElem?_append_left (hl ▸ hj)]; exact q2
      · rw [List.getElem?_append_right (by simpa using Nat.le_of_not_lt hj), List.length_set] at q1
        rw [List.getElem?_append_right (by omega)] at q2
        rw [if_neg (by omega), if_neg hj]
        refine .inr ⟨t', ?_, ?_, .inl rfl⟩
        · show (ts ++ (t :: I))[j + 1]? = _
          rw [List.getElem?_append_right (by omega), show j + 1 - ts.length = (j - ts.length) + 1 by omega]; exact q1
        · show (ds ++ (d :: J))[j + 1]? = _
          rw [List.getElem?_append_right (by omega), show j + 1 - ds.length = (j - ds.length) + 1 by omega]; exact q2
  · match j, j' with
    | 0, 0 => exact absurd rfl ne
    | 0, j' + 1 =>
      have q : 0 = (if j' = k then ts.length + 1 else if j' < ts.length then j' + 1 else j' + 2) := q
      split at q <;> (try split at q) <;> omega
    | j + 1, 0 =>
      have q : (if j = k then ts.length + 1 else if j < ts.length then j + 1 else j + 2) = 0 := q
      split at q <;> (try split at q) <;> omega
    | j + 1, j' + 1 =>
      have q : (if j = k then ts.length + 1 else if j < ts.length then j + 1 else j + 2) = (if j' = k then ts.length + 1 else if j' < ts.length then j' + 1 else j' + 2) := q
      split at q <;> split at q <;> (try split at q) <;> (try split at q) <;> omega
theorem set_same {j : Nat} {y : Slot} (h : r[j]? = some y) : r.set j y = r := by
  apply List.ext_getElem?
  intro q
  rw [List.getElem?_set]
  split
  · rename_i e
    subst e
    split
    · exact h.symm
    · exact (List.getElem?_eq_none (by omega)).symm
  · rfl
theorem set_set' {α : Type} (l : List α) (i : Nat) (a b : α) : (l.set i a).set i b = l.set i b := List.set_set ..
/-- a slot's thing is taken in hand, worked on, put back at the same place -/
theorem Step.slot {z z' : T} (h : ρ[i]? = some (.val z)) (hd : r[i]? = some (.val d)) (e : EOk ρ r) (rp : reps s (eT ρ) (eD r)) (x : exs s (eT ρ) (eD r)) {us : List T} {es : List D} (hl : us.length = es.length)
    (k : reps s (z :: eT (ρ.set i .non)) (d :: eD r) → exs s (z :: eT (ρ.set i .non)) (d :: eD r) → Step s (z :: eT (ρ.set i .non)) (d :: eD r) s' (us ++ (z' :: eT (ρ.set i .non))) (es ++ (d :: eD r))) :
    Step s (eT ρ) (eD r) s' (us ++ eT (ρ.set i (.val z'))) (es ++ eD r) := by
  have a := Step.take (i := i) (t := z) (d := d) (by simp [h, tOf]) (by simp [hd, dOf]) rp x e.len
  have b := a.trans (k a.rp a.ex)
  obtain ⟨_, r2⟩ := reps_app_inv hl b.rp
  obtain ⟨_, x2, _, _⟩ := (exs_app hl).mp b.ex
  have c := b.then hl (Step.put (i := i) r2 x2 (by simp [e.len]))
  rw [set_set', set_same hd] at c
  exact c
theorem takeF_ok {P : Prg} {f : Nat} (h : takeF P i f ρ = some (t, ρ1, k)) (e : EOk ρ r) (rp : reps s (eT ρ) (eD r)) (x : exs s (eT ρ) (eD r)) :
    ∃ (m c : Nat) (fds : List (Nat × D)) (fs : List Nat) (ts : List T) (d : D), r[i]? = some (.val (.ref m)) ∧ s[m]? = some (.ins c fds) ∧ getF P (.ref m) f s = .ok d s ∧ (fds.map (·.2))[k]? = some d ∧ fds.map (·.1) = fs ∧ ρ1 = ρ.set i (.val (.ins true c fs (ts.set k .hole))) ∧ ts.length = fds.length ∧ ts[k]? = some t ∧ i < ρ.length ∧
      EOk ρ1 r ∧ Step s (eT ρ) (eD r) s (t :: eT ρ1) (d :: eD r) := by
  unfold takeF at h
  split at h
  · rename_i c fs ts hs
    split at h
    · rename_i hf
      split at h
      · rename_i k' hk
        split at h
        · rename_i t' ht
          cases h
          obtain ⟨y, y1, y2, y3⟩ := e.val hs
          have hr := (reps_at.mp rp).2 i _ y y2 y3
          obtain ⟨m, fds, rfl, q, rfl, z⟩ := rep_ins.mp hr
          have lz := reps_len z
          obtain ⟨d, hd⟩ : ∃ d, (fds.map (·.2))[k]? = some d := ⟨_, List.getElem?_eq_getElem (lz ▸ (List.getElem?_eq_some_iff.mp ht).1)⟩
          refine ⟨m, c, fds, _, ts, d, y1, q, ?_, hd, rfl, rfl, by simpa using lz, ht, (List.getElem?_eq_some_iff.mp hs).1, e.set' (fun y' hy' => by rw [y1] at hy'; cases hy'; trivial), ?_⟩
          · unfold getF
            dsimp only
            rw [q]
            dsimp only
            rw [if_pos hf, fidx_lookup hk, hd]
          · refine Step.slot (us := [t]) (es := [d]) hs y1 e rp x rfl fun r1 x1 => ?_
            have a := Step.uncell (.ins true c _ ts) rfl q r1 x1
            have b := a.trans (Step.pickOut ht hd lz a.rp a.ex)
            refine b.then (us := [t]) (es := [d]) rfl (Step.close (t := .ins true c (fds.map (·.1)) (ts.set k .hole)) (.ins true c _ _) rfl ⟨fds, rfl, rfl⟩ q rfl (by rw [List.length_set]; exact lz) (reps_cons.mp b.rp).2 (exs_cons.mp b.ex).2.2.2)
        · cases h
      · cases h
    · cases h
  · cases h
theorem putF_ok {c : Nat} {fds : List (Nat × D)} {fs : List Nat} (hs : ρ1[i]? = some (.val (.ins true c fs ts))) (hd : r[i]? = some (.val (.ref m))) (hm : s[m]? = some (.ins c fds)) (hf : fds.map (·.1) = fs) (hk : (fds.map (·.2))[k]? = some d) (e : EOk ρ1 r) (rp : reps s (t :: eT ρ1) (d :: eD r)) (x : exs s (t :: eT ρ1) (d :: eD r)) :
    EOk (ρ1.set i (.val (.ins true c fs (ts.set k t)))) r ∧ Step s (t :: eT ρ1) (d :: eD r) s (eT (ρ1.set i (.val (.ins true c fs (ts.set k t))))) (eD r) := by
  obtain ⟨r1, r2⟩ := reps_cons.mp rp
  obtain ⟨_, _, _, x4⟩ := exs_cons.mp x
  refine ⟨e.set' fun y' hy' => by rw [hd] at hy'; cases hy'; trivial, ?_⟩
  have a : Step s (t :: eT ρ1) (d :: eD r) s (t :: (.ins true c fs ts :: eT (ρ1.set i .non))) (d :: (.ref m :: eD r)) := (Step.take (i := i) (t := .ins true c fs ts) (d := .ref m) (by simp [hs, tOf]) (by simp [hd, dOf]) r2 x4 e.len).frame (us := [t]) (es := [d]) (reps_cons.mpr ⟨r1, reps_nil⟩) x
  have b := a.trans (Step.unrot (us := [.ins true c fs ts]) (es := [.ref m]) rfl a.rp a.ex)
  have lz : ts.length = (fds.map (·.2)).length := by
    obtain ⟨m', fds', e', q', _, z'⟩ := rep_ins.mp (reps_cons.mp b.rp).1
    cases e'
    rw [hm] at q'; cases q'
    exact reps_len z'
  have g := b.trans (Step.uncell (.ins true c _ ts) rfl hm b.rp b.ex)
  have g2 := g.trans (Step.pickIn (k := k) (t := t) hk lz g.rp g.ex)
  have g3 := g2.trans (Step.close (t := .ins true c fs (ts.set k t)) (ob := .ins c fds) (.ins true c _ _) rfl ⟨fds, rfl, hf⟩ hm rfl (by rw [List.length_set]; exact lz) g2.rp g2.ex)
  have g4 := g3.trans (Step.put (i := i) g3.rp g3.ex (by simp [e.len]))
  rw [set_set', set_same hd] at g4
  exact g4
end
end EW.EN

set_option Elab.async false
set_option linter.all false
set_option maxRecDepth 100000
set_option maxHeartbeats 2000000
/-! N layer 8: the meaning of expressions over trees is right. -/
namespace EW.EN
open PySem
section
variable {r : Env}
theorem takes_none : ∀ {as : List Ar} {ρ ρ' : NEnv} {ts : List T}, (∀ i, Ar.plc i ∉ as) → takes as ρ = some (ts, ρ') → ρ' = ρ
  | [], _, _, _, _, w => by cases w; rfl
  | a :: as, ρ, ρ', ts, hn, w => by
    unfold takes at w
    cases w2 : takes as ρ with
    | none => rw [w2] at w; cases w
    | some p =>
      obtain ⟨ts2, ρ2⟩ := p
      rw [w2] at w
      cases a with
      | val t => cases w; exact takes_none (fun i q => hn i (.tail _ q)) w2
      | plc i => exact (hn i (.head _)).elim
theorem puts_none : ∀ {as : List Ar} {ρ ρ' : NEnv} {ts : List T}, (∀ i, Ar.plc i ∉ as) → puts as ts ρ = some ρ' → ρ' = ρ
  | [], _, _, ts, _, w => by cases ts <;> (cases w; rfl)
  | a :: as, ρ, ρ', [], hn, w => by cases w
  | a :: as, ρ, ρ', t :: ts, hn, w => by
    cases a with
    | val u => exact puts_none (fun i q => hn i (.tail _ q)) w
    | plc i => exact (hn i (.head _)).elim
end
theorem bind_at {α β : Type} {x : M α} {f : α → M β} {s s' : Sto} {a : α} (h : x s = .ok a s') : M.bind x f s = f a s' := by
  unfold M.bind
  rw [h]
theorem Fz.refl {fz : Bool} {ρ : NEnv} : Fz fz ρ ρ := fun _ => rfl
theorem Fz.trans {fz : Bool} {ρ ρ1 ρ2 : NEnv} (a : Fz fz ρ ρ1) (b : Fz fz ρ1 ρ2) : Fz fz ρ ρ2 := fun h => (b h).trans (a h)
section
variable {s s' : Sto} {us vs I : List T} {es fs J : List D}
theorem Step.swap (hl : us.length = es.length) (hl2 : vs.length = fs.length) (r : reps s (us ++ (vs ++ I)) (es ++ (fs ++ J))) (x : exs s (us ++ (vs ++ I)) (es ++ (fs ++ J))) : Step s (us ++ (vs ++ I)) (es ++ (fs ++ J)) s (vs ++ (us ++ I)) (fs ++ (es ++ J)) := by
  refine Step.sub (fun i => if i < vs.length then us.length + i else if i < vs.length + us.length then i - vs.length else i) r x (by have := reps_len r; simp at this ⊢; omega) (fun i t' d' q1 q2 => ?_) (fun i j t' u' ne q _ _ => ?_)
  · by_cases h1 : i < vs.length
    · rw [List.getElem?_append_left h1] at q1
      rw [List.getElem?_append_left (by omega)] at q2
      refine .inr ⟨t', ?_, ?_, .inl rfl⟩
      · rw [if_pos h1, List.getElem?_append_right (by omega), Nat.add_sub_cancel_left, List.getElem?_append_left h1]; exact q1
      · rw [if_pos h1, List.getElem?_append_right (by omega), hl, Nat.add_sub_cancel_left, List.getElem?_append_left (by omega)]; exact q2
    · rw [List.getElem?_append_right (by omega)] at q1 q2
      rw [if_neg h1]
      by_cases h2 : i < vs.length + us.length
      · rw [List.getElem?_append_left (by omega)] at q1 q2
        refine .inr ⟨t', ?_, ?_, .inl rfl⟩
        · rw [if_pos h2, List.getElem?_append_left (by omega)]; exact q1
        · rw [if_pos h2, List.getElem?_append_left (by omega), hl2]; exact q2
      · rw [List.getElem?_append_right (by omega)] at q1 q2
        refine .inr ⟨t', ?_, ?_, .inl rfl⟩
        · rw [if_neg h2, List.getElem?_append_right (by omega), List.getElem?_append_right (by omega), show i - us.length - vs.length = i - vs.length - us.length by omega]; exact q1
        · rw [if_neg h2, List.getElem?_append_right (by omega), List.getElem?_append_right (by omega), show i - es.length - fs.length = i - fs.length - es.length by omega]; exact q2
  · have q : (if i < vs.length then us.length + i else if i < vs.length + us.length then i - vs.length else i) = (if j < vs.length then us.length + j else if j < vs.length + us.length then j - vs.length else j) := q
    split at q <;> split at q <;> (try split at q) <;> (try split at q) <;> omega
end
section
variable {C : Nal} {Cm : Cal} (c : CalOk C Cm)
def SnE (C : Nal) (Cm : Cal) (e : CE) : Prop := Sn (mden C e) (fun r => den Cm r e)
def SnEs (C : Nal) (Cm : Cal) (es : CEs) : Prop := ∀ (fz : Bool) (ρ : NEnv) (r : Env) (s : Sto), St fz s ρ r → Gd RL s (eT ρ) (eD r) r (Fz fz ρ) (mdens C es fz ρ) (dens Cm r es s)
def RA (r : Env) (fz : Bool) (as : List Ar) (ds : List D) (us : List T) (es : List D) : Prop := arRel r as ds us es ∧ (fz = true → ∀ i, Ar.plc i ∉ as)
def SnA (C : Nal) (Cm : Cal) (es : CEs) : Prop := ∀ (io : List Nat) (j : Nat) (fz : Bool) (ρ : NEnv) (r : Env) (s : Sto), St fz s ρ r → Gd (RA r fz) s (eT ρ) (eD r) r (Fz fz ρ) (margs C es io j fz ρ) (dens Cm r es s)
def SnC (C : Nal) (Cm : Cal) (es : CEs) : Prop := ∀ (fz : Bool) (ρ : NEnv) (r : Env) (s : Sto), St fz s ρ r → Gd RC s (eT ρ) (eD r) r (Fz fz ρ) (mdenC C es fz ρ) (denC Cm r es s)
def SnAnd (C : Nal) (Cm : Cal) (es : CEs) : Prop := ∀ (fz : Bool) (ρ : NEnv) (r : Env) (s : Sto), St fz s ρ r → Gd RT s (eT ρ) (eD r) r (Fz fz ρ) (mdenAnd C es fz ρ) (denAnd Cm r es s)
def SnOr (C : Nal) (Cm : Cal) (es : CEs) : Prop := ∀ (fz : Bool) (ρ : NEnv) (r : Env) (s : Sto), St fz s ρ r → Gd RT s (eT ρ) (eD r) r (Fz fz ρ) (mdenOr C es fz ρ) (denOr Cm r es s)
section
variable {fz : Bool} {ρ : NEnv} {r : Env} {s : Sto}
/-- one operand, then what follows -/
theorem one_op {e : CE} {γ δ : Type} {R2 : γ → δ → List T → List D → Prop} {F : NEnv → Prop} (ih : SnE C Cm e) (st : St fz s ρ r) {f : T → NEnv → NR γ} {g : D → M δ}
    (k : ∀ t d ρ1 s1, rep s1 t d → EOk ρ1 r → Fz fz ρ ρ1 → Step s (eT ρ) (eD r) s1 ([t] ++ eT ρ1) ([d] ++ eD r) → St fz s1 ρ1 r → Gd R2 s (eT ρ) (eD r) r F (f t ρ1) (g d s1)) :
    Gd R2 s (eT ρ) (eD r) r F (NR.bind (opnd (mden C e) (hasIo C.Q e) (vars e) fz ρ) f) (M.bind (den Cm r e) g s) :=
  Gd.bind (opnd_ok ih st) fun t d ρ1 s1 us es h1 h2 h3 h4 h5 => by
    obtain ⟨rfl, rfl⟩ := h1
    exact k t d ρ1 s1 (reps_cons.mp h5.rp).1 h3 h4 h5 (st.next h5 rfl h3 h4)
/-- a second operand -/
theorem two_op {e : CE} {γ δ : Type} {R2 : γ → δ → List T → List D → Prop} {F : NEnv → Prop} (ih : SnE C Cm e) {s0 : Sto} {A us : List T} {B es : List D} (hl : us.length = es.length) (st0 : Step s0 A B s (us ++ eT ρ) (es ++ eD r)) (st : St fz s ρ r) {f : T → NEnv → NR γ} {g : D → M δ}
    (k : ∀ t d ρ1 s1, rep s1 t d → EOk ρ1 r → Fz fz ρ ρ1 → Step s0 A B s1 ((us ++ [t]) ++ eT ρ1) ((es ++ [d]) ++ eD r) → St fz s1 ρ1 r → reps s1 us es → Gd R2 s0 A B r F (f t ρ1) (g d s1)) :
    Gd R2 s0 A B r F (NR.bind (opnd (mden C e) (hasIo C.Q e) (vars e) fz ρ) f) (M.bind (den Cm r e) g s) :=
  Gd.bind (Gd.lift st0 hl (opnd_ok ih st)) fun t d ρ1 s1 us' es' h1 h2 h3 h4 h5 => by
    obtain ⟨_, _, ⟨rfl, rfl⟩, _, rfl, rfl⟩ := h1
    have hl2 : (us ++ [t]).length = (es ++ [d]).length := by simp [hl]
    obtain ⟨q1, q2⟩ := reps_app_inv hl2 h5.rp
    obtain ⟨q3, q4⟩ := reps_app_inv hl q1
    exact k t d ρ1 s1 (reps_cons.mp q4).1 h3 h4 h5 ⟨h3, q2, ((exs_app hl2).mp h5.ex).2.1, fun z => by rw [h4 z]; exact st.nz z⟩ q3
end
theorem meth_ok {C : Nal} {Cm : Cal} (c : CalOk C Cm) {s : Sto} {t : T} {d : D} {m n f : Nat} (r : rep s t d) (h : nmeth C t m n = some f) : methOf Cm.P d m n s = .ok f s := by
  unfold nmeth at h
  split at h
  · obtain ⟨a, fds, rfl, q, _, _⟩ := rep_ins.mp r
    split at h
    · rename_i g hg
      split at h
      · rename_i hc
        cases h
        unfold methOf
        dsimp only
        rw [q]
        dsimp only
        rw [c.P, hg]
        dsimp only
        rw [if_pos hc]
      · cases h
    · cases h
  · cases h
theorem Gd.ncall {s0 s : Sto} {A us : List T} {B ds es : List D} {r : Env} {ρ0 ρ : NEnv} {fz : Bool} {f n : Nat} {as : List Ar} (c : CalOk C Cm) (h : arRel r as ds us es) (hp : fz = true → ∀ i, Ar.plc i ∉ as) (e : EOk ρ r) (f1 : Fz fz ρ0 ρ) (st : Step s0 A B s (us ++ eT ρ) (es ++ eD r)) :
    Gd RT s0 A B r (Fz fz ρ0) (EN.ncall C f n as ρ) (callN Cm f n ds s) :=
  ncall_ok c h e st (fun ρ' _ q => by rw [q]; exact f1) fun ⟨i, hi⟩ ρ' z => (hp z i hi).elim
theorem bm_temp {s0 s : Sto} {A us : List T} {B es : List D} {r : Env} {ρ : NEnv} {F : NEnv → Prop} {b : BM} {t a t' : T} {d : D} (hr : rep s t d) (hu : reps s us es) (e : EOk ρ r) (f : F ρ) (st : Step s0 A B s ((t :: us) ++ eT ρ) ((d :: es) ++ eD r)) (h : nbm b t us = some (a, t')) :
    Gd RT s0 A B r F (.ok a ρ) (bms b d es s) := by
  obtain ⟨x, s', hw, k⟩ := op_bm hr hu h
  have st2 := st.trans (k _ _ st.rp st.ex)
  have st3 := st2.then (us := [a]) (es := [x]) rfl (Step.drop (us := [t']) (es := [d]) rfl (reps_cons.mp st2.rp).2 (exs_cons.mp st2.ex).2.2.2)
  exact ⟨x, s', [a], [x], hw, ⟨rfl, rfl⟩, rfl, e, f, st3⟩
/-- the body of a comprehension -/
theorem body_ok {tg : Tg} {cond : CEs} {elt : CE} {own : List Nat} {r0 : Env} {fz : Bool} (hc : SnC C Cm cond) (he : SnE C Cm elt) (ht : (tgN tg).all own.contains = true) :
    BodyOk own r0 fz (fun x ρ => match bindN C.lock tg x ρ with
        | some ρ => NR.bind (mdenC C cond fz ρ) fun b ρ => if b = true then NR.bind (opnd (mden C elt) (hasIo C.Q elt) (vars elt) fz ρ) fun y ρ => .ok (some y) ρ else .ok none ρ
        | none => .no)
      (fun x => M.bind (bindT tg x r0) fun r1 => M.bind (denC Cm r1 cond) fun b => if b = true then M.bind (den Cm r1 elt) fun y => M.pure (some y) else M.pure none) where
  go := fun ρ s x d e rp ex hx hn => by
    cases z : bindN C.lock tg x ρ with
    | none => trivial
    | some ρ1 =>
      obtain ⟨r1, h1, h2, h3, h4, _⟩ := bindN_ok z e rp ex
      have st : St fz s ρ1 r1 := ⟨h2, h3.rp, h3.ex, fun w => bindN_nOE z hx (hn w)⟩
      have g : Gd RO s (eT ρ1) (eD r1) r1 (Fz fz ρ1) (NR.bind (mdenC C cond fz ρ1) fun b ρ => if b = true then NR.bind (opnd (mden C elt) (hasIo C.Q elt) (vars elt) fz ρ) fun y ρ => .ok (some y) ρ else .ok none ρ)
          (M.bind (denC Cm r1 cond) (fun b => if b = true then M.bind (den Cm r1 elt) fun y => M.pure (some y) else M.pure none) s) := by
        refine Gd.bind (hc fz ρ1 r1 s st) fun b b' ρ2 s2 us es q1 q2 q3 q4 q5 => ?_
        obtain ⟨rfl, rfl, rfl⟩ := q1
        cases b with
        | true =>
          refine Gd.from q5 (F := Fz fz ρ2) (one_op he (st.next q5 rfl q3 q4) fun t d ρ3 s3 w1 w2 w3 w4 w5 => ?_) fun ρ3 w => q4.trans w
          exact ⟨some d, s3, [t], [d], rfl, ⟨rfl, rfl⟩, rfl, w2, w3, w4⟩
        | false => exact ⟨none, s2, [], [], rfl, ⟨rfl, rfl⟩, rfl, q3, q4, q5⟩
      have hb : (M.bind (bindT tg d r0) fun r1 => M.bind (denC Cm r1 cond) fun b => if b = true then M.bind (den Cm r1 elt) fun y => M.pure (some y) else M.pure none) s
          = (M.bind (denC Cm r1 cond) (fun b => if b = true then M.bind (den Cm r1 elt) fun y => M.pure (some y) else M.pure none) s) := bind_at h1
      show match (NR.bind (mdenC C cond fz ρ1) fun b ρ => if b = true then NR.bind (opnd (mden C elt) (hasIo C.Q elt) (vars elt) fz ρ) fun y ρ => .ok (some y) ρ else .ok none ρ : NR (Option T)) with
        | .ok o ρ1 => _
        | _ => _
      cases w : (NR.bind (mdenC C cond fz ρ1) fun b ρ => if b = true then NR.bind (opnd (mden C elt) (hasIo C.Q elt) (vars elt) fz ρ) fun y ρ => .ok (some y) ρ else .ok none ρ : NR (Option T)) with
      | ok o ρ2 =>
        rw [w] at g
        obtain ⟨b, s', us, es, q1, ⟨rfl, rfl⟩, q3, q4, q5, q6⟩ := g
        refine ⟨b, s', r1, hb.trans q1, q4, h4.mono fun i hi => List.contains_iff_mem.mp (List.all_eq_true.mp ht i hi), fun v => by rw [q5 v]; exact st.nz v, q3, h3.trans q6⟩
      | exc y ρ2 => trivial
      | no => trivial
theorem out_ok {tg tg1 : Tg} {k1 : IK} {cond cond1 src1 : CEs} {elt : CE} {own own1 : List Nat} {r0 : Env} {fz : Bool} (hc : SnC C Cm cond) (hs : SnEs C Cm src1) (hc1 : SnC C Cm cond1) (he : SnE C Cm elt) (ht : (tgN tg).all own.contains = true) (ht1 : (tgN tg1).all own1.contains = true) (ho : own1.all own.contains = true) :
    OutOk own r0 fz (fun x acc ρ => match bindN C.lock tg x ρ with
        | some ρ => NR.bind (mdenC C cond fz ρ) fun b ρ => if b = true then NR.bind (mdens C src1 fz ρ) fun vs1 ρ => (match nIt k1 vs1 with
            | some ys => nlcGo (fun x ρ => match bindN C.lock tg1 x ρ with
                | some ρ => NR.bind (mdenC C cond1 fz ρ) fun b ρ => if b = true then NR.bind (opnd (mden C elt) (hasIo C.Q elt) (vars elt) fz ρ) fun y ρ => .ok (some y) ρ else .ok none ρ
                | none => .no) own1 ys acc ρ
            | none => .no) else .ok acc ρ
        | none => .no)
      (outStep tg (fun r => denC Cm r cond) (lcIn (fun r => dens Cm r src1) k1 tg1 (fun r => denC Cm r cond1) (fun r => den Cm r elt) own1) r0) where
  go := fun ρ s x d acc accD e la rp ex hx hn => by
    have sub : ∀ {vs ws : List Nat}, vs.all ws.contains = true → ∀ i, i ∈ vs → i ∈ ws := fun h i hi => List.contains_iff_mem.mp (List.all_eq_true.mp h i hi)
    cases z : bindN C.lock tg x ρ with
    | none => trivial
    | some ρ1 =>
      obtain ⟨rp1, rp2⟩ := reps_app_inv la rp
      obtain ⟨_, ex2, _, _⟩ := (exs_app la).mp ex
      obtain ⟨r1, h1, h2, h3, h4, _⟩ := bindN_ok z e rp2 ex2
      have st : St fz s ρ1 r1 := ⟨h2, h3.rp, h3.ex, fun w => bindN_nOE z hx (hn w)⟩
      have b1 : Step s (acc ++ (x :: eT ρ)) (accD ++ (d :: eD r0)) s (acc ++ eT ρ1) (accD ++ eD r1) := h3.frame rp1 ex
      have gc := hc fz ρ1 r1 s st
      dsimp only
      cases w : mdenC C cond fz ρ1 with
      | exc y ρ2 => trivial
      | no => trivial
      | ok b ρ2 =>
        rw [w] at gc
        obtain ⟨b', s2, us, es, q1, ⟨rfl, rfl, rfl⟩, q3, q4, q5, q6⟩ := gc
        have b2 := b1.then la q6
        have ou : ∀ (y : Res (List D)), (if b = true then lcIn (fun r => dens Cm r src1) k1 tg1 (fun r => denC Cm r cond1) (fun r => den Cm r elt) own1 r1 accD s2 else .ok accD s2) = y → outStep tg (fun r => denC Cm r cond) (lcIn (fun r => dens Cm r src1) k1 tg1 (fun r => denC Cm r cond1) (fun r => den Cm r elt) own1) r0 d accD s = y := fun y hy => by
          unfold outStep
          rw [h1]
          dsimp only
          rw [q1]
          exact hy
        cases b with
        | false =>
          exact ⟨accD, s2, r1, ou _ rfl, q4, h4.mono (sub ht), fun v => by rw [q5 v]; exact st.nz v, la, b2⟩
        | true =>
          have st2 : St fz s2 ρ2 r1 := st.next q6 rfl q4 q5
          have gs := hs fz ρ2 r1 s2 st2
          show match (NR.bind (mdens C src1 fz ρ2) fun vs1 ρ => (match nIt k1 vs1 with
            | some ys => _
            | none => .no) : NR (List T)) with
            | .ok acc1 ρ1 => _
            | _ => _
          cases w2 : mdens C src1 fz ρ2 with
          | exc y ρ3 => trivial
          | no => trivial
          | ok vs1 ρ3 =>
            rw [w2] at gs
            obtain ⟨ds1, s3, us1, es1, p1, ⟨rfl, rfl⟩, p3, p4, p5, p6⟩ := gs
            have b3 := b2.then la p6
            show match (match nIt k1 us1 with
              | some ys => _
              | none => .no : NR (List T)) with
              | .ok acc1 ρ1 => _
              | _ => _
            cases w3 : nIt k1 us1 with
            | none => trivial
            | some ys =>
              have rv := (reps_app_inv p3 p6.rp).1
              obtain ⟨it, us, es, m1, m2, m3, m4⟩ := nIt_ok w3 rv
              obtain ⟨a1, a2⟩ := reps_app_inv la b3.rp
              obtain ⟨_, a4, _, _⟩ := (exs_app la).mp b3.ex
              have b4 := b3.then la (m3 _ _ a2 a4)
              have b5 := b4.trans (Step.swap la m2 b4.rp b4.ex)
              have bo : BodyOk own1 (wipeE r1 own1) fz _ _ := body_ok hc1 he ht1
              dsimp only
              cases w4 : nlcGo (fun x ρ => match bindN C.lock tg1 x ρ with
                | some ρ => NR.bind (mdenC C cond1 fz ρ) fun b ρ => if b = true then NR.bind (opnd (mden C elt) (hasIo C.Q elt) (vars elt) fz ρ) fun y ρ => .ok (some y) ρ else .ok none ρ
                | none => .no) own1 ys acc ρ3 with
              | exc y ρ4 => trivial
              | no => trivial
              | ok acc' ρ4 =>
                obtain ⟨accD', s4, r4, g1, g2, g3, g4, g5, g6⟩ := lcGo_ok (s0 := s) (A := acc ++ (x :: eT ρ)) (B := accD ++ (d :: eD r0)) bo m2 m4 ys [] acc acc' accD ρ3 ρ4 s3 r1 rfl w4 (fun v => by rw [p5 v, q5 v]; exact st.nz v) p4 ((wipeE_ag r1 own1).symm) la b5
                have hn : it.n = ys.length := (m4 s3 (reps_app_inv m2 b5.rp).1).n
                refine ⟨accD', s4, r4, ou _ ?_, g2, (g3.trans (wipeE_ag r1 own1)).mono (sub ho) |>.trans (h4.mono (sub ht)), g4, g5, g6.trans (Step.drop m2 g6.rp g6.ex)⟩
                show M.bind (dens Cm r1 src1) (fun xs => M.bind (mkIt k1 xs) fun it => lcGo it (lcBody tg1 (fun r => denC Cm r cond1) (fun r => den Cm r elt) (wipeE r1 own1)) it.n 0 accD) s2 = _
                unfold M.bind
                rw [p1]
                dsimp only
                rw [m1]
                dsimp only
                rw [hn]
                exact g1
/-- the end of a comprehension -/
theorem lc_end {s0 s : Sto} {us acc : List T} {es accD : List D} {ρ ρ2 : NEnv} {r r1 : Env} {fz : Bool} {own : List Nat} (st0 : St fz s0 ρ r) (hl : us.length = es.length) (la : acc.length = accD.length) (e : EOk ρ2 r1) (ag : Ag own r1 r) (st : Step s0 (eT ρ) (eD r) s (us ++ (acc ++ eT ρ2)) (es ++ (accD ++ eD r1))) :
    Gd RT s0 (eT ρ) (eD r) r (Fz fz ρ) (.ok (mkLst acc) (if fz = true then ρ else wipeN ρ2 own)) (newO (.lst accD) s) := by
  have st1 := st.trans (Step.drop hl st.rp st.ex)
  have fin : ∀ ρ', Step s0 (eT ρ) (eD r) s (acc ++ eT ρ') (accD ++ eD r) → EOk ρ' r → Fz fz ρ ρ' → Gd RT s0 (eT ρ) (eD r) r (Fz fz ρ) (.ok (mkLst acc) ρ') (newO (.lst accD) s) := fun ρ' q e' f' => by
    obtain ⟨d, s', hw, k⟩ := op_mkLst (reps_app_inv la q.rp).1
    exact ⟨d, s', [mkLst acc], [d], hw, ⟨rfl, rfl⟩, rfl, e', f', q.trans (k _ _ q.rp q.ex)⟩
  cases fz with
  | true => exact fin ρ (Step.frozen (st0.nz rfl) la st0.rp st0.ex st1) st0.ok Fz.refl
  | false =>
    obtain ⟨q1, q2⟩ := reps_app_inv la st1.rp
    obtain ⟨_, q4, _, _⟩ := (exs_app la).mp st1.ex
    exact fin _ (st1.then la (Step.wipe e ag q2 q4)) (e.wipe ag) fun z => Bool.noConfusion z
end
end EW.EN

set_option Elab.async false
set_option linter.all false
set_option maxRecDepth 100000
set_option maxHeartbeats 4000000
/-! N layer 9: the meaning of expressions over trees is right: all forms. -/
namespace EW.EN
open PySem
section
variable {C : Nal} {Cm : Cal}
theorem sn_con (C : Nal) (Cm : Cal) {f : Bool → NEnv → NR T} {g : Env → M D} {x : D} (hx : nr x = true) (hf : ∀ fz ρ, f fz ρ = .ok (.p x) ρ) (hg : ∀ r s, g r s = .ok x s) : Sn f g := fun fz ρ r s st => by
  rw [hf]
  exact Gd.plain (Step.start st) rfl st.ok Fz.refl hx (hg r s)
theorem sn_var (i : Nat) : SnE C Cm (.var i) := fun fz ρ r s st => by
  show Gd RT s (eT ρ) (eD r) r (Fz fz ρ) (match ρ[i]? with
    | some (.val t) => if fz = true then .ok t ρ else .ok (frz t) (ρ.set i (.val (frz t)))
    | _ => .no) (slotV r i s)
  split
  · rename_i t h
    obtain ⟨d, h1, h2, h3⟩ := st.ok.val h
    have hs : slotV r i s = .ok d s := by unfold slotV; rw [h1]
    have cp := Step.copy h h3 st.rp st.ex st.ok.len
    split
    · rename_i hz
      have hn := st.nz hz i t h
      have e1 : frz t = t := frz_nO hn
      have e2 : ρ.set i (.val (frz t)) = ρ := by
        rw [e1]
        apply List.ext_getElem?
        intro q
        rw [List.getElem?_set]
        split
        · rename_i e
          subst e
          split
          · exact h.symm
          · exact (List.getElem?_eq_none (by omega)).symm
        · rfl
      rw [e2, e1] at cp
      exact ⟨d, s, [t], [d], hs, ⟨rfl, rfl⟩, rfl, st.ok, Fz.refl, cp⟩
    · rename_i hz
      refine ⟨d, s, [frz t], [d], hs, ⟨rfl, rfl⟩, rfl, st.ok.set' fun y hy => ?_, fun z => (hz z).elim, cp⟩
      rw [h1] at hy; cases hy; trivial
  · trivial
theorem ib {α : Type} {o : Option α} {g : α → T} {t : T} (h : o.map g = some t) : ∃ z, o = some z ∧ t = g z := by
  cases o with
  | none => cases h
  | some z => cases h; exact ⟨z, rfl, rfl⟩
theorem op_bool {s : Sto} {us : List T} {es : List D} {o : Option Bool} {w : Res D} (hl : us.length = es.length) (h : ∀ k, o = some k → w = .ok (.bl k) s) : ∀ t, (o.map fun k => T.p (.bl k)) = some t → Op s us es t w := fun t q => by
  obtain ⟨k, h1, rfl⟩ := ib q
  exact Op.plain hl rfl (h k h1)
theorem tru_at {s : Sto} {x : T} {a : D} {b : Bool} {α : Type} {f : Bool → M α} (r : rep s x a) (h : ntru x = some b) : M.bind (tru a) f s = f b s := bind_at (ntru_ok r h)
theorem reps_two {s : Sto} {x y : T} {a b : D} {s0 : Sto} {A : List T} {B : List D} {ρ : NEnv} {r : Env} (st : Step s0 A B s (([x] ++ [y]) ++ eT ρ) (([a] ++ [b]) ++ eD r)) : rep s x a ∧ rep s y b :=
  ⟨(reps_cons.mp st.rp).1, (reps_cons.mp (reps_cons.mp st.rp).2).1⟩
/-- the receiver is a slot's field: the arguments in the frozen environment -/
theorem bmF_ok (c : CalOk C Cm) {b : BM} {es : CEs} {i f : Nat} {ρ : NEnv} {r : Env} {s : Sto} (hes : SnEs C Cm es) (st : St false s ρ r) :
    Gd RT s (eT ρ) (eD r) r (Fz false ρ) (match mdens C es true (frzR (varss es) ρ) with
        | .ok vs _ => (match takeF C.Q.P i f (if dOwns vs = true then ρ else frzOn (varss es) ρ) with
          | some (t, ρ1, k) => if nchk b t = true then (match nbm b t vs with
            | some (a, t') => (match putF i k t' ρ1 with
              | some ρ2 => .ok a ρ2
              | none => .no)
            | none => .no) else .no
          | none => .no)
        | .exc x _ => (match takeF C.Q.P i f ρ with
          | some (t, _, _) => if nchk b t = true then .exc x ρ else .no
          | none => .no)
        | .no => .no)
      (M.bind (den Cm r (.fld (.var i) f)) (fun x => M.bind (chkB b x) fun _ => M.bind (dens Cm r es) fun xs => bms b x xs) s) := by
  have fr := Step.frzR st.ok (varss es) st.rp st.ex
  have q := hes true (frzR (varss es) ρ) r s ⟨st.ok.frzR _, fr.rp, fr.ex, fun _ => nOE_frzR _⟩
  -- the receiver's own place
  have rcv : ∀ {ρ' : NEnv} {t : T} {ρ1 : NEnv} {k : Nat}, EOk ρ' r → reps s (eT ρ') (eD r) → exs s (eT ρ') (eD r) → takeF C.Q.P i f ρ' = some (t, ρ1, k) → nchk b t = true → ∃ (m c0 : Nat) (fds : List (Nat × D)) (d : D), r[i]? = some (.val (.ref m)) ∧ s[m]? = some (.ins c0 fds) ∧ (fds.map (·.2))[k]? = some d ∧
      (∀ (g : M D), M.bind (den Cm r (.fld (.var i) f)) (fun x => M.bind (chkB b x) fun _ => M.bind (dens Cm r es) fun xs => bms b x xs) s = M.bind (dens Cm r es) (fun xs => bms b d xs) s) := fun {ρ' t ρ1 k} e rp x ht hc => by
    obtain ⟨m, c0, fds, fs, ts, d, h1, h2, h3, h4, h5, h6, h7, h8, h9, h10, h11⟩ := takeF_ok ht e rp x
    refine ⟨m, c0, fds, d, h1, h2, h4, fun _ => ?_⟩
    have hv : den Cm r (.fld (.var i) f) s = .ok d s := by
      show M.bind (slotV r i) (fun x => getF Cm.P x f) s = _
      rw [bind_at (show slotV r i s = .ok (.ref m) s by unfold slotV; rw [h1]), c.P]
      exact h3
    rw [bind_at hv, bind_at (chk_ok (reps_cons.mp h11.rp).1 hc)]
  cases z : mdens C es true (frzR (varss es) ρ) with
  | no => trivial
  | exc x ρ' =>
    rw [z] at q
    obtain ⟨s1, e, h3, h5⟩ := q
    dsimp only
    cases w : takeF C.Q.P i f ρ with
    | none => trivial
    | some p =>
      obtain ⟨t, ρ1, k⟩ := p
      dsimp only
      split
      · rename_i hc
        obtain ⟨m, c0, fds, d, g1, g2, g3, g4⟩ := rcv st.ok st.rp st.ex w hc
        refine ⟨s1, ?_, st.ok, Step.back_exc st.ok st.rp st.ex h5⟩
        rw [g4 (M.pure .non)]
        unfold M.bind
        rw [e]
      · trivial
  | ok vs ρ' =>
    rw [z] at q
    obtain ⟨ds, s1, us, es', e, ⟨rfl, rfl⟩, hl, h3, h4, h5⟩ := q
    have h4 : ρ' = frzR (varss es) ρ := h4 rfl
    subst h4
    dsimp only
    have old : ∀ a, a < s.length → s1[a]? = s[a]? := fun a h => h5.fr a h (nOE_inOs (nOE_frzR _))
    have go : ∀ (ρa : NEnv), EOk ρa r → reps s (eT ρa) (eD r) → exs s (eT ρa) (eD r) → Step s (eT ρ) (eD r) s1 (us ++ eT ρa) (es' ++ eD r) → Gd RT s (eT ρ) (eD r) r (Fz false ρ) (match takeF C.Q.P i f ρa with
          | some (t, ρ1, k) => if nchk b t = true then (match nbm b t us with
            | some (a, t') => (match putF i k t' ρ1 with
              | some ρ2 => .ok a ρ2
              | none => .no)
            | none => .no) else .no
          | none => .no) (M.bind (den Cm r (.fld (.var i) f)) (fun x => M.bind (chkB b x) fun _ => M.bind (dens Cm r es) fun xs => bms b x xs) s) := fun ρa ea rpa xa sa => by
      cases w : takeF C.Q.P i f ρa with
      | none => trivial
      | some p =>
        obtain ⟨t, ρ1, k⟩ := p
        dsimp only
        split
        · rename_i hc
          obtain ⟨m, c0, fds, d, g1, g2, g3, g4⟩ := rcv ea rpa xa w hc
          rw [g4 (M.pure .non), bind_at e]
          obtain ⟨rp1, rp2⟩ := reps_app_inv hl sa.rp
          obtain ⟨_, ex2, _, _⟩ := (exs_app hl).mp sa.ex
          obtain ⟨m', c0', fds', fs, ts, d', k1, k2, k3, k4, k5, k6, k7, k8, k9, k10, k11⟩ := takeF_ok w ea rp2 ex2
          rw [g1] at k1; cases k1
          rw [old m (lt_some g2), g2] at k2; cases k2
          rw [g3] at k4; cases k4
          cases v : nbm b t us with
          | none => trivial
          | some p =>
            obtain ⟨a, t'⟩ := p
            dsimp only
            have b1 := sa.then hl k11
            have b2 : Step s (eT ρ) (eD r) s1 ((t :: us) ++ eT ρ1) ((d :: es') ++ eD r) := b1.trans (Step.rot hl b1.rp b1.ex)
            have hl3 : (t :: us).length = (d :: es').length := by simp [hl]
            obtain ⟨rq1, rq2⟩ := reps_app_inv hl3 b2.rp
            obtain ⟨x1, x2, x3, x4⟩ := (exs_app hl3).mp b2.ex
            obtain ⟨y, s2, hw, opm⟩ := op_bm (reps_cons.mp rq1).1 (reps_cons.mp rq1).2 v
            have o1 := opm [] [] (by rw [List.append_nil, List.append_nil]; exact rq1) (by rw [List.append_nil, List.append_nil]; exact x1)
            rw [List.append_nil, List.append_nil] at o1
            have b3 := b2.trans (Step.frameR hl3 o1 rq2 b2.ex)
            have hm2 : s2[m]? = some (.ins c0 fds) := by
              have hm1 : s1[m]? = some (.ins c0 fds) := (old m (lt_some g2)).trans g2
              rw [o1.fr m (lt_some hm1) fun q => x3 m q ?_]
              · exact hm1
              · subst k6
                refine inFs_at.mpr ⟨i, _, .ref m, by simp [List.getElem?_set, k9]; rfl, by simp [g1, dOf], ?_⟩
                exact (NodeT.ins true c0 fs _).inF.mpr (.inl rfl)
            cases u : putF i k t' ρ1 with
            | none => trivial
            | some ρ2 =>
              have hs1 : ρ1[i]? = some (.val (.ins true c0 fs (ts.set k .hole))) := by subst k6; simp [List.getElem?_set, k9]
              have hu : ρ2 = ρ1.set i (.val (.ins true c0 fs ((ts.set k .hole).set k t'))) := by
                unfold putF at u
                rw [hs1] at u
                exact (Option.some.inj u).symm
              subst hu
              have b4 : Step s (eT ρ) (eD r) s2 ([a] ++ (t' :: eT ρ1)) ([y] ++ (d :: eD r)) := b3
              obtain ⟨v1, v2⟩ := reps_cons.mp b4.rp
              obtain ⟨p1, p2⟩ := putF_ok (t := t') hs1 g1 hm2 k5 g3 k10 v2 (exs_cons.mp b4.ex).2.2.2
              exact ⟨y, s2, [a], [y], hw, ⟨rfl, rfl⟩, rfl, p1, fun z => Bool.noConfusion z, b4.then (us := [a]) (es := [y]) rfl p2⟩
        · trivial
    by_cases ho : dOwns us = true
    · rw [if_pos ho]
      exact go ρ st.ok st.rp st.ex (Step.backs_own hl st.ok st.rp st.ex ho h5)
    · rw [if_neg ho]
      have fz := Step.frzOn st.ok (varss es) st.rp st.ex
      exact go _ (st.ok.frzOn _) fz.rp fz.ex (Step.backs hl st.ok st.rp st.ex h5)
end
end EW.EN

set_option Elab.async false
set_option linter.all false
set_option maxRecDepth 100000
set_option maxHeartbeats 4000000
/-! N layer 10: the meaning of expressions over trees is right: the whole. -/
namespace EW.EN
open PySem
section
variable {C : Nal} {Cm : Cal}
theorem sn_slcPart {e : CE} (ih : SnE C Cm e) (fz : Bool) (ρ : NEnv) (r : Env) (s : Sto) (st : St fz s ρ r) :
    Gd RC s (eT ρ) (eD r) r (Fz fz ρ) (match e.isNope with
        | true => .ok none ρ
        | false => NR.bind (opnd (mden C e) (hasIo C.Q e) (vars e) fz ρ) fun y ρ => NR.opt (nintO y) ρ) ((if e.isNope = true then M.pure none else M.bind (den Cm r e) intO) s) := by
  cases h : e.isNope with
  | true => exact ⟨none, s, [], [], rfl, ⟨rfl, rfl, rfl⟩, rfl, st.ok, Fz.refl, Step.start st⟩
  | false =>
    rw [if_neg (by decide)]
    refine one_op ih st fun t d ρ1 s1 h1 h2 h3 h4 h5 => ?_
    cases t with
    | p x => cases x with
      | int i =>
        obtain ⟨rfl, _⟩ := rep_p.mp h1
        exact ⟨some i, s1, [], [], rfl, ⟨rfl, rfl, rfl⟩, rfl, h2, h3, h4.trans (Step.drop (us := [_]) (es := [_]) rfl h4.rp h4.ex)⟩
      | _ => trivial
    | _ => trivial
theorem sn_call (c : CalOk C Cm) {f n : Nat} {es : CEs} {j : Nat} (ih : SnA C Cm es) : Sn (fun fz ρ => NR.bind (margs C es (C.Q.io f) j fz ρ) fun as ρ => ncall C f n as ρ) (fun r => M.bind (dens Cm r es) fun xs => callN Cm f n xs) := fun fz ρ r s st =>
  Gd.bind (ih _ _ fz ρ r s st) fun as ds ρ1 s1 us es' h1 h2 h3 h4 h5 => Gd.ncall c h1.1 h1.2 h3 h4 h5
theorem sn_make (c : CalOk C Cm) {f n cl : Nat} {es : CEs} (ih : SnA C Cm es) : Sn (fun fz ρ => NR.bind (margs C es (C.Q.io f) 1 fz ρ) fun as ρ => (match takes as ρ with
      | some (ts, ρ1) => if nrs (C.Q.P.dfl f n) = true ∧ (T.ins true cl [] [] :: (ts ++ (C.Q.P.dfl f n).map T.p)).length = C.Q.P.np f then (match C.call f (T.ins true cl [] [] :: (ts ++ (C.Q.P.dfl f n).map T.p)) with
        | .ok (.p .non) (o :: outs) => (match puts as outs ρ1 with
          | some ρ2 => .ok o ρ2
          | none => .no)
        | .exc x (o :: outs) => (match puts as outs ρ1 with
          | some ρ2 => .exc x ρ2
          | none => .no)
        | _ => .no) else .no
      | none => .no))
    (fun r => M.bind (dens Cm r es) fun xs => M.bind (newO (.ins cl [])) fun o => M.bind (callN Cm f n (o :: xs)) fun v => if v = D.non then M.pure o else M.stuck) := fun fz ρ r s st =>
  Gd.bind (ih _ _ fz ρ r s st) fun as ds ρ1 s1 us es' h1 h2 h3 h4 h5 => by
    cases w : takes as ρ1 with
    | none => trivial
    | some p =>
      obtain ⟨ts, ρ2⟩ := p
      dsimp only
      split
      · rename_i hc
        obtain ⟨n1, n2⟩ := hc
        obtain ⟨e1, l1, t1⟩ := takes_ok h1.1 w h3 h5.rp h5.ex
        have hpl := takes_plc w h3
        have st1 := h5.trans t1
        obtain ⟨r1, r2⟩ := reps_app_inv l1 st1.rp
        obtain ⟨_, x2, _, _⟩ := (exs_app l1).mp st1.ex
        have pl := st1.then l1 (Step.plains n1 r2 x2)
        rw [← List.append_assoc, ← List.append_assoc] at pl
        have l2 : (ts ++ (C.Q.P.dfl f n).map T.p).length = (ds ++ C.Q.P.dfl f n).length := by simp [l1]
        have nw : Step s (eT ρ) (eD r) (s1 ++ [.ins cl []]) ((T.ins true cl [] [] :: (ts ++ (C.Q.P.dfl f n).map T.p)) ++ eT ρ2) ((.ref s1.length :: (ds ++ C.Q.P.dfl f n)) ++ eD r) :=
          pl.trans (Step.node (us := []) (es := []) (t := .ins true cl [] []) (ob := .ins cl []) (.ins true cl [] []) rfl ⟨[], rfl, rfl⟩ rfl pl.rp pl.ex rfl)
        have l3 : (T.ins true cl [] [] :: (ts ++ (C.Q.P.dfl f n).map T.p)).length = (D.ref s1.length :: (ds ++ C.Q.P.dfl f n)).length := by simpa using l2
        obtain ⟨r3, r4⟩ := reps_app_inv l3 nw.rp
        obtain ⟨x3, _, _, _⟩ := (exs_app l3).mp nw.ex
        have hm : callN Cm f n (.ref s1.length :: ds) = Cm.call f (.ref s1.length :: (ds ++ C.Q.P.dfl f n)) := by
          unfold callN
          rw [c.P, List.cons_append, if_pos (by rw [← l3]; exact n2)]
        have q := c.call f _ _ (s1 ++ [.ins cl []]) r3 x3
        have fin : ∀ {ρ3 : NEnv} {outs : List T}, puts as outs ρ2 = some ρ3 → Fz fz ρ ρ3 := fun hp hz => by
          rw [puts_none (h1.2 hz) hp, takes_none (h1.2 hz) w, h4 hz]
        show Gd RT s (eT ρ) (eD r) r (Fz fz ρ) _ (M.bind (callN Cm f n (.ref s1.length :: ds)) (fun v => if v = D.non then M.pure (.ref s1.length) else M.stuck) (s1 ++ [.ins cl []]))
        rw [hm]
        split
        · rename_i o outs z
          rw [z] at q
          obtain ⟨d, s', hw, t2⟩ := q
          have lo : outs.length = (ds ++ C.Q.P.dfl f n).length := by
            have := reps_len t2.rp
            simpa using this
          obtain ⟨rfl, _⟩ := rep_p.mp (reps_cons.mp t2.rp).1
          cases hp : puts as outs ρ2 with
          | none => trivial
          | some ρ3 =>
            have st2 := nw.trans (Step.frameR l3 t2 r4 nw.ex)
            have st3 : Step s (eT ρ) (eD r) s' (o :: (outs ++ eT ρ2)) (.ref s1.length :: ((ds ++ C.Q.P.dfl f n) ++ eD r)) := st2.trans (Step.drop (us := [_]) (es := [_]) rfl st2.rp st2.ex)
            obtain ⟨e3, t3⟩ := puts_ok h1.1 hp e1 lo hpl (reps_cons.mp st3.rp).2 (exs_cons.mp st3.ex).2.2.2
            refine ⟨.ref s1.length, s', [o], [.ref s1.length], ?_, ⟨rfl, rfl⟩, rfl, e3, fin hp, st3.then (us := [o]) (es := [.ref s1.length]) rfl t3⟩
            rw [bind_at hw]
            rfl
        · rename_i x o outs z
          rw [z] at q
          obtain ⟨s', hw, t2⟩ := q
          cases hp : puts as outs ρ2 with
          | none => trivial
          | some ρ3 =>
            have st2 := nw.trans (Step.frameR l3 t2 r4 nw.ex)
            have st3 : Step s (eT ρ) (eD r) s' (outs ++ eT ρ2) ((ds ++ C.Q.P.dfl f n) ++ eD r) := st2.trans (Step.drop (us := [o]) (es := [.ref s1.length]) rfl st2.rp st2.ex)
            obtain ⟨e3, t3⟩ := puts_ok h1.1 hp e1 (by have := reps_len t2.rp; simpa using this) hpl st3.rp st3.ex
            refine ⟨s', ?_, e3, st3.trans t3⟩
            unfold M.bind
            rw [hw]
        · trivial
      · trivial
mutual
theorem snE (c : CalOk C Cm) : ∀ e : CE, SnE C Cm e
  | .var i => sn_var i
  | .non => sn_con C Cm (x := .non) rfl (fun _ _ => rfl) fun _ _ => rfl
  | .bl b => sn_con C Cm (x := .bl b) rfl (fun _ _ => rfl) fun _ _ => rfl
  | .int i => sn_con C Cm (x := .int i) rfl (fun _ _ => rfl) fun _ _ => rfl
  | .str x => sn_con C Cm (x := .str x) rfl (fun _ _ => rfl) fun _ _ => rfl
  | .con g => fun fz ρ r s st => by
    show Gd RT s (eT ρ) (eD r) r (Fz fz ρ) (if nr (C.Q.P.con g) = true then .ok (.p (C.Q.P.con g)) ρ else .no) (M.pure (Cm.P.con g) s)
    split
    · rename_i h
      exact Gd.plain (Step.start st) rfl st.ok Fz.refl h (by rw [c.P]; rfl)
    · trivial
  | .bin op a b => fun fz ρ r s st =>
    one_op (snE c a) st fun t d ρ1 s1 h1 h2 h3 h4 h5 => two_op (us := [t]) (es := [d]) (snE c b) rfl h4 h5 fun u e ρ2 s2 q1 q2 q3 q4 q5 q6 =>
      Gd.opt q4 rfl q2 (h3.trans q3) fun v hv => op_bin (reps_cons.mp q6).1 q1 hv
  | .neg a => fun fz ρ r s st =>
    one_op (snE c a) st fun t d ρ1 s1 h1 h2 h3 h4 h5 => by
      split
      · obtain ⟨rfl, _⟩ := rep_p.mp h1
        exact Gd.plain h4 rfl h2 h3 rfl rfl
      · trivial
  | .nt a => fun fz ρ r s st =>
    one_op (snE c a) st fun t d ρ1 s1 h1 h2 h3 h4 h5 => Gd.opt h4 rfl h2 h3 fun v hv => by
      obtain ⟨k, k1, rfl⟩ := ib hv
      exact Op.plain rfl rfl (by rw [tru_at h1 k1]; rfl)
  | .andl es => fun fz ρ r s st => snAnd c es fz ρ r s st
  | .orl es => fun fz ρ r s st => snOr c es fz ρ r s st
  | .cmp op a b => fun fz ρ r s st =>
    one_op (snE c a) st fun t d ρ1 s1 h1 h2 h3 h4 h5 => two_op (us := [t]) (es := [d]) (snE c b) rfl h4 h5 fun u e ρ2 s2 q1 q2 q3 q4 q5 q6 =>
      Gd.opt q4 rfl q2 (h3.trans q3) (op_bool rfl fun k hk => ncmp_ok (reps_cons.mp q6).1 q1 hk)
  | .chn op op2 a b e => fun fz ρ r s st =>
    one_op (snE c a) st fun t d ρ1 s1 h1 h2 h3 h4 h5 => two_op (us := [t]) (es := [d]) (snE c b) rfl h4 h5 fun u e' ρ2 s2 q1 q2 q3 q4 q5 q6 => by
      split
      · rename_i hk
        rw [bind_at (ncmp_ok (reps_cons.mp q6).1 q1 hk)]
        refine two_op (us := [t, u]) (es := [d, e']) (snE c e) rfl q4 q5 fun v f ρ3 s3 w1 w2 w3 w4 w5 w6 => ?_
        exact Gd.opt w4 rfl w2 ((h3.trans q3).trans w3) (op_bool rfl fun k hk => ncmp_ok (reps_cons.mp (reps_cons.mp w6).2).1 w1 hk)
      · rename_i hk
        rw [bind_at (ncmp_ok (reps_cons.mp q6).1 q1 hk)]
        exact Gd.plain q4 rfl q2 (h3.trans q3) rfl rfl
      · trivial
  | .ife t a b => fun fz ρ r s st =>
    one_op (snE c t) st fun x d ρ1 s1 h1 h2 h3 h4 h5 => by
      have dr := h4.trans (Step.drop (us := [x]) (es := [d]) rfl h4.rp h4.ex)
      split
      · rename_i hk
        rw [tru_at h1 hk]
        exact Gd.from dr (opnd_ok (snE c a) h5) fun ρ2 w => h3.trans w
      · rename_i hk
        rw [tru_at h1 hk]
        exact Gd.from dr (opnd_ok (snE c b) h5) fun ρ2 w => h3.trans w
      · trivial
  | .fld o f => fun fz ρ r s st =>
    one_op (snE c o) st fun t d ρ1 s1 h1 h2 h3 h4 h5 => Gd.opt h4 rfl h2 h3 fun v hv => by rw [c.P]; exact op_get h1 hv
  | .ix o i => fun fz ρ r s st =>
    one_op (snE c o) st fun t d ρ1 s1 h1 h2 h3 h4 h5 => two_op (us := [t]) (es := [d]) (snE c i) rfl h4 h5 fun u e ρ2 s2 q1 q2 q3 q4 q5 q6 =>
      Gd.opt q4 rfl q2 (h3.trans q3) fun v hv => op_ix (reps_cons.mp q6).1 q1 hv
  | .slc o lo hi => fun fz ρ r s st =>
    one_op (snE c o) st fun t d ρ1 s1 h1 h2 h3 h4 h5 => by
      refine Gd.bind (Gd.lift (us := [t]) (es := [d]) h4 rfl (sn_slcPart (snE c lo) fz ρ1 r s1 h5)) fun l l' ρ2 s2 us es k1 k2 k3 k4 k5 => ?_
      obtain ⟨_, _, ⟨rfl, rfl, rfl⟩, _, rfl, rfl⟩ := k1
      have st2 : St fz s2 ρ2 r := ⟨k3, (reps_cons.mp k5.rp).2, (exs_cons.mp k5.ex).2.2.2, fun z => by rw [k4 z]; exact h5.nz z⟩
      refine Gd.bind (Gd.lift (us := [t]) (es := [d]) k5 rfl (sn_slcPart (snE c hi) fz ρ2 r s2 st2)) fun u u' ρ3 s3 us es w1 w2 w3 w4 w5 => ?_
      obtain ⟨_, _, ⟨rfl, rfl, rfl⟩, _, rfl, rfl⟩ := w1
      exact Gd.opt (us := [t]) (es := [d]) w5 rfl w3 ((h3.trans k4).trans w4) fun v hv => op_slc (reps_cons.mp w5.rp).1 hv
  | .nope => fun fz ρ r s st => trivial
  | .tup es => fun fz ρ r s st => Gd.bind (snEs c es fz ρ r s st) fun ts ds ρ1 s1 us es' h1 h2 h3 h4 h5 => by
      obtain ⟨rfl, rfl⟩ := h1
      obtain ⟨d, s', hw, k⟩ := op_mkTup (reps_app_inv h2 h5.rp).1
      exact ⟨d, s', [_], [d], hw, ⟨rfl, rfl⟩, rfl, h3, h4, h5.trans (k _ _ h5.rp h5.ex)⟩
  | .lst es => fun fz ρ r s st => Gd.bind (snEs c es fz ρ r s st) fun ts ds ρ1 s1 us es' h1 h2 h3 h4 h5 => by
      obtain ⟨rfl, rfl⟩ := h1
      obtain ⟨d, s', hw, k⟩ := op_mkLst (reps_app_inv h2 h5.rp).1
      exact ⟨d, s', [_], [d], hw, ⟨rfl, rfl⟩, rfl, h3, h4, h5.trans (k _ _ h5.rp h5.ex)⟩
  | .dct _ _ => fun fz ρ r s st => trivial
  | .lc own tg k src cond elt => fun fz ρ r s st => Gd.bind (snEs c src fz ρ r s st) fun vs ds ρ1 s1 us es' h1 h2 h3 h4 h5 => by
      obtain ⟨rfl, rfl⟩ := h1
      split
      · rename_i xs ht hx
        obtain ⟨it, us, es, m1, m2, m3, m4⟩ := nIt_ok hx (reps_app_inv h2 h5.rp).1
        have b1 := h5.trans (m3 _ _ h5.rp h5.ex)
        have bo : BodyOk own (wipeE r own) fz _ _ := body_ok (snC c cond) (snE c elt) ht
        rw [bind_at m1]
        cases w : nlcGo (fun x ρ => match bindN C.lock tg x ρ with
            | some ρ => NR.bind (mdenC C cond fz ρ) fun b ρ => if b = true then NR.bind (opnd (mden C elt) (hasIo C.Q elt) (vars elt) fz ρ) fun y ρ => .ok (some y) ρ else .ok none ρ
            | none => .no) own xs [] ρ1 with
        | exc y ρ2 =>
          exfalso
          have : ∀ (f : T → NEnv → NR (Option T)) (xs acc : List T) (ρ : NEnv), nlcGo f own xs acc ρ ≠ .exc y ρ2 := fun f xs => by
            induction xs with
            | nil => intro acc ρ h; cases h
            | cons x xs ih =>
              intro acc ρ h
              unfold nlcGo at h
              split at h
              · exact ih _ _ h
              · cases h
          exact this _ _ _ _ w
        | no => trivial
        | ok acc ρ2 =>
          obtain ⟨accD, s4, r4, g1, g2, g3, g4, g5, g6⟩ := lcGo_ok (s0 := s) (A := eT ρ) (B := eD r) bo m2 m4 xs [] [] acc [] ρ1 ρ2 s1 r rfl w (fun v => by rw [h4 v]; exact st.nz v) h3 (wipeE_ag r own).symm rfl b1
          have hn : it.n = xs.length := (m4 s1 (reps_app_inv m2 b1.rp).1).n
          rw [bind_at (by rw [hn]; exact g1)]
          exact lc_end st m2 g5 g2 (g3.trans (wipeE_ag r own)) g6
      · trivial
  | .lc2 own tg k src cond own1 tg1 k1 src1 cond1 elt => fun fz ρ r s st => Gd.bind (snEs c src fz ρ r s st) fun vs ds ρ1 s1 us es' h1 h2 h3 h4 h5 => by
      obtain ⟨rfl, rfl⟩ := h1
      split
      · rename_i xs ht hx
        rw [Bool.and_eq_true, Bool.and_eq_true] at ht
        obtain ⟨it, us, es, m1, m2, m3, m4⟩ := nIt_ok hx (reps_app_inv h2 h5.rp).1
        have b1 := h5.trans (m3 _ _ h5.rp h5.ex)
        have bo := out_ok (r0 := wipeE r own) (k1 := k1) (fz := fz) (snC c cond) (snEs c src1) (snC c cond1) (snE c elt) ht.1 ht.2.1 ht.2.2
        rw [bind_at m1]
        cases w : nlcOut (fun x acc ρ => match bindN C.lock tg x ρ with
            | some ρ => NR.bind (mdenC C cond fz ρ) fun b ρ => if b = true then NR.bind (mdens C src1 fz ρ) fun vs1 ρ => (match nIt k1 vs1 with
                | some ys => nlcGo (fun x ρ => match bindN C.lock tg1 x ρ with
                    | some ρ => NR.bind (mdenC C cond1 fz ρ) fun b ρ => if b = true then NR.bind (opnd (mden C elt) (hasIo C.Q elt) (vars elt) fz ρ) fun y ρ => .ok (some y) ρ else .ok none ρ
                    | none => .no) own1 ys acc ρ
                | none => .no) else .ok acc ρ
            | none => .no) own xs [] ρ1 with
        | exc y ρ2 =>
          exfalso
          have : ∀ (f : T → List T → NEnv → NR (List T)) (xs acc : List T) (ρ : NEnv), nlcOut f own xs acc ρ ≠ .exc y ρ2 := fun f xs => by
            induction xs with
            | nil => intro acc ρ h; cases h
            | cons x xs ih =>
              intro acc ρ h
              unfold nlcOut at h
              split at h
              · split at h
                · exact ih _ _ h
                · cases h
              · cases h
          exact this _ _ _ _ w
        | no => trivial
        | ok acc ρ2 =>
          obtain ⟨accD, s4, r4, g1, g2, g3, g4, g5, g6⟩ := lcOut_ok (s0 := s) (A := eT ρ) (B := eD r) bo m2 m4 xs [] [] acc [] ρ1 ρ2 s1 r rfl w (fun v => by rw [h4 v]; exact st.nz v) h3 (wipeE_ag r own).symm rfl b1
          have hn : it.n = xs.length := (m4 s1 (reps_app_inv m2 b1.rp).1).n
          rw [bind_at (by rw [hn]; exact g1)]
          exact lc_end st m2 g5 g2 (g3.trans (wipeE_ag r own)) g6
      · trivial
  | .call f es => sn_call c (f := f) (n := es.len) (j := 0) (snA c es)
  | .make cl es => fun fz ρ r s st => by
      show Gd RT s (eT ρ) (eD r) r (Fz fz ρ) (match C.Q.P.init cl with
        | some f => NR.bind (margs C es (C.Q.io f) 1 fz ρ) fun as ρ => (match takes as ρ with
          | some (ts, ρ1) => if nrs (C.Q.P.dfl f (es.len + 1)) = true ∧ (T.ins true cl [] [] :: (ts ++ (C.Q.P.dfl f (es.len + 1)).map T.p)).length = C.Q.P.np f then (match C.call f (T.ins true cl [] [] :: (ts ++ (C.Q.P.dfl f (es.len + 1)).map T.p)) with
            | .ok (.p .non) (o :: outs) => (match puts as outs ρ1 with
              | some ρ2 => .ok o ρ2
              | none => .no)
            | .exc x (o :: outs) => (match puts as outs ρ1 with
              | some ρ2 => .exc x ρ2
              | none => .no)
            | _ => .no) else .no
          | none => .no)
        | none => (match C.Q.P.plain cl, es with
          | true, .nil => .ok (.ins true cl [] []) ρ
          | _, _ => .no)) (M.bind (dens Cm r es) (fun xs => match Cm.P.init cl with
        | some f => M.bind (newO (.ins cl [])) fun o => M.bind (callN Cm f (es.len + 1) (o :: xs)) fun v => if v = .non then M.pure o else M.stuck
        | none => if Cm.P.plain cl = true ∧ xs = [] then newO (.ins cl []) else M.stuck) s)
      rw [c.P]
      cases h : C.Q.P.init cl with
      | some f => exact sn_make c (snA c es) fz ρ r s st
      | none =>
        dsimp only
        split
        · rename_i hp
          refine ⟨.ref s.length, s ++ [Ob.ins cl []], [T.ins true cl [] []], [D.ref s.length], ?_, ⟨rfl, rfl⟩, rfl, st.ok, Fz.refl, Step.node (us := []) (es := []) (ob := .ins cl []) (.ins true cl [] []) rfl ⟨[], rfl, rfl⟩ rfl st.rp st.ex rfl⟩
          show (if C.Q.P.plain cl = true ∧ ([] : List D) = [] then newO (.ins cl []) else M.stuck) s = _
          rw [if_pos ⟨hp, rfl⟩]
          rfl
        · trivial
  | .meth m o es => fun fz ρ r s st => by
      show Gd RT s (eT ρ) (eD r) r (Fz fz ρ) (match ownRec C m (es.len + 1) o fz ρ with
        | some (i, f) => NR.bind (margs C es (C.Q.io f) 1 fz ρ) fun as ρ => ncall C f (es.len + 1) (.plc i :: as) ρ
        | none => NR.bind (opnd (mden C o) (hasIo C.Q o) (vars o) fz ρ) fun t ρ => (match nmeth C t m (es.len + 1) with
          | some f => NR.bind (margs C es (C.Q.io f) 1 fz ρ) fun as ρ => ncall C f (es.len + 1) (.val t :: as) ρ
          | none => .no)) (M.bind (den Cm r o) (fun x => M.bind (methOf Cm.P x m (es.len + 1)) fun f => M.bind (dens Cm r es) fun xs => callN Cm f (es.len + 1) (x :: xs)) s)
      cases h : ownRec C m (es.len + 1) o fz ρ with
      | some p =>
        obtain ⟨i, f⟩ := p
        unfold ownRec at h
        split at h
        · rename_i i' hz
          split at h
          · rename_i t ht
            split at h
            · rename_i f' hf
              split at h
              · cases h
                obtain ⟨d, d1, d2, d3⟩ := st.ok.val ht
                have hr := (reps_at.mp st.rp).2 i t d d2 d3
                rw [bind_at (show den Cm r (.var i) s = .ok d s from (by show slotV r i s = _; unfold slotV; rw [d1])), bind_at (meth_ok c hr hf)]
                refine Gd.bind (snA c es _ _ false ρ r s st) fun as ds ρ1 s1 us es' h1 h2 h3 h4 h5 => ?_
                exact Gd.ncall c (as := .plc i :: as) (ds := d :: ds) (us := us) (es := es') ⟨d, ds, rfl, fun y hy => by rw [d1] at hy; cases hy; rfl, h1.1⟩ (fun z => Bool.noConfusion z) h3 h4 h5
              · cases h
            · cases h
          · cases h
        · cases h
      | none =>
        refine one_op (snE c o) st fun t d ρ1 s1 h1 h2 h3 h4 h5 => ?_
        split
        · rename_i f hf
          rw [bind_at (meth_ok c h1 hf)]
          refine Gd.bind (Gd.lift (us := [t]) (es := [d]) h4 rfl (snA c es _ _ fz ρ1 r s1 h5)) fun as ds ρ2 s2 us es' q1 q2 q3 q4 q5 => ?_
          obtain ⟨us1, es1, ⟨a1, a2⟩, la, rfl, rfl⟩ := q1
          exact Gd.ncall c (as := .val t :: as) (ds := d :: ds) (us := t :: us1) (es := d :: es1) ⟨d, ds, us1, es1, rfl, rfl, rfl, a1⟩ (fun z i hi => by
            rcases List.mem_cons.mp hi with q | q
            · cases q
            · exact a2 z i q) q3 (h3.trans q4) q5
        · trivial
  | .bi b es => fun fz ρ r s st => Gd.bind (snEs c es fz ρ r s st) fun ts ds ρ1 s1 us es' h1 h2 h3 h4 h5 => by
      obtain ⟨rfl, rfl⟩ := h1
      exact Gd.opt h5 h2 h3 h4 fun v hv => op_bi (reps_app_inv h2 h5.rp).1 hv
  | .bm b o es => fun fz ρ r s st => by
      show Gd RT s (eT ρ) (eD r) r (Fz fz ρ) (match ownBm b o fz ρ with
        | some i => (match ρ[i]? with
          | some (.val t0) => if nchk b t0 = true then NR.bind (mdens C es fz ρ) fun vs ρ => (match ρ[i]? with
            | some (.val t) => (match nbm b t vs with
              | some (a, t') => .ok a (ρ.set i (.val t'))
              | none => .no)
            | _ => .no) else .no
          | _ => .no)
        | none => (match ownBmF b o fz with
          | some (i, f) => (match mdens C es true (frzR (varss es) ρ) with
            | .ok vs _ => (match takeF C.Q.P i f (if dOwns vs = true then ρ else frzOn (varss es) ρ) with
              | some (t, ρ1, k) => if nchk b t = true then (match nbm b t vs with
                | some (a, t') => (match putF i k t' ρ1 with
                  | some ρ2 => .ok a ρ2
                  | none => .no)
                | none => .no) else .no
              | none => .no)
            | .exc x _ => (match takeF C.Q.P i f ρ with
              | some (t, _, _) => if nchk b t = true then .exc x ρ else .no
              | none => .no)
            | .no => .no)
          | none => NR.bind (opnd (mden C o) (hasIo C.Q o) (vars o) fz ρ) fun t ρ => if nchk b t = true then NR.bind (mdens C es fz ρ) fun vs ρ => (match nbm b t vs with
            | some (a, _) => .ok a ρ
            | none => .no) else .no)) (M.bind (den Cm r o) (fun x => M.bind (chkB b x) fun _ => M.bind (dens Cm r es) fun xs => bms b x xs) s)
      cases h : ownBm b o fz ρ with
      | some i =>
        unfold ownBm at h
        split at h
        · cases h
          dsimp only
          split
          · rename_i t0 ht
            split
            · rename_i hc
              obtain ⟨d, d1, d2, d3⟩ := st.ok.val ht
              have hr := (reps_at.mp st.rp).2 _ t0 d d2 d3
              rw [bind_at (show den Cm r (.var i) s = .ok d s from (by show slotV r i s = _; unfold slotV; rw [d1])), bind_at (chk_ok hr hc)]
              refine Gd.bind (snEs c es false ρ r s st) fun vs ds ρ1 s1 us es' h1 h2 h3 h4 h5 => ?_
              obtain ⟨rfl, rfl⟩ := h1
              split
              · rename_i t ht2
                split
                · rename_i a t' hb
                  obtain ⟨d', e1, e2, e3⟩ := h3.val ht2
                  rw [d1] at e1; cases e1
                  obtain ⟨rp1, rp2⟩ := reps_app_inv h2 h5.rp
                  obtain ⟨_, ex2, _, _⟩ := (exs_app h2).mp h5.ex
                  have b1 := h5.then h2 (Step.take (i := i) e2 e3 rp2 ex2 h3.len)
                  have b2 : Step s (eT ρ) (eD r) s1 ((t :: us) ++ eT (ρ1.set i .non)) ((d :: es') ++ eD r) := b1.trans (Step.rot h2 b1.rp b1.ex)
                  have hl3 : (t :: us).length = (d :: es').length := by simp [h2]
                  obtain ⟨rq1, rq2⟩ := reps_app_inv hl3 b2.rp
                  obtain ⟨y, s2, hw, opm⟩ := op_bm (reps_cons.mp rq1).1 (reps_cons.mp rq1).2 hb
                  have b3 := b2.trans (opm _ _ b2.rp b2.ex)
                  have b4 := b3.then (us := [a]) (es := [y]) rfl (Step.put (i := i) (reps_cons.mp b3.rp).2 (exs_cons.mp b3.ex).2.2.2 (by simp [h3.len]))
                  rw [set_set', set_same d1] at b4
                  exact ⟨y, s2, [a], [y], hw, ⟨rfl, rfl⟩, rfl, h3.set' (fun w hw' => by rw [d1] at hw'; cases hw'; trivial), fun z => Bool.noConfusion z, b4⟩
                · trivial
              · trivial
            · trivial
          · trivial
        · cases h
      | none =>
        dsimp only
        cases h2 : ownBmF b o fz with
        | some p =>
          obtain ⟨i, f⟩ := p
          unfold ownBmF at h2
          split at h2
          · cases h2
            exact bmF_ok c (snEs c es) st
          · cases h2
        | none =>
          refine one_op (snE c o) st fun t d ρ1 s1 h1 h2 h3 h4 h5 => ?_
          split
          · rename_i hc
            rw [bind_at (chk_ok h1 hc)]
            refine Gd.bind (Gd.lift (us := [t]) (es := [d]) h4 rfl (snEs c es fz ρ1 r s1 h5)) fun vs ds ρ2 s2 us es' q1 q2 q3 q4 q5 => ?_
            obtain ⟨us1, es1, ⟨rfl, rfl⟩, la, rfl, rfl⟩ := q1
            have hl3 : (t :: us1).length = (d :: es1).length := by simp [la]
            obtain ⟨rq1, rq2⟩ := reps_app_inv hl3 q5.rp
            split
            · rename_i a t' hb
              exact bm_temp (reps_cons.mp rq1).1 (reps_cons.mp rq1).2 q3 (h3.trans q4) q5 hb
            · trivial
          · trivial
  | .isi e ts => fun fz ρ r s st =>
    one_op (snE c e) st fun t d ρ1 s1 h1 h2 h3 h4 h5 => Gd.opt h4 rfl h2 h3 (op_bool rfl fun k hk => isi_ok h1 hk)
  | .isx i cl => fun fz ρ r s st => by
      show Gd RT s (eT ρ) (eD r) r (Fz fz ρ) (match ρ[i]? with
        | some (.exc x) => if x.fs = [] then (match C.Q.P.sub x.c cl with
          | some b => .ok (.p (.bl b)) ρ
          | none => .no) else .no
        | _ => .no) (M.bind (slotX r i) (fun x => isxD Cm.P x cl) s)
      split
      · rename_i x hx
        obtain ⟨y, y1, y2⟩ := st.ok.get hx
        have hs : slotX r i s = .ok x s := by
          cases y with
          | exc z => have y2 : x = z := y2; subst y2; unfold slotX; rw [y1]
          | _ => exact y2.elim
        rw [bind_at hs]
        split
        · rename_i hf
          split
          · rename_i b hb
            exact Gd.plain (Step.start st) rfl st.ok Fz.refl rfl (by unfold isxD; rw [if_pos hf, c.P, hb])
          · trivial
        · trivial
      · trivial
  | .xfl i f => fun fz ρ r s st => by
      show Gd RT s (eT ρ) (eD r) r (Fz fz ρ) (match ρ[i]? with
        | some (.exc x) => (match x.fs.lookup f with
          | some d => if nr d = true then .ok (.p d) ρ else .no
          | none => .no)
        | _ => .no) (M.bind (slotX r i) (fun x => match x.fs.lookup f with
          | some d => M.pure d
          | none => M.stuck) s)
      split
      · rename_i x hx
        obtain ⟨y, y1, y2⟩ := st.ok.get hx
        have hs : slotX r i s = .ok x s := by
          cases y with
          | exc z => have y2 : x = z := y2; subst y2; unfold slotX; rw [y1]
          | _ => exact y2.elim
        rw [bind_at hs]
        split
        · rename_i d hd
          split
          · rename_i hn
            exact Gd.plain (Step.start st) rfl st.ok Fz.refl hn (by rw [hd]; rfl)
          · trivial
        · trivial
      · trivial
theorem snEs (c : CalOk C Cm) : ∀ es : CEs, SnEs C Cm es
  | .nil => fun fz ρ r s st => ⟨[], s, [], [], rfl, ⟨rfl, rfl⟩, rfl, st.ok, Fz.refl, Step.start st⟩
  | .cons e es => fun fz ρ r s st =>
    one_op (snE c e) st fun t d ρ1 s1 h1 h2 h3 h4 h5 => by
      refine Gd.bind (Gd.lift (us := [t]) (es := [d]) h4 rfl (snEs c es fz ρ1 r s1 h5)) fun vs ds ρ2 s2 us es' q1 q2 q3 q4 q5 => ?_
      obtain ⟨us1, es1, ⟨rfl, rfl⟩, la, rfl, rfl⟩ := q1
      exact ⟨d :: es1, s2, t :: us1, d :: es1, rfl, ⟨rfl, rfl⟩, by simp [la], q3, h3.trans q4, q5⟩
theorem snA (c : CalOk C Cm) : ∀ es : CEs, SnA C Cm es
  | .nil => fun io j fz ρ r s st => ⟨[], s, [], [], rfl, ⟨⟨rfl, rfl, rfl⟩, fun _ i hi => by (cases hi)⟩, rfl, st.ok, Fz.refl, Step.start st⟩
  | .cons e es => fun io j fz ρ r s st => by
      show Gd (RA r fz) s (eT ρ) (eD r) r (Fz fz ρ) (NR.bind (match fz, io.contains j, e with
        | false, true, .var i => (match ρ[i]? with
          | some (.val _) => .ok (.plc i) ρ
          | _ => .no)
        | _, _, _ => NR.bind (opnd (mden C e) (hasIo C.Q e) (vars e) fz ρ) fun x ρ => .ok (.val x) ρ) fun a ρ => NR.bind (margs C es io (j + 1) fz ρ) fun as ρ => .ok (a :: as) ρ)
        (M.bind (den Cm r e) (fun x => M.bind (dens Cm r es) fun xs => M.pure (x :: xs)) s)
      have val : Gd (RA r fz) s (eT ρ) (eD r) r (Fz fz ρ) (NR.bind (NR.bind (opnd (mden C e) (hasIo C.Q e) (vars e) fz ρ) fun x ρ => .ok (.val x) ρ) fun a ρ => NR.bind (margs C es io (j + 1) fz ρ) fun as ρ => .ok (a :: as) ρ)
          (M.bind (den Cm r e) (fun x => M.bind (dens Cm r es) fun xs => M.pure (x :: xs)) s) := by
        have hb : ∀ (q : NR T), (NR.bind (NR.bind q fun x ρ => .ok (.val x) ρ) fun a ρ => NR.bind (margs C es io (j + 1) fz ρ) fun as ρ => .ok (a :: as) ρ : NR (List Ar)) = NR.bind q fun x ρ => NR.bind (margs C es io (j + 1) fz ρ) fun as ρ => .ok (.val x :: as) ρ := fun q => by cases q <;> rfl
        rw [hb]
        refine one_op (snE c e) st fun t d ρ1 s1 h1 h2 h3 h4 h5 => ?_
        refine Gd.bind (Gd.lift (us := [t]) (es := [d]) h4 rfl (snA c es io (j + 1) fz ρ1 r s1 h5)) fun as ds ρ2 s2 us es' q1 q2 q3 q4 q5 => ?_
        obtain ⟨us1, es1, ⟨a1, a2⟩, la, rfl, rfl⟩ := q1
        exact ⟨d :: ds, s2, t :: us1, d :: es1, rfl, ⟨⟨d, ds, us1, es1, rfl, rfl, rfl, a1⟩, fun z i hi => by
          rcases List.mem_cons.mp hi with q | q
          · cases q
          · exact a2 z i q⟩, by simp [la], q3, h3.trans q4, q5⟩
      split
      · rename_i i hz
        split
        · rename_i t ht
          obtain ⟨d, d1, d2, d3⟩ := st.ok.val ht
          rw [bind_at (show den Cm r (.var i) s = .ok d s from (by show slotV r i s = _; unfold slotV; rw [d1]))]
          show Gd (RA r false) s (eT ρ) (eD r) r (Fz false ρ) (NR.bind (margs C es io (j + 1) false ρ) fun as ρ => .ok (.plc i :: as) ρ) _
          refine Gd.bind (snA c es io (j + 1) false ρ r s st) fun as ds ρ2 s2 us es' q1 q2 q3 q4 q5 => ?_
          exact ⟨d :: ds, s2, us, es', rfl, ⟨⟨d, ds, rfl, fun y hy => by rw [d1] at hy; cases hy; rfl, q1.1⟩, fun z => Bool.noConfusion z⟩, q2, q3, q4, q5⟩
        · trivial
      · exact val
theorem snC (c : CalOk C Cm) : ∀ es : CEs, SnC C Cm es
  | .nil => fun fz ρ r s st => ⟨true, s, [], [], rfl, ⟨rfl, rfl, rfl⟩, rfl, st.ok, Fz.refl, Step.start st⟩
  | .cons e .nil => fun fz ρ r s st =>
    one_op (snE c e) st fun t d ρ1 s1 h1 h2 h3 h4 h5 => by
      cases h : ntru t with
      | none => trivial
      | some b => exact ⟨b, s1, [], [], ntru_ok h1 h, ⟨rfl, rfl, rfl⟩, rfl, h2, h3, h4.trans (Step.drop (us := [t]) (es := [d]) rfl h4.rp h4.ex)⟩
  | .cons e (.cons e2 es) => fun fz ρ r s st => trivial
theorem snAnd (c : CalOk C Cm) : ∀ es : CEs, SnAnd C Cm es
  | .nil => fun fz ρ r s st => trivial
  | .cons e .nil => fun fz ρ r s st => opnd_ok (snE c e) st
  | .cons e (.cons e2 es) => fun fz ρ r s st =>
    one_op (snE c e) st fun t d ρ1 s1 h1 h2 h3 h4 h5 => by
      split
      · rename_i hk
        rw [tru_at h1 hk]
        exact Gd.from (h4.trans (Step.drop (us := [t]) (es := [d]) rfl h4.rp h4.ex)) (snAnd c (.cons e2 es) fz ρ1 r s1 h5) fun ρ2 w => h3.trans w
      · rename_i hk
        rw [tru_at h1 hk]
        exact ⟨d, s1, [t], [d], rfl, ⟨rfl, rfl⟩, rfl, h2, h3, h4⟩
      · trivial
theorem snOr (c : CalOk C Cm) : ∀ es : CEs, SnOr C Cm es
  | .nil => fun fz ρ r s st => trivial
  | .cons e .nil => fun fz ρ r s st => opnd_ok (snE c e) st
  | .cons e (.cons e2 es) => fun fz ρ r s st =>
    one_op (snE c e) st fun t d ρ1 s1 h1 h2 h3 h4 h5 => by
      split
      · rename_i hk
        rw [tru_at h1 hk]
        exact ⟨d, s1, [t], [d], rfl, ⟨rfl, rfl⟩, rfl, h2, h3, h4⟩
      · rename_i hk
        rw [tru_at h1 hk]
        exact Gd.from (h4.trans (Step.drop (us := [t]) (es := [d]) rfl h4.rp h4.ex)) (snOr c (.cons e2 es) fz ρ1 r s1 h5) fun ρ2 w => h3.trans w
      · trivial
end
end
end EW.EN

set_option Elab.async false
set_option linter.all false
set_option maxRecDepth 100000
set_option maxHeartbeats 4000000
/-! N layer 11: statements over trees; a def's run. -/
namespace EW.EN
open PySem

inductive NSr where
  | nx (ρ : NEnv) | rt (t : T) (ρ : NEnv) | ex (x : Exn) (ρ : NEnv) | no
def nlift {α : Type} (q : NR α) (k : α → NEnv → NSr) : NSr := match q with
  | .ok a ρ => k a ρ
  | .exc x ρ => .ex x ρ
  | .no => .no
def setFN (P : Prg) (i f : Nat) (v : T) (ρ : NEnv) : Option NEnv := match ρ[i]? with
  | some (.val (.ins true c fs ts)) => if (P.flds c f && decide (fs.length < 1000)) = true then (match fidx fs f with
    | some k => some (ρ.set i (.val (.ins true c fs (ts.set k v))))
    | none => some (ρ.set i (.val (.ins true c (fs ++ [f]) (ts ++ [v]))))) else none
  | _ => none
/-- o[i] = v -/
def nseti (t j v : T) : Option T := match j with
  | .p (.int j) => (match t with
    | .lp true xs => (match L2.ixN xs.length j with
      | some k => (match v with
        | .p x => some (.lp true (xs.set k x))
        | v => some (.lst true ((xs.map T.p).set k v)))
      | none => none)
    | .lst true ts => (match L2.ixN ts.length j with
      | some k => some (.lst true (ts.set k v))
      | none => none)
    | _ => none)
  | _ => none
/-- an index, in the frozen environment; a plain value -/
def fzP (C : Nal) (e : CE) (ρ : NEnv) : Option D := match mden C e true (frzR (vars e) ρ) with
  | .ok (.p x) _ => some x
  | _ => none
def mfor (body : NEnv → NSr) (lock : List Nat) (tg : Tg) : List T → NEnv → NSr
  | [], ρ => .nx ρ
  | x :: xs, ρ => match bindN lock tg x ρ with
    | some ρ1 => (match body ρ1 with
      | .nx ρ2 => mfor body lock tg xs ρ2
      | q => q)
    | none => .no
def mwh (c : NEnv → NR Bool) (body : NEnv → NSr) : Nat → NEnv → NSr
  | 0, _ => .no
  | n + 1, ρ => match c ρ with
    | .ok true ρ1 => (match body ρ1 with
      | .nx ρ2 => mwh c body n ρ2
      | q => q)
    | .ok false ρ1 => .nx ρ1
    | .exc x ρ1 => .ex x ρ1
    | .no => .no
def setNN (ρ : NEnv) (o : Option Nat) (z : Sl) : NEnv := match o with
  | some i => ρ.set i z
  | none => ρ
def clrN (ρ : NEnv) : NEnv := ρ.map fun z => match z with
  | .exc _ => .non
  | z => z
def inLock (lock : List Nat) (o : Option Nat) : Bool := match o with
  | some i => lock.contains i
  | none => false
/-- a store into an item of a slot, of a slot's field, of an item of a slot -/
def setiN (C : Nal) (o i : CE) (v : T) (ρ : NEnv) : Option NEnv := match fzP C i ρ with
  | none => none
  | some j => (match o with
    | .var a => (match ρ[a]? with
      | some (.val t) => (match nseti t (.p j) v with
        | some t' => some (ρ.set a (.val t'))
        | none => none)
      | _ => none)
    | .fld (.var a) f => (match takeF C.Q.P a f ρ with
      | some (t, ρ1, k) => (match nseti t (.p j) v with
        | some t' => putF a k t' ρ1
        | none => none)
      | none => none)
    | .ix (.var a) e2 => (match fzP C e2 ρ, ρ[a]? with
      | some (.int n), some (.val (.lst true ts)) => (match L2.ixN ts.length n with
        | some k => (match ts[k]? with
          | some t => (match nseti t (.p j) v with
            | some t' => some (ρ.set a (.val (.lst true (ts.set k t'))))
            | none => none)
          | none => none)
        | none => none)
      | _, _ => none)
    | _ => none)
abbrev mE (C : Nal) (e : CE) (ρ : NEnv) : NR T := opnd (mden C e) (hasIo C.Q e) (vars e) false ρ
/-- a test: its value is used for its truth alone, so nothing is frozen -/
def mT (C : Nal) (c : CE) (ρ : NEnv) : NR Bool := match hasIo C.Q c with
  | true => NR.bind (mE C c ρ) fun x ρ => NR.opt (ntru x) ρ
  | false => match mden C c true (frzR (vars c) ρ) with
    | .ok x _ => NR.opt (ntru x) ρ
    | .exc x _ => .exc x ρ
    | .no => .no
/-- a slot that is handed back whole -/
def retV (C : Nal) (e : CE) (ρ : NEnv) : Option (T × NEnv) := match e with
  | .var i => if C.lock.contains i then none else (match ρ[i]? with
    | some (.val t) => some (t, ρ.set i .non)
    | _ => none)
  | _ => none
mutual
def msem (C : Nal) : CS → NEnv → NSr
  | .expr e, ρ => nlift (mE C e ρ) fun _ ρ => .nx ρ
  | .asg t e, ρ => nlift (mE C e ρ) fun x ρ => (match bindN C.lock t x ρ with
    | some ρ1 => .nx ρ1
    | none => .no)
  | .setf o f e, ρ => nlift (mE C e ρ) fun v ρ => (match o with
    | .var i => (match setFN C.Q.P i f v ρ with
      | some ρ1 => .nx ρ1
      | none => .no)
    | _ => .no)
  | .seti o i e, ρ => nlift (mE C e ρ) fun v ρ => (match setiN C o i v ρ with
    | some ρ1 => .nx ρ1
    | none => .no)
  | .deli _ _, _ => .no
  | .ret e, ρ => (match retV C e ρ with
    | some (t, ρ1) => .rt t ρ1
    | none => nlift (mE C e ρ) fun t ρ => .rt t ρ)
  | .retn, ρ => .rt (.p .non) ρ
  | .ite c a b, ρ => nlift (mT C c ρ) fun k ρ => (match k with
    | true => msems C a ρ
    | false => msems C b ρ)
  | .forS t k src b, ρ => nlift (mdens C src false ρ) fun vs ρ => (match nIt k vs with
    | some xs => mfor (fun ρ => msems C b ρ) C.lock t xs ρ
    | none => .no)
  | .whl c b, ρ => mwh (mT C c) (fun ρ => msems C b ρ) C.L ρ
  | .tryS b c nm h, ρ => if inLock C.lock nm = true then .no else (match msems C b ρ with
    | .ex x ρ1 => (match C.Q.P.sub x.c c with
      | some true => (match msems C h (setNN ρ1 nm (.exc x)) with
        | .nx ρ2 => .nx (setNN (clrN ρ2) nm .non)
        | .rt t ρ2 => .rt t ρ2
        | _ => .no)
      | some false => .ex x ρ1
      | none => .no)
    | q => q)
  | .raise c, ρ => if C.Q.P.xr c = true then .ex ⟨c, []⟩ ρ else .no
  | .raiseC c f e, ρ => nlift (mE C e ρ) fun v ρ => (match v with
    | .p d => .ex ⟨c, [(f, d)]⟩ ρ
    | _ => .no)
  | .nop, ρ => .nx ρ
def msems (C : Nal) : CSs → NEnv → NSr
  | .nil, ρ => .nx ρ
  | .cons a b, ρ => (match msem C a ρ with
    | .nx ρ1 => msems C b ρ1
    | q => q)
end
def mstart (n : Nat) (ts : List T) : NEnv := ts.map Sl.val ++ List.replicate (n - ts.length) Sl.non
def outsOf (io : List Nat) (np : Nat) (ρ : NEnv) : List T := (List.range np).map fun i => if io.contains i then (match ρ[i]? with
  | some z => tOf z
  | none => .hole) else .hole
def mend (io : List Nat) (np : Nat) : NSr → CR
  | .nx ρ => .ok (.p .non) (outsOf io np ρ)
  | .rt t ρ => .ok t (outsOf io np ρ)
  | .ex x ρ => .exc x (outsOf io np ρ)
  | .no => .no
def mrun (Q : NP) (L : Nat) : Nat → Nat → List T → CR
  | 0, _, _ => .no
  | n + 1, f, ts => match Q.P.fns[f]? with
    | some q => if ts.length = q.np then mend (Q.io f) q.np (msems ⟨Q, L, Q.io f, mrun Q L n⟩ q.body (mstart q.ns ts)) else .no
    | none => .no

/-! ### stores -/
section
variable {s s' : Sto} {ρ ρ' ρ1 : NEnv} {r : Env} {t v : T} {d e : D} {ts I : List T} {ds J : List D} {i k m : Nat}
theorem Step.pickSet (hk : k < ts.length) (hl : ts.length = ds.length) (rp : reps s (.cell true :: (ts ++ (t :: I))) (.ref m :: (ds ++ (d :: J)))) (x : exs s (.cell true :: (ts ++ (t :: I))) (.ref m :: (ds ++ (d :: J)))) :
    Step s (.cell true :: (ts ++ (t :: I))) (.ref m :: (ds ++ (d :: J))) s (.cell true :: (ts.set k t ++ I)) (.ref m :: (ds.set k d ++ J)) := by
  refine Step.sub (fun j => match j with
    | 0 => 0
    | j + 1 => if j = k then ts.length + 1 else if j < ts.length then j + 1 else j + 2) rp x (by have := reps_len rp; simp at this ⊢; omega) (fun j t' d' q1 q2 => ?_) (fun j j' t' u' ne q q1 q2 => ?_)
  · match j with
    | 0 => cases q1; cases q2; exact .inr ⟨_, rfl, rfl, .inl rfl⟩
    | j + 1 =>
      have q1 : (ts.set k t ++ I)[j]? = some t' := q1
      have q2 : (ds.set k d ++ J)[j]? = some d' := q2
      dsimp only
      by_cases hj : j < ts.length
      · rw [List.getElem?_append_left (by simpa using hj), List.getElem?_set] at q1
        rw [List.getElem?_append_left (by simpa using hl ▸ hj), List.getElem?_set] at q2
        by_cases e : k = j
        · rw [if_pos e, if_pos hk] at q1
          rw [if_pos e, if_pos (hl ▸ hk)] at q2
          cases q1
          cases q2
          subst e
          rw [if_pos rfl]
          refine .inr ⟨_, ?_, ?_, .inl rfl⟩
          · show (ts ++ (t :: I))[ts.length]? = some t
            simp
          · show (ds ++ (d :: J))[ts.length]? = some d
            rw [hl]; simp
        · rw [if_neg e] at q1 q2
          rw [if_neg (Ne.symm e), if_pos hj]
          refine .inr ⟨t', ?_, ?_, .inl rfl⟩
          · show (ts ++ (t :: I))[j]? = _
            rw [List.getElem?_append_left hj]; exact q1
          · show (ds ++ (d :: J))[j]? = _
            rw [List.getElem?_append_left (hl ▸ hj)]; exact q2
      · rw [List.getElem?_append_right (by simpa using Nat.le_of_not_lt hj), List.length_set] at q1
        rw [List.getElem?_append_right (by simpa using hl ▸ Nat.le_of_not_lt hj), List.length_set] at q2
        rw [if_neg (by omega), if_neg hj]
        refine .inr ⟨t', ?_, ?_, .inl rfl⟩
        · show (ts ++ (t :: I))[j + 1]? = _
          rw [List.getElem?_append_right (by omega), show j + 1 - ts.length = (j - ts.length) + 1 by omega]; exact q1
        · show (ds ++ (d :: J))[j + 1]? = _
          rw [List.getElem?_append_right (by omega), show j + 1 - ds.length = (j - ds.length) + 1 by omega]; exact q2
  · match j, j' with
    | 0, 0 => exact absurd rfl ne
    | 0, j' + 1 =>
      have q : 0 = (if j' = k then ts.length + 1 else if j' < ts.length then j' + 1 else j' + 2) := q
      split at q <;> (try split at q) <;> omega
    | j + 1, 0 =>
      have q : (if j = k then ts.length + 1 else if j < ts.length then j + 1 else j + 2) = 0 := q
      split at q <;> (try split at q) <;> omega
    | j + 1, j' + 1 =>
      have q : (if j = k then ts.length + 1 else if j < ts.length then j + 1 else j + 2) = (if j' = k then ts.length + 1 else if j' < ts.length then j' + 1 else j' + 2) := q
      split at q <;> split at q <;> (try split at q) <;> (try split at q) <;> omega
theorem putA_some : ∀ {fds : List (Nat × D)} {f k : Nat} {v : D}, fidx (fds.map (·.1)) f = some k → k < fds.length ∧ (putA f v fds).map (·.1) = fds.map (·.1) ∧ (putA f v fds).map (·.2) = (fds.map (·.2)).set k v
  | [], f, k, v, h => by cases h
  | (g, w) :: r, f, k, v, h => by
    have h : (if g = f then some 0 else (fidx (r.map (·.1)) f).map (· + 1)) = some k := h
    unfold putA
    split at h
    · rename_i e
      cases h
      dsimp only
      rw [if_pos e]
      exact ⟨by simp, by simp [e], by simp⟩
    · rename_i e
      cases q : fidx (r.map (·.1)) f with
      | none => rw [q] at h; cases h
      | some j =>
        rw [q] at h
        cases h
        obtain ⟨h1, h2, h3⟩ := putA_some (v := v) q
        dsimp only
        rw [if_neg e]
        exact ⟨by simpa using h1, by simp [h2], by simp [h3]⟩
theorem putA_none : ∀ {fds : List (Nat × D)} {f : Nat} {v : D}, fidx (fds.map (·.1)) f = none → putA f v fds = fds ++ [(f, v)]
  | [], f, v, h => rfl
  | (g, w) :: r, f, v, h => by
    have h : (if g = f then some 0 else (fidx (r.map (·.1)) f).map (· + 1)) = none := h
    unfold putA
    split at h
    · cases h
    · rename_i e
      cases q : fidx (r.map (·.1)) f with
      | some j => rw [q] at h; cases h
      | none =>
        dsimp only
        rw [if_neg e, putA_none q]
        rfl
/-- the value v in front, the slot's thing taken before it -/
theorem Step.slotv {z z' : T} {y : D} (h : ρ[i]? = some (.val z)) (hd : r[i]? = some (.val y)) (e' : EOk ρ r) (rp : reps s (v :: eT ρ) (e :: eD r)) (x : exs s (v :: eT ρ) (e :: eD r))
    (k : reps s (z :: (v :: eT (ρ.set i .non))) (y :: (e :: eD r)) → exs s (z :: (v :: eT (ρ.set i .non))) (y :: (e :: eD r)) → Step s (z :: (v :: eT (ρ.set i .non))) (y :: (e :: eD r)) s' (z' :: eT (ρ.set i .non)) (y :: eD r)) :
    EOk (ρ.set i (.val z')) r ∧ Step s (v :: eT ρ) (e :: eD r) s' (eT (ρ.set i (.val z'))) (eD r) := by
  refine ⟨e'.set' fun y' hy' => by rw [hd] at hy'; cases hy'; trivial, ?_⟩
  obtain ⟨r1, r2⟩ := reps_cons.mp rp
  obtain ⟨_, _, _, x4⟩ := exs_cons.mp x
  have a : Step s (v :: eT ρ) (e :: eD r) s (v :: (z :: eT (ρ.set i .non))) (e :: (y :: eD r)) := (Step.take (i := i) (t := z) (d := y) (by simp [h, tOf]) (by simp [hd, dOf]) r2 x4 e'.len).frame (us := [v]) (es := [e]) (reps_cons.mpr ⟨r1, reps_nil⟩) x
  have b : Step s (v :: eT ρ) (e :: eD r) s (z :: (v :: eT (ρ.set i .non))) (y :: (e :: eD r)) := a.trans (Step.unrot (us := [z]) (es := [y]) rfl a.rp a.ex)
  have g := b.trans (k b.rp b.ex)
  have g2 := g.trans (Step.put (i := i) g.rp g.ex (by simp [e'.len]))
  rw [set_set', set_same hd] at g2
  exact g2
theorem setF_ok {P : Prg} {f : Nat} (h : setFN P i f v ρ = some ρ') (e' : EOk ρ r) (rp : reps s (v :: eT ρ) (e :: eD r)) (x : exs s (v :: eT ρ) (e :: eD r)) :
    ∃ y s', r[i]? = some (.val y) ∧ setF P y f e s = .ok () s' ∧ EOk ρ' r ∧ Step s (v :: eT ρ) (e :: eD r) s' (eT ρ') (eD r) := by
  unfold setFN at h
  split at h
  · rename_i c fs ts hs
    split at h
    · rename_i hc
      obtain ⟨y, y1, y2, y3⟩ := e'.val hs
      have hr := (reps_at.mp (reps_cons.mp rp).2).2 i _ y y2 y3
      obtain ⟨m, fds, rfl, q, rfl, z⟩ := rep_ins.mp hr
      have lz := reps_len z
      have lz' : ts.length = fds.length := by simpa using lz
      have hl : fds.length = (fds.map (·.1)).length := by simp
      have hset : setF P (.ref m) f e s = .ok () (s.set m (.ins c (putA f e fds))) := by
        unfold setF
        dsimp only
        rw [q]
        dsimp only
        rw [hl, if_pos hc]
      refine ⟨.ref m, _, y1, hset, ?_⟩
      split at h
      · rename_i k hk
        cases h
        obtain ⟨k1, k2, k3⟩ := putA_some (v := e) hk
        refine Step.slotv hs y1 e' rp x fun r1 x1 => ?_
        have a := Step.uncell (.ins true c _ ts) rfl q r1 x1
        have b := a.trans (Step.write (.ins c (putA f e fds)) a.rp a.ex)
        have b2 := b.trans (Step.pickSet (ts := ts) (ds := fds.map (·.2)) (t := v) (d := e) (k := k) (by omega) lz b.rp b.ex)
        refine b2.trans (Step.close (t := .ins true c (fds.map (·.1)) (ts.set k v)) (ob := .ins c (putA f e fds)) (.ins true c _ _) rfl ⟨_, rfl, k2⟩ (set_at q) ?_ (by simp [lz']) b2.rp b2.ex)
        exact k3
      · rename_i hk
        cases h
        have hp := putA_none (v := e) hk
        refine Step.slotv hs y1 e' rp x fun r1 x1 => ?_
        have a := Step.uncell (.ins true c _ ts) rfl q r1 x1
        have b := a.trans (Step.write (.ins c (putA f e fds)) a.rp a.ex)
        have hv : obv (.ins c (putA f e fds)) = fds.map (·.2) ++ [e] := by
          show (putA f e fds).map (·.2) = _
          rw [hp]; simp
        have cl := Step.close (t := .ins true c (fds.map (·.1) ++ [f]) (ts ++ [v])) (ob := .ins c (putA f e fds)) (I := eT (ρ.set i .non)) (J := eD r) (.ins true c _ _) rfl ⟨_, rfl, by rw [hp]; simp⟩ (set_at q) hv (by simp [lz']) (by rw [List.append_assoc, List.append_assoc]; exact b.rp) (by rw [List.append_assoc, List.append_assoc]; exact b.ex)
        rw [List.append_assoc, List.append_assoc] at cl
        exact b.trans cl
    · cases h
  · cases h
theorem setI_ok {j : D} (h : nseti t (.p j) v = some v') (hr : rep s t d) (hv : rep s v e) :
    ∃ s', setI d j e s = .ok () s' ∧ ∀ I J, reps s (t :: (v :: I)) (d :: (e :: J)) → exs s (t :: (v :: I)) (d :: (e :: J)) → Step s (t :: (v :: I)) (d :: (e :: J)) s' (v' :: I) (d :: J) := by
  unfold nseti at h
  split at h
  · rename_i j0 hj0
    cases hj0
    split at h
    · rename_i xs
      obtain ⟨m, rfl, q, z⟩ := rep_lp.mp hr
      split at h
      · rename_i k hk
        have kl : k < xs.length := by
          unfold L2.ixN at hk
          split at hk <;> split at hk <;> first | (cases hk; omega) | cases hk
        have hset : setI (.ref m) (.int j0) e s = .ok () (s.set m (.lst (xs.set k e))) := by
          simp only [setI, q, hk]
        split at h
        · rename_i x
          cases h
          obtain ⟨rfl, zx⟩ := rep_p.mp hv
          refine ⟨_, hset, fun I J r1 x1 => ?_⟩
          have a := Step.uncell_flat (.lp true xs) rfl q r1 x1
          have b := a.trans (Step.write (.lst (xs.set k e)) a.rp a.ex)
          have b2 : Step s (.lp true xs :: (.p e :: I)) (.ref m :: (e :: J)) _ (.cell true :: I) (.ref m :: J) := b.trans (Step.sub (fun i => match i with
            | 0 => 0
            | k + 1 => k + 2) b.rp b.ex (by have := reps_len b.rp; simp at this ⊢; omega) (fun i t1 d1 w1 w2 => by
              cases i with
              | zero => cases w1; cases w2; exact .inr ⟨_, rfl, rfl, .inl rfl⟩
              | succ i => exact .inr ⟨_, w1, w2, .inl rfl⟩) (fun i j t1 u1 ne w => by
              cases i <;> cases j <;> first | exact absurd rfl ne | (dsimp only at w; omega)))
          refine b2.trans (Step.close_flat (t := .lp true (xs.set k e)) (.lp true _) ⟨rfl, nrs_of fun y hy => ?_⟩ (set_at q) b2.rp b2.ex)
          rcases List.mem_or_eq_of_mem_set hy with hy | rfl
          · exact nrs_mem z hy
          · exact zx
        · cases h
          refine ⟨_, hset, fun I J r1 x1 => ?_⟩
          have a := Step.uncell_flat (.lp true xs) rfl q r1 x1
          have a2 := a.then (us := [.cell true]) (es := [.ref m]) rfl (Step.plains z (reps_cons.mp a.rp).2 (exs_cons.mp a.ex).2.2.2)
          have b := a2.trans (Step.write (.lst (xs.set k e)) a2.rp a2.ex)
          have b2 := b.trans (Step.pickSet (k := k) (by simpa using kl) (by simp) b.rp b.ex)
          exact b2.trans (Step.close (t := .lst true ((xs.map T.p).set k v)) (ob := .lst (xs.set k e)) (.lst true _) rfl ⟨_, rfl⟩ (set_at q) rfl (by simp) b2.rp b2.ex)
      · cases h
    · rename_i ts
      obtain ⟨m, ds, rfl, q, z⟩ := rep_lst.mp hr
      have lz := reps_len z
      split at h
      · rename_i k hk
        have kl : k < ts.length := by
          unfold L2.ixN at hk
          split at hk <;> split at hk <;> first | (cases hk; omega) | cases hk
        cases h
        have hset : setI (.ref m) (.int j0) e s = .ok () (s.set m (.lst (ds.set k e))) := by
          simp only [setI, q, ← lz, hk]
        refine ⟨_, hset, fun I J r1 x1 => ?_⟩
        have a := Step.uncell (.lst true ts) rfl q r1 x1
        have b := a.trans (Step.write (.lst (ds.set k e)) a.rp a.ex)
        have b2 := b.trans (Step.pickSet (ts := ts) (ds := ds) (k := k) kl lz b.rp b.ex)
        exact b2.trans (Step.close (t := .lst true (ts.set k v)) (ob := .lst (ds.set k e)) (.lst true _) rfl ⟨_, rfl⟩ (set_at q) rfl (by simp [lz]) b2.rp b2.ex)
      · cases h
    · cases h
  · cases h
end
end EW.EN

set_option Elab.async false
set_option linter.all false
set_option maxRecDepth 100000
set_option maxHeartbeats 4000000
/-! N layer 12: statements over trees are right; a def's run; a law. -/
namespace EW.EN
open PySem
section
variable {C : Nal} {Cm : Cal}
theorem fzP_ok (c : CalOk C Cm) {e : CE} {ρ : NEnv} {r : Env} {s : Sto} {x : D} (h : fzP C e ρ = some x) (ok : EOk ρ r) (rp : reps s (eT ρ) (eD r)) (ex : exs s (eT ρ) (eD r)) :
    ∃ s1, den Cm r e s = .ok x s1 ∧ nr x = true ∧ (∀ a, a < s.length → s1[a]? = s[a]?) ∧ Step s (eT ρ) (eD r) s1 (eT ρ) (eD r) := by
  unfold fzP at h
  have fr := Step.frzR ok (vars e) rp ex
  have q := snE c e true (frzR (vars e) ρ) r s ⟨ok.frzR _, fr.rp, fr.ex, fun _ => nOE_frzR _⟩
  split at h
  · rename_i x' ρ' z
    cases h
    rw [z] at q
    obtain ⟨d, s1, us, es, hw, ⟨rfl, rfl⟩, hl, h3, h4, h5⟩ := q
    have h4 : ρ' = frzR (vars e) ρ := h4 rfl
    subst h4
    obtain ⟨rfl, hn⟩ := rep_p.mp (reps_cons.mp h5.rp).1
    have b := Step.back_own ok rp ex (t := .p d) (by unfold dOwn; rfl) h5
    exact ⟨s1, hw, hn, fun a ha => h5.fr a ha (nOE_inOs (nOE_frzR _)), b.trans (Step.drop (us := [_]) (es := [_]) rfl b.rp b.ex)⟩
  · cases h
theorem frame1 {s s' : Sto} {v : T} {e : D} {I I' : List T} {J J' : List D} (st : Step s I J s' I' J') (rp : reps s (v :: I) (e :: J)) (x : exs s (v :: I) (e :: J)) : Step s (v :: I) (e :: J) s' (v :: I') (e :: J') :=
  st.frame (us := [v]) (es := [e]) (reps_cons.mpr ⟨(reps_cons.mp rp).1, reps_nil⟩) x
theorem seti_ok (c : CalOk C Cm) {o i : CE} {v : T} {e : D} {ρ ρ' : NEnv} {r : Env} {s : Sto} (h : setiN C o i v ρ = some ρ') (ok : EOk ρ r) (rp : reps s (v :: eT ρ) (e :: eD r)) (ex : exs s (v :: eT ρ) (e :: eD r)) :
    ∃ s', M.bind (den Cm r o) (fun x => M.bind (den Cm r i) fun y => setI x y e) s = .ok () s' ∧ EOk ρ' r ∧ Step s (v :: eT ρ) (e :: eD r) s' (eT ρ') (eD r) := by
  obtain ⟨r1, r2⟩ := reps_cons.mp rp
  obtain ⟨_, _, _, x4⟩ := exs_cons.mp ex
  unfold setiN at h
  cases hj : fzP C i ρ with
  | none => rw [hj] at h; cases h
  | some j =>
    rw [hj] at h
    dsimp only at h
    split at h
    · rename_i a
      split at h
      · rename_i t ht
        split at h
        · rename_i t' hs
          cases h
          obtain ⟨y, y1, y2, y3⟩ := ok.val ht
          obtain ⟨s1, e1, _, e3, e4⟩ := fzP_ok c hj ok r2 x4
          have f := frame1 e4 rp ex
          have hr := (reps_at.mp e4.rp).2 a t y y2 y3
          obtain ⟨s2, k1, k2⟩ := setI_ok hs hr (reps_cons.mp f.rp).1
          obtain ⟨p1, p2⟩ := Step.slotv ht y1 ok f.rp f.ex fun q1 q2 => k2 _ _ q1 q2
          refine ⟨s2, ?_, p1, f.trans p2⟩
          rw [bind_at (show den Cm r (.var a) s = .ok y s from (by show slotV r a s = _; unfold slotV; rw [y1])), bind_at e1]
          exact k1
        · cases h
      · cases h
    · rename_i a f
      split at h
      · rename_i t ρ1 k ht
        split at h
        · rename_i t' hs
          obtain ⟨m, c0, fds, fs, ts, d, g1, g2, g3, g4, g5, g6, g7, g8, g9, g10, g11⟩ := takeF_ok ht ok r2 x4
          obtain ⟨s1, e1, _, e3, e4⟩ := fzP_ok c hj ok r2 x4
          have fr := frame1 e4 rp ex
          obtain ⟨m', c0', fds', fs', ts', d', k1, k2, k3, k4, k5, k6, k7, k8, k9, k10, k11⟩ := takeF_ok ht ok e4.rp e4.ex
          rw [g1] at k1; cases k1
          rw [e3 m (lt_some g2), g2] at k2; cases k2
          rw [g4] at k4; cases k4
          have b1 := fr.trans (frame1 k11 fr.rp fr.ex)
          have b2 : Step s (v :: eT ρ) (e :: eD r) s1 ([t, v] ++ eT ρ1) ([d, e] ++ eD r) := b1.trans (Step.unrot (us := [t]) (es := [d]) rfl b1.rp b1.ex)
          obtain ⟨rq1, rq2⟩ := reps_app_inv (ts := [t, v]) (ds := [d, e]) rfl b2.rp
          obtain ⟨x1, x2, x3, _⟩ := (exs_app (ts := [t, v]) (ds := [d, e]) rfl).mp b2.ex
          obtain ⟨s2, w1, w2⟩ := setI_ok hs (reps_cons.mp rq1).1 (reps_cons.mp (reps_cons.mp rq1).2).1
          have o1 := w2 [] [] rq1 x1
          have b3 := b2.trans (Step.frameR rfl o1 rq2 b2.ex)
          have hm1 : s1[m]? = some (.ins c0 fds) := (e3 m (lt_some g2)).trans g2
          have hm2 : s2[m]? = some (.ins c0 fds) := by
            rw [o1.fr m (lt_some hm1) fun q => x3 m q ?_]
            · exact hm1
            · subst k6
              refine inFs_at.mpr ⟨a, _, .ref m, by simp [List.getElem?_set, k9]; rfl, by simp [g1, dOf], ?_⟩
              exact (NodeT.ins true c0 fs' _).inF.mpr (.inl rfl)
          have hs1 : ρ1[a]? = some (.val (.ins true c0 fs' (ts'.set k .hole))) := by subst k6; simp [List.getElem?_set, k9]
          have hu : ρ' = ρ1.set a (.val (.ins true c0 fs' ((ts'.set k .hole).set k t'))) := by
            unfold putF at h
            rw [hs1] at h
            exact (Option.some.inj h).symm
          subst hu
          obtain ⟨p1, p2⟩ := putF_ok (t := t') hs1 g1 hm2 k5 g4 k10 b3.rp b3.ex
          refine ⟨s2, ?_, p1, b3.trans p2⟩
          have hv : den Cm r (.fld (.var a) f) s = .ok d s := by
            show M.bind (slotV r a) (fun x => getF Cm.P x f) s = _
            rw [bind_at (show slotV r a s = .ok (.ref m) s by unfold slotV; rw [g1]), c.P]
            exact g3
          rw [bind_at hv, bind_at e1]
          exact w1
        · cases h
      · cases h
    · rename_i a e2
      split at h
      · rename_i n ts hn ht
        split at h
        · rename_i k hk
          split at h
          · rename_i t hkt
            split at h
            · rename_i t' hs
              cases h
              obtain ⟨y, y1, y2, y3⟩ := ok.val ht
              obtain ⟨s1, e1, _, e3, e4⟩ := fzP_ok c hn ok r2 x4
              have f1 := frame1 e4 rp ex
              obtain ⟨s2, u1, _, u3, u4⟩ := fzP_ok c hj ok e4.rp e4.ex
              have f2 := f1.trans (frame1 u4 f1.rp f1.ex)
              have hr1 := (reps_at.mp e4.rp).2 a _ y y2 y3
              obtain ⟨m, ds, rfl, q, z⟩ := rep_lst.mp hr1
              have lz := reps_len z
              obtain ⟨d, hd⟩ : ∃ d, ds[k]? = some d := ⟨_, List.getElem?_eq_getElem (lz ▸ (List.getElem?_eq_some_iff.mp hkt).1)⟩
              have hm2 : s2[m]? = some (.lst ds) := (u3 m (lt_some q)).trans q
              have hit : den Cm r (.ix (.var a) e2) s = .ok d s1 := by
                show M.bind (slotV r a) (fun x => M.bind (den Cm r e2) fun y => item x y) s = _
                rw [bind_at (show slotV r a s = .ok (.ref m) s by unfold slotV; rw [y1]), bind_at e1]
                exact item_ref (lst_at' q) (atI_of (lz ▸ hk) hd)
              have hv2 := (reps_cons.mp f2.rp).1
              have hz2 := (reps_at.mp u4.rp).2 a _ _ y2 y3
              obtain ⟨m', ds', e', q', z'⟩ := rep_lst.mp hz2
              cases e'
              rw [hm2] at q'; cases q'
              obtain ⟨s3, k1, k2⟩ := setI_ok hs ((reps_at.mp z').2 k t d hkt hd) hv2
              obtain ⟨p1, p2⟩ := Step.slotv (z' := .lst true (ts.set k t')) ht y1 ok f2.rp f2.ex fun q1 q2 => by
                have a1 := Step.uncell (.lst true ts) rfl hm2 q1 q2
                have a2 := a1.trans (Step.pickOut hkt hd lz a1.rp a1.ex)
                have a3 := a2.then (us := [t]) (es := [d]) rfl (Step.rot (us := .cell true :: ts.set k .hole) (es := .ref m :: ds) (by simp [lz]) (reps_cons.mp a2.rp).2 (exs_cons.mp a2.ex).2.2.2)
                have a3 : Step s2 _ _ s2 ([t, v] ++ (.cell true :: (ts.set k .hole ++ eT (ρ.set a .non)))) ([d, e] ++ (.ref m :: (ds ++ eD r))) := a3
                obtain ⟨rq1, rq2⟩ := reps_app_inv (ts := [t, v]) (ds := [d, e]) rfl a3.rp
                obtain ⟨x1, x2, x3, _⟩ := (exs_app (ts := [t, v]) (ds := [d, e]) rfl).mp a3.ex
                have o1 := k2 [] [] rq1 x1
                have a4 := a3.trans (Step.frameR rfl o1 rq2 a3.ex)
                have hm3 : s3[m]? = some (.lst ds) := by
                  rw [o1.fr m (lt_some hm2) fun q => x3 m q (inFs_cons.mpr (.inl ((FlatT.cell true).inF.mpr rfl)))]
                  exact hm2
                have a5 := a4.trans (Step.unrot (us := .cell true :: ts.set k .hole) (es := .ref m :: ds) (by simp [lz]) a4.rp a4.ex)
                have a6 := a5.trans (Step.pickIn (ts := ts.set k .hole) (ds := ds) (k := k) hd (by simp [lz]) a5.rp a5.ex)
                rw [List.set_set] at a6
                exact a6.trans (Step.close (t := .lst true (ts.set k t')) (ob := .lst ds) (.lst true _) rfl ⟨_, rfl⟩ hm3 rfl (by simp [lz]) a6.rp a6.ex)
              refine ⟨s3, ?_, p1, f2.trans p2⟩
              rw [bind_at hit, bind_at u1]
              exact k1
            · cases h
          · cases h
        · cases h
      · cases h
    · cases h

/-! ### statements -/
def Lk (lock : List Nat) (r' r : Env) : Prop := r'.length = r.length ∧ ∀ i ∈ lock, r'[i]? = r[i]?
theorem Lk.refl {lock : List Nat} {r : Env} : Lk lock r r := ⟨rfl, fun _ _ => rfl⟩
theorem Lk.trans {lock : List Nat} {r r1 r2 : Env} (a : Lk lock r1 r) (b : Lk lock r2 r1) : Lk lock r2 r := ⟨b.1.trans a.1, fun i h => (b.2 i h).trans (a.2 i h)⟩
def GdS (s0 : Sto) (A : List T) (B : List D) (r : Env) (lock : List Nat) (q : NSr) (w : SRes) : Prop := match q with
  | .nx ρ => ∃ r' s', w = .nx r' s' ∧ EOk ρ r' ∧ Lk lock r' r ∧ Step s0 A B s' (eT ρ) (eD r')
  | .rt t ρ => ∃ d s' r', w = .rt d s' ∧ EOk ρ r' ∧ Lk lock r' r ∧ Step s0 A B s' (t :: eT ρ) (d :: eD r')
  | .ex x ρ => ∃ r' s', w = .ex x r' s' ∧ EOk ρ r' ∧ Lk lock r' r ∧ Step s0 A B s' (eT ρ) (eD r')
  | .no => True
section
variable {s0 s : Sto} {A : List T} {B : List D} {r r1 : Env} {ρ : NEnv} {lock : List Nat} {F : NEnv → Prop}
theorem GdS.from {q : NSr} {w : SRes} (st : Step s0 A B s (eT ρ) (eD r1)) (lk : Lk lock r1 r) (h : GdS s (eT ρ) (eD r1) r1 lock q w) : GdS s0 A B r lock q w := by
  cases q with
  | nx ρ =>
    obtain ⟨r', s', h1, h2, h3, h4⟩ := h
    exact ⟨r', s', h1, h2, lk.trans h3, st.trans h4⟩
  | rt t ρ =>
    obtain ⟨d, s', r', h1, h2, h3, h4⟩ := h
    exact ⟨d, s', r', h1, h2, lk.trans h3, st.trans h4⟩
  | ex x ρ =>
    obtain ⟨r', s', h1, h2, h3, h4⟩ := h
    exact ⟨r', s', h1, h2, lk.trans h3, st.trans h4⟩
  | no => trivial
theorem GdS.lift {α β : Type} {R : α → β → List T → List D → Prop} {q : NR α} {m : M β} {k : α → NEnv → NSr} {g : β → Sto → SRes} (h : Gd R s0 A B r F q (m s))
    (hk : ∀ a b ρ s' us es, R a b us es → us.length = es.length → EOk ρ r → Step s0 A B s' (us ++ eT ρ) (es ++ eD r) → GdS s0 A B r lock (k a ρ) (g b s')) : GdS s0 A B r lock (nlift q k) (EW.lift m r g s) := by
  cases q with
  | ok a ρ =>
    obtain ⟨b, s', us, es, e, h1, h2, h3, _, h5⟩ := h
    show GdS s0 A B r lock (k a ρ) (EW.lift m r g s)
    unfold EW.lift
    rw [e]
    exact hk a b ρ s' us es h1 h2 h3 h5
  | exc x ρ =>
    obtain ⟨s', e, h3, h5⟩ := h
    show GdS s0 A B r lock (.ex x ρ) (EW.lift m r g s)
    unfold EW.lift
    rw [e]
    exact ⟨r, s', rfl, h3, Lk.refl, h5⟩
  | no => trivial
end
/-- no locked slot holds an error -/
def NoX (lock : List Nat) (r : Env) : Prop := ∀ i ∈ lock, ∀ x, r[i]? ≠ some (.exc x)
theorem Lk.nox {lock : List Nat} {r r' : Env} (h : Lk lock r' r) (n : NoX lock r) : NoX lock r' := fun i hi x q => n i hi x ((h.2 i hi).symm.trans q)
def SnS (C : Nal) (Cm : Cal) (st : CS) : Prop := ∀ (ρ : NEnv) (r : Env) (s : Sto), St false s ρ r → NoX C.lock r → GdS s (eT ρ) (eD r) r C.lock (msem C st ρ) (sem Cm r s st)
def SnSs (C : Nal) (Cm : Cal) (st : CSs) : Prop := ∀ (ρ : NEnv) (r : Env) (s : Sto), St false s ρ r → NoX C.lock r → GdS s (eT ρ) (eD r) r C.lock (msems C st ρ) (sems Cm r s st)
theorem mE_ok (c : CalOk C Cm) (e : CE) {ρ : NEnv} {r : Env} {s : Sto} (st : St false s ρ r) : Gd RT s (eT ρ) (eD r) r (Fz false ρ) (mE C e ρ) (den Cm r e s) := opnd_ok (snE c e) st
/-- a value found, then a statement's end -/
theorem e_lift (c : CalOk C Cm) {e : CE} {ρ : NEnv} {r : Env} {s : Sto} (st : St false s ρ r) {k : T → NEnv → NSr} {g : D → Sto → SRes}
    (hk : ∀ t d ρ1 s1, rep s1 t d → EOk ρ1 r → Step s (eT ρ) (eD r) s1 (t :: eT ρ1) (d :: eD r) → GdS s (eT ρ) (eD r) r C.lock (k t ρ1) (g d s1)) : GdS s (eT ρ) (eD r) r C.lock (nlift (mE C e ρ) k) (lift (den Cm r e) r g s) :=
  GdS.lift (mE_ok c e st) fun t d ρ1 s1 us es h1 h2 h3 h4 => by
    obtain ⟨rfl, rfl⟩ := h1
    exact hk t d ρ1 s1 (reps_cons.mp h4.rp).1 h3 h4
theorem St.of {s0 s : Sto} {A : List T} {B : List D} {ρ : NEnv} {r : Env} (st : Step s0 A B s (eT ρ) (eD r)) (e : EOk ρ r) : St false s ρ r := ⟨e, st.rp, st.ex, fun h => Bool.noConfusion h⟩
theorem drop1 {s0 s : Sto} {A : List T} {B : List D} {ρ : NEnv} {r : Env} {t : T} {d : D} (st : Step s0 A B s (t :: eT ρ) (d :: eD r)) : Step s0 A B s (eT ρ) (eD r) := st.trans (Step.drop (us := [t]) (es := [d]) rfl st.rp st.ex)
theorem mT_ok (c : CalOk C Cm) (e : CE) {ρ : NEnv} {r : Env} {s : Sto} (st : St false s ρ r) : Gd RC s (eT ρ) (eD r) r (fun _ => True) (mT C e ρ) (M.bind (den Cm r e) tru s) := by
  unfold mT
  cases hio : hasIo C.Q e with
  | true =>
    dsimp only
    refine Gd.bind (mE_ok c e st) fun t d ρ1 s1 us es h1 h2 h3 h4 h5 => ?_
    obtain ⟨rfl, rfl⟩ := h1
    cases h : ntru t with
    | none => trivial
    | some k => exact ⟨k, s1, [], [], ntru_ok (reps_cons.mp h5.rp).1 h, ⟨rfl, rfl, rfl⟩, rfl, h3, trivial, drop1 h5⟩
  | false =>
    dsimp only
    have fr := Step.frzR st.ok (vars e) st.rp st.ex
    have q := snE c e true (frzR (vars e) ρ) r s ⟨st.ok.frzR (vars e), fr.rp, fr.ex, fun _ => nOE_frzR (vars e)⟩
    cases z : mden C e true (frzR (vars e) ρ) with
    | ok t ρ' =>
      rw [z] at q
      obtain ⟨d, s1, us, es, e1, ⟨rfl, rfl⟩, h2, h3, h4, h5⟩ := q
      dsimp only
      cases h : ntru t with
      | none => trivial
      | some k =>
        refine ⟨k, s1, [], [], ?_, ⟨rfl, rfl, rfl⟩, rfl, st.ok, trivial, Step.back_exc st.ok st.rp st.ex h5⟩
        rw [bind_at e1]
        exact ntru_ok (reps_cons.mp h5.rp).1 h
    | exc x ρ' =>
      rw [z] at q
      obtain ⟨s1, e1, h3, h5⟩ := q
      refine ⟨s1, ?_, st.ok, Step.back_exc st.ok st.rp st.ex h5⟩
      have e1 : den Cm r e s = .exc x s1 := e1
      unfold M.bind
      rw [e1]
    | no => trivial
theorem lift_lift {α β : Type} {m : M α} {f : α → M β} {r : Env} {g : β → Sto → SRes} {s : Sto} : EW.lift (M.bind m f) r g s = EW.lift m r (fun a s1 => EW.lift (f a) r g s1) s := by
  unfold EW.lift M.bind
  cases m s <;> rfl
theorem lift_at {α : Type} {m : M α} {a : α} {r : Env} {g : α → Sto → SRes} {s s1 : Sto} (h : m s = .ok a s1) : EW.lift m r g s = g a s1 := by
  unfold EW.lift
  rw [h]
theorem for_ok {tg : Tg} {bN : NEnv → NSr} {bM : Env → Sto → SRes} {us xs : List T} {es : List D} {it : Itr} (hl : us.length = es.length) (src : ∀ s', reps s' us es → Src us es xs it s')
    (hb : ∀ (ρ : NEnv) (r : Env) (s : Sto), St false s ρ r → NoX C.lock r → GdS s (eT ρ) (eD r) r C.lock (bN ρ) (bM r s)) :
    ∀ (ys pre : List T) (ρ : NEnv) (r : Env) (s : Sto), xs = pre ++ ys → EOk ρ r → NoX C.lock r → reps s (us ++ eT ρ) (es ++ eD r) → exs s (us ++ eT ρ) (es ++ eD r) →
      GdS s (us ++ eT ρ) (es ++ eD r) r C.lock (mfor bN C.lock tg ys ρ) (forGo it tg bM ys.length pre.length r s)
  | [], pre, ρ, r, s, hx, e, nx, rp, x => by
    have sr := src s (reps_app_inv hl rp).1
    refine ⟨r, s, ?_, e, Lk.refl, Step.drop hl rp x⟩
    show (if it.fin s then SRes.nx r s else .no) = _
    rw [if_pos sr.fin]
  | y :: ys, pre, ρ, r, s, hx, e, nx, rp, x => by
    have sr := src s (reps_app_inv hl rp).1
    obtain ⟨hy, d, hd, hst⟩ := sr.get pre.length y (by rw [hx]; simp)
    have st1 := hst _ _ rp x
    have st2 := st1.trans (Step.unrot hl st1.rp st1.ex)
    obtain ⟨q1, q2⟩ := reps_app_inv hl st2.rp
    obtain ⟨_, q4, _, _⟩ := (exs_app hl).mp st2.ex
    unfold mfor
    cases z : bindN C.lock tg y ρ with
    | none => trivial
    | some ρ1 =>
      obtain ⟨r1, h1, h2, h3, h4, h5⟩ := bindN_ok z e q2 q4
      have st3 := st2.then hl h3
      obtain ⟨w1, w2⟩ := reps_app_inv hl st3.rp
      obtain ⟨_, w4, _, _⟩ := (exs_app hl).mp st3.ex
      have lk : Lk C.lock r1 r := ⟨h4.len, h5⟩
      have g := hb ρ1 r1 s ⟨h2, w2, w4, fun h => Bool.noConfusion h⟩ (lk.nox nx)
      have go : ∀ w, (match bM r1 s with
          | .nx r2 s2 => forGo it tg bM ys.length (pre.length + 1) r2 s2
          | q => q) = w → forGo it tg bM (y :: ys).length pre.length r s = w := fun w hw => by
        show (match it.at_ pre.length s with
          | none => SRes.no
          | some x => match bindT tg x r s with
            | .ok r1 s1 => match bM r1 s1 with
              | .nx r2 s2 => forGo it tg bM ys.length (pre.length + 1) r2 s2
              | q => q
            | _ => .no) = w
        rw [hd]
        dsimp only
        rw [h1]
        exact hw
      dsimp only
      cases w : bN ρ1 with
      | nx ρ2 =>
        rw [w] at g
        obtain ⟨r2, s2, g1, g2, g3, g4⟩ := g
        have st4 := st3.then hl g4
        have ih := for_ok (tg := tg) hl src hb ys (pre ++ [y]) ρ2 r2 s2 (by rw [hx]; simp) g2 ((lk.trans g3).nox nx) st4.rp st4.ex
        rw [go _ rfl, g1]
        dsimp only
        rw [show pre.length + 1 = (pre ++ [y]).length by simp]
        -- the start is the loop's own start
        cases v : mfor bN C.lock tg ys ρ2 with
        | nx ρ3 => rw [v] at ih; obtain ⟨r', s', i1, i2, i3, i4⟩ := ih; exact ⟨r', s', i1, i2, (lk.trans g3).trans i3, st4.trans i4⟩
        | rt t ρ3 => rw [v] at ih; obtain ⟨d', s', r', i1, i2, i3, i4⟩ := ih; exact ⟨d', s', r', i1, i2, (lk.trans g3).trans i3, st4.trans i4⟩
        | ex t ρ3 => rw [v] at ih; obtain ⟨r', s', i1, i2, i3, i4⟩ := ih; exact ⟨r', s', i1, i2, (lk.trans g3).trans i3, st4.trans i4⟩
        | no => trivial
      | rt t ρ2 =>
        rw [w] at g
        obtain ⟨d', s2, r2, g1, g2, g3, g4⟩ := g
        have st4 := st3.then hl g4
        refine ⟨d', s2, r2, ?_, g2, lk.trans g3, st4.trans (Step.drop hl st4.rp st4.ex)⟩
        rw [go _ rfl, g1]
      | ex t ρ2 =>
        rw [w] at g
        obtain ⟨r2, s2, g1, g2, g3, g4⟩ := g
        have st4 := st3.then hl g4
        refine ⟨r2, s2, ?_, g2, lk.trans g3, st4.trans (Step.drop hl st4.rp st4.ex)⟩
        rw [go _ rfl, g1]
      | no => trivial
theorem wh_ok {cN : NEnv → NR Bool} {cM : Env → M Bool} {bN : NEnv → NSr} {bM : Env → Sto → SRes}
    (hc : ∀ (ρ : NEnv) (r : Env) (s : Sto), St false s ρ r → Gd RC s (eT ρ) (eD r) r (fun _ => True) (cN ρ) (cM r s))
    (hb : ∀ (ρ : NEnv) (r : Env) (s : Sto), St false s ρ r → NoX C.lock r → GdS s (eT ρ) (eD r) r C.lock (bN ρ) (bM r s)) :
    ∀ (n : Nat) (ρ : NEnv) (r : Env) (s : Sto), St false s ρ r → NoX C.lock r → GdS s (eT ρ) (eD r) r C.lock (mwh cN bN n ρ) (whGo cM bM n r s)
  | 0, ρ, r, s, st, nx => trivial
  | n + 1, ρ, r, s, st, nx => by
    have g := hc ρ r s st
    unfold mwh whGo
    cases w : cN ρ with
    | ok b ρ1 =>
      rw [w] at g
      obtain ⟨b', s1, us, es, g1, ⟨rfl, rfl, rfl⟩, _, g2, _, g3⟩ := g
      rw [g1]
      cases b with
      | false => exact ⟨r, s1, rfl, g2, Lk.refl, g3⟩
      | true =>
        dsimp only
        have g4 := hb ρ1 r s1 (St.of (A := eT ρ) (B := eD r) g3 g2) nx
        cases v : bN ρ1 with
        | nx ρ2 =>
          rw [v] at g4
          obtain ⟨r2, s2, k1, k2, k3, k4⟩ := g4
          rw [k1]
          exact GdS.from (ρ := ρ2) (Step.trans g3 k4) k3 (wh_ok hc hb n ρ2 r2 s2 (St.of k4 k2) (k3.nox nx))
        | rt t ρ2 =>
          rw [v] at g4
          obtain ⟨d, s2, r2, k1, k2, k3, k4⟩ := g4
          rw [k1]
          exact ⟨d, s2, r2, rfl, k2, k3, Step.trans g3 k4⟩
        | ex x ρ2 =>
          rw [v] at g4
          obtain ⟨r2, s2, k1, k2, k3, k4⟩ := g4
          rw [k1]
          exact ⟨r2, s2, rfl, k2, k3, Step.trans g3 k4⟩
        | no => trivial
    | exc x ρ1 =>
      rw [w] at g
      obtain ⟨s1, g1, g2, g3⟩ := g
      rw [g1]
      exact ⟨r, s1, rfl, g2, Lk.refl, g3⟩
    | no => trivial
theorem EOk.setNN {ρ : NEnv} {r : Env} (e : EOk ρ r) {o : Option Nat} {z : Sl} {y : Slot} (h : SlOk z y) : EOk (setNN ρ o z) (setN r o y) := by
  cases o with
  | none => exact e
  | some i => exact e.set h
theorem Lk.setN {lock : List Nat} {r : Env} {o : Option Nat} {y : Slot} (h : inLock lock o = false) : Lk lock (setN r o y) r := by
  cases o with
  | none => exact Lk.refl
  | some i =>
    refine ⟨by simp [EW.setN], fun j hj => List.getElem?_set_ne fun e => ?_⟩
    subst e
    have : lock.contains i = true := List.contains_iff_mem.mpr hj
    rw [show inLock lock (some i) = lock.contains i from rfl, this] at h
    cases h
/-- a slot is set to what is no value -/
theorem Step.setNo {s : Sto} {ρ : NEnv} {r : Env} {o : Option Nat} {z : Sl} {y : Slot} (e : EOk ρ r) (hz : tOf z = .hole) (rp : reps s (eT ρ) (eD r)) (x : exs s (eT ρ) (eD r)) : Step s (eT ρ) (eD r) s (eT (setNN ρ o z)) (eD (setN r o y)) := by
  cases o with
  | none => exact Step.refl rp x
  | some i =>
    refine Step.sub id rp x (by simp [EN.setNN, EW.setN, e.len]) (fun j t' d' h1 h2 => ?_) (fun i j t' u' ne h => absurd h ne)
    rw [show EN.setNN ρ (some i) z = ρ.set i z from rfl, eT_set, hz, List.getElem?_set] at h1
    rw [show EW.setN r (some i) y = r.set i y from rfl, eD_set, List.getElem?_set] at h2
    split at h1
    · split at h1
      · cases h1; exact .inl rfl
      · cases h1
    · rename_i hj
      rw [if_neg hj] at h2
      exact .inr ⟨t', h1, h2, .inl rfl⟩
theorem EOk.clr {ρ : NEnv} {r : Env} (e : EOk ρ r) : EOk (clrN ρ) (clrX r) := by
  refine ⟨by simp [clrN, clrX, e.len], fun i z y h1 h2 => ?_⟩
  unfold clrN at h1
  unfold clrX at h2
  rw [List.getElem?_map] at h1 h2
  cases q1 : ρ[i]? with
  | none => rw [q1] at h1; cases h1
  | some z0 =>
    cases q2 : r[i]? with
    | none => rw [q2] at h2; cases h2
    | some y0 =>
      rw [q1] at h1; rw [q2] at h2
      cases h1; cases h2
      have := e.ok i z0 y0 q1 q2
      cases z0 <;> cases y0 <;> first | trivial | exact this
theorem Step.clr {s : Sto} {ρ : NEnv} {r : Env} (e : EOk ρ r) (rp : reps s (eT ρ) (eD r)) (x : exs s (eT ρ) (eD r)) : Step s (eT ρ) (eD r) s (eT (clrN ρ)) (eD (clrX r)) := by
  have h1 : eT (clrN ρ) = eT ρ := by
    unfold eT clrN
    rw [List.map_map]
    apply List.map_congr_left
    intro z _
    cases z <;> rfl
  have h2 : eD (clrX r) = eD r := by
    unfold eD clrX
    rw [List.map_map]
    apply List.map_congr_left
    intro z _
    cases z <;> rfl
  rw [h1, h2]
  exact Step.refl rp x
/-- the slots that are locked hold values: clearing errors leaves them -/
theorem Lk.clr {lock : List Nat} {r r1 : Env} (h : Lk lock r1 r) (hv : ∀ i ∈ lock, ∀ x, r1[i]? ≠ some (.exc x)) : Lk lock (clrX r1) r := by
  refine ⟨by simp [clrX, h.1], fun i hi => ?_⟩
  rw [← h.2 i hi]
  unfold clrX
  rw [List.getElem?_map]
  cases q : r1[i]? with
  | none => rfl
  | some y =>
    cases y with
    | exc x => exact (hv i hi x q).elim
    | _ => rfl

mutual
theorem snS (c : CalOk C Cm) : ∀ st : CS, SnS C Cm st
  | .expr e => fun ρ r s st nx => e_lift c st fun t d ρ1 s1 h1 h2 h3 => ⟨r, s1, rfl, h2, Lk.refl, drop1 h3⟩
  | .asg tg e => fun ρ r s st nx => by
      show GdS s (eT ρ) (eD r) r C.lock _ (EW.lift (M.bind (den Cm r e) fun x => bindT tg x r) r (fun r1 s1 => .nx r1 s1) s)
      rw [lift_lift]
      refine e_lift c st fun t d ρ1 s1 h1 h2 h3 => ?_
      split
      · rename_i ρ2 hb
        obtain ⟨r1, b1, b2, b3, b4, b5⟩ := bindN_ok hb h2 h3.rp h3.ex
        rw [lift_at b1]
        exact ⟨r1, s1, rfl, b2, ⟨b4.len, b5⟩, h3.trans b3⟩
      · trivial
  | .setf o f e => fun ρ r s st nx => by
      show GdS s (eT ρ) (eD r) r C.lock _ (EW.lift (M.bind (den Cm r e) fun v => M.bind (den Cm r o) fun x => setF Cm.P x f v) r (fun _ s1 => .nx r s1) s)
      rw [lift_lift]
      refine e_lift c st fun t d ρ1 s1 h1 h2 h3 => ?_
      split
      · rename_i i
        split
        · rename_i ρ2 hf
          obtain ⟨y, s2, k1, k2, k3, k4⟩ := setF_ok hf h2 h3.rp h3.ex
          rw [lift_at (show M.bind (den Cm r (.var i)) (fun x => setF Cm.P x f d) s1 = .ok () s2 by
            rw [bind_at (show den Cm r (.var i) s1 = .ok y s1 from (by show slotV r i s1 = _; unfold slotV; rw [k1])), c.P]; exact k2)]
          exact ⟨r, s2, rfl, k3, Lk.refl, h3.trans k4⟩
        · trivial
      · trivial
  | .seti o i e => fun ρ r s st nx => by
      show GdS s (eT ρ) (eD r) r C.lock _ (EW.lift (M.bind (den Cm r e) fun v => M.bind (den Cm r o) fun x => M.bind (den Cm r i) fun y => setI x y v) r (fun _ s1 => .nx r s1) s)
      rw [lift_lift]
      refine e_lift c st fun t d ρ1 s1 h1 h2 h3 => ?_
      split
      · rename_i ρ2 hf
        obtain ⟨s2, k1, k2, k3⟩ := seti_ok c hf h2 h3.rp h3.ex
        rw [lift_at k1]
        exact ⟨r, s2, rfl, k2, Lk.refl, h3.trans k3⟩
      · trivial
  | .deli _ _ => fun ρ r s st nx => trivial
  | .ret e => fun ρ r s st nx => by
      show GdS s (eT ρ) (eD r) r C.lock (match retV C e ρ with
        | some (t, ρ1) => .rt t ρ1
        | none => nlift (mE C e ρ) fun t ρ => .rt t ρ) (EW.lift (den Cm r e) r (fun v s1 => .rt v s1) s)
      cases h : retV C e ρ with
      | some p =>
        obtain ⟨t, ρ1⟩ := p
        unfold retV at h
        split at h
        · split at h
          · cases h
          · split at h
            · rename_i hs
              cases h
              obtain ⟨d, d1, d2, d3⟩ := st.ok.val hs
              rw [lift_at (show den Cm r (.var _) s = .ok d s from (by show slotV r _ s = _; unfold slotV; rw [d1]))]
              exact ⟨d, s, r, rfl, st.ok.set' fun _ _ => trivial, Lk.refl, Step.take d2 d3 st.rp st.ex st.ok.len⟩
            · cases h
        · cases h
      | none => exact e_lift c st fun t d ρ1 s1 h1 h2 h3 => ⟨d, s1, r, rfl, h2, Lk.refl, h3⟩
  | .retn => fun ρ r s st nx => ⟨.non, s, r, rfl, st.ok, Lk.refl, Step.plain st.rp st.ex rfl⟩
  | .ite e a b => fun ρ r s st nx => by
      have g := mT_ok c e st
      show GdS s (eT ρ) (eD r) r C.lock (nlift (mT C e ρ) fun k ρ => (match k with
        | true => msems C a ρ
        | false => msems C b ρ)) (match M.bind (den Cm r e) tru s with
        | .ok k s1 => if k = true then sems Cm r s1 a else sems Cm r s1 b
        | .exc x s1 => .ex x r s1
        | .no => .no)
      cases w : mT C e ρ with
      | ok k ρ1 =>
        rw [w] at g
        obtain ⟨b', s1, us, es, g1, ⟨rfl, rfl, rfl⟩, _, g2, _, g3⟩ := g
        rw [g1]
        cases k with
        | true => exact GdS.from (ρ := ρ1) g3 Lk.refl (snSs c a ρ1 r s1 (St.of (A := eT ρ) (B := eD r) g3 g2) nx)
        | false => exact GdS.from (ρ := ρ1) g3 Lk.refl (snSs c b ρ1 r s1 (St.of (A := eT ρ) (B := eD r) g3 g2) nx)
      | exc x ρ1 =>
        rw [w] at g
        obtain ⟨s1, g1, g2, g3⟩ := g
        rw [g1]
        exact ⟨r, s1, rfl, g2, Lk.refl, g3⟩
      | no => trivial
  | .forS tg k src b => fun ρ r s st nx => by
      have g := snEs c src false ρ r s st
      show GdS s (eT ρ) (eD r) r C.lock (nlift (mdens C src false ρ) fun vs ρ => (match nIt k vs with
        | some xs => mfor (fun ρ => msems C b ρ) C.lock tg xs ρ
        | none => .no)) (match M.bind (dens Cm r src) (mkIt k) s with
        | .ok it s1 => forGo it tg (fun r s => sems Cm r s b) it.n 0 r s1
        | .exc x s1 => .ex x r s1
        | .no => .no)
      cases w : mdens C src false ρ with
      | ok vs ρ1 =>
        rw [w] at g
        obtain ⟨ds, s1, us, es, g1, ⟨rfl, rfl⟩, gl, g2, _, g3⟩ := g
        show GdS s (eT ρ) (eD r) r C.lock (match nIt k us with
          | some xs => mfor (fun ρ => msems C b ρ) C.lock tg xs ρ1
          | none => .no) _
        split
        · rename_i xs hx
          obtain ⟨it, us', es', m1, m2, m3, m4⟩ := nIt_ok hx (reps_app_inv gl g3.rp).1
          have b1 := g3.trans (m3 _ _ g3.rp g3.ex)
          rw [bind_at g1, m1]
          have hn : it.n = xs.length := (m4 s1 (reps_app_inv m2 b1.rp).1).n
          dsimp only
          rw [hn]
          have q := for_ok (C := C) (tg := tg) (bM := fun r s => sems Cm r s b) m2 m4 (fun ρ r s st nx => snSs c b ρ r s st nx) xs [] ρ1 r s1 rfl g2 nx b1.rp b1.ex
          cases v : mfor (fun ρ => msems C b ρ) C.lock tg xs ρ1 with
          | nx ρ3 => rw [v] at q; obtain ⟨r', s', i1, i2, i3, i4⟩ := q; exact ⟨r', s', i1, i2, i3, b1.trans i4⟩
          | rt t ρ3 => rw [v] at q; obtain ⟨d', s', r', i1, i2, i3, i4⟩ := q; exact ⟨d', s', r', i1, i2, i3, b1.trans i4⟩
          | ex t ρ3 => rw [v] at q; obtain ⟨r', s', i1, i2, i3, i4⟩ := q; exact ⟨r', s', i1, i2, i3, b1.trans i4⟩
          | no => trivial
        · trivial
      | exc x ρ1 =>
        rw [w] at g
        obtain ⟨s1, g1, g2, g3⟩ := g
        have : M.bind (dens Cm r src) (mkIt k) s = .exc x s1 := by unfold M.bind; rw [g1]
        rw [this]
        exact ⟨r, s1, rfl, g2, Lk.refl, g3⟩
      | no => trivial
  | .whl e b => fun ρ r s st nx => by
      show GdS s (eT ρ) (eD r) r C.lock (mwh (mT C e) (fun ρ => msems C b ρ) C.L ρ) (whGo (fun r => M.bind (den Cm r e) tru) (fun r s => sems Cm r s b) Cm.L r s)
      rw [c.L]
      exact wh_ok (fun ρ r s st => mT_ok c e st) (fun ρ r s st nx => snSs c b ρ r s st nx) _ ρ r s st nx
  | .tryS b cl nm h => fun ρ r s st nx => by
      show GdS s (eT ρ) (eD r) r C.lock (if inLock C.lock nm = true then .no else (match msems C b ρ with
        | .ex x ρ1 => (match C.Q.P.sub x.c cl with
          | some true => (match msems C h (setNN ρ1 nm (.exc x)) with
            | .nx ρ2 => .nx (setNN (clrN ρ2) nm .non)
            | .rt t ρ2 => .rt t ρ2
            | _ => .no)
          | some false => .ex x ρ1
          | none => .no)
        | q => q)) (match sems Cm r s b with
        | .ex x r1 s1 => match Cm.P.sub x.c cl with
          | some true => (match sems Cm (setN r1 nm (.exc x)) s1 h with
            | .nx r2 s2 => .nx (setN (clrX r2) nm .non) s2
            | .rt d s2 => .rt d s2
            | _ => .no)
          | some false => .ex x r1 s1
          | none => .no
        | q => q)
      split
      · trivial
      · rename_i hlk
        have hlk : inLock C.lock nm = false := by cases z : inLock C.lock nm with
          | true => exact (hlk z).elim
          | false => rfl
        have g := snSs c b ρ r s st nx
        cases w : msems C b ρ with
        | nx ρ1 =>
          rw [w] at g
          obtain ⟨r', s', g1, g2⟩ := g
          rw [g1]
          exact ⟨r', s', rfl, g2⟩
        | rt t ρ1 =>
          rw [w] at g
          obtain ⟨d, s', r', g1, g2⟩ := g
          rw [g1]
          exact ⟨d, s', r', rfl, g2⟩
        | no => trivial
        | ex x ρ1 =>
          rw [w] at g
          obtain ⟨r1, s1, g1, g2, g3, g4⟩ := g
          rw [g1, c.P]
          dsimp only
          cases hs : C.Q.P.sub x.c cl with
          | none => trivial
          | some v =>
            cases v with
            | false => exact ⟨r1, s1, rfl, g2, g3, g4⟩
            | true =>
              dsimp only
              have e1 := g2.setNN (o := nm) (z := .exc x) (y := .exc x) rfl
              have st1 := g4.trans (Step.setNo (o := nm) (z := .exc x) (y := .exc x) g2 rfl g4.rp g4.ex)
              have lk1 : Lk C.lock (setN r1 nm (.exc x)) r := g3.trans (Lk.setN hlk)
              have q := snSs c h (setNN ρ1 nm (.exc x)) (setN r1 nm (.exc x)) s1 (St.of st1 e1) (lk1.nox nx)
              cases w2 : msems C h (setNN ρ1 nm (.exc x)) with
              | nx ρ2 =>
                rw [w2] at q
                obtain ⟨r2, s2, q1, q2, q3, q4⟩ := q
                rw [q1]
                have st2 := st1.trans q4
                have st3 := st2.trans (Step.clr q2 st2.rp st2.ex)
                have lk2 := lk1.trans q3
                exact ⟨_, s2, rfl, q2.clr.setNN trivial, (lk2.clr (lk2.nox nx)).trans (Lk.setN hlk), st3.trans (Step.setNo q2.clr rfl st3.rp st3.ex)⟩
              | rt t ρ2 =>
                rw [w2] at q
                obtain ⟨d, s2, r2, q1, q2, q3, q4⟩ := q
                rw [q1]
                exact ⟨d, s2, r2, rfl, q2, lk1.trans q3, st1.trans q4⟩
              | ex y ρ2 => trivial
              | no => trivial
  | .raise cl => fun ρ r s st nx => by
      show GdS s (eT ρ) (eD r) r C.lock (if C.Q.P.xr cl = true then .ex ⟨cl, []⟩ ρ else .no) (if Cm.P.xr cl = true then .ex ⟨cl, []⟩ r s else .no)
      rw [c.P]
      split
      · exact ⟨r, s, rfl, st.ok, Lk.refl, Step.refl st.rp st.ex⟩
      · trivial
  | .raiseC cl f e => fun ρ r s st nx => e_lift c st fun t d ρ1 s1 h1 h2 h3 => by
      split
      · obtain ⟨rfl, _⟩ := rep_p.mp h1
        exact ⟨r, s1, rfl, h2, Lk.refl, drop1 h3⟩
      · trivial
  | .nop => fun ρ r s st nx => ⟨r, s, rfl, st.ok, Lk.refl, Step.refl st.rp st.ex⟩
theorem snSs (c : CalOk C Cm) : ∀ st : CSs, SnSs C Cm st
  | .nil => fun ρ r s st nx => ⟨r, s, rfl, st.ok, Lk.refl, Step.refl st.rp st.ex⟩
  | .cons a b => fun ρ r s st nx => by
      have g := snS c a ρ r s st nx
      show GdS s (eT ρ) (eD r) r C.lock (match msem C a ρ with
        | .nx ρ1 => msems C b ρ1
        | q => q) (match sem Cm r s a with
        | .nx r1 s1 => sems Cm r1 s1 b
        | q => q)
      cases w : msem C a ρ with
      | nx ρ1 =>
        rw [w] at g
        obtain ⟨r', s', g1, g2, g3, g4⟩ := g
        rw [g1]
        exact GdS.from g4 g3 (snSs c b ρ1 r' s' (St.of g4 g2) (g3.nox nx))
      | rt t ρ1 =>
        rw [w] at g
        obtain ⟨d, s', r', g1, g2⟩ := g
        rw [g1]
        exact ⟨d, s', r', rfl, g2⟩
      | ex x ρ1 =>
        rw [w] at g
        obtain ⟨r', s', g1, g2⟩ := g
        rw [g1]
        exact ⟨r', s', rfl, g2⟩
      | no => trivial
end
end
/-! ### a def's run -/
theorem map_tOf (ts : List T) : ts.map (tOf ∘ Sl.val) = ts := by
  induction ts with
  | nil => rfl
  | cons t ts ih => rw [List.map_cons, ih]; rfl
theorem map_dOf (ts : List D) : ts.map (dOf ∘ Slot.val) = ts := by
  induction ts with
  | nil => rfl
  | cons t ts ih => rw [List.map_cons, ih]; rfl
theorem start_ok {s : Sto} {n : Nat} {ts : List T} {ds : List D} (rp : reps s ts ds) (x : exs s ts ds) : EOk (mstart n ts) (start n ds) ∧ Step s ts ds s (eT (mstart n ts)) (eD (start n ds)) := by
  have hl := reps_len rp
  have e1 : eT (mstart n ts) = ts ++ List.replicate (n - ts.length) .hole := by
    unfold eT mstart
    rw [List.map_append, List.map_map, List.map_replicate, map_tOf]
    rfl
  have e2 : eD (start n ds) = ds ++ List.replicate (n - ds.length) .non := by
    unfold eD start
    rw [List.map_append, List.map_map, List.map_replicate, map_dOf]
    rfl
  constructor
  · refine ⟨by simp [mstart, start, hl], fun i z y h1 h2 => ?_⟩
    unfold mstart at h1
    unfold start at h2
    by_cases hi : i < ts.length
    · rw [List.getElem?_append_left (by simpa using hi), List.getElem?_map, List.getElem?_eq_getElem hi] at h1
      rw [List.getElem?_append_left (by simpa using hl ▸ hi), List.getElem?_map, List.getElem?_eq_getElem (hl ▸ hi)] at h2
      cases h1; cases h2; trivial
    · rw [List.getElem?_append_right (by simpa using Nat.le_of_not_lt hi), List.getElem?_replicate] at h1
      split at h1
      · cases h1; trivial
      · cases h1
  · rw [e1, e2]
    refine Step.sub id rp x (by simp [hl]) (fun i t' d' h1 h2 => ?_) (fun i j _ _ ne h => absurd h ne)
    by_cases hi : i < ts.length
    · rw [List.getElem?_append_left hi] at h1
      rw [List.getElem?_append_left (hl ▸ hi)] at h2
      exact .inr ⟨t', h1, h2, .inl rfl⟩
    · rw [List.getElem?_append_right (Nat.le_of_not_lt hi), List.getElem?_replicate] at h1
      split at h1
      · cases h1; exact .inl rfl
      · cases h1
theorem start_val {n : Nat} {ds : List D} {i : Nat} (h : i < ds.length) : (start n ds)[i]? = some (.val ds[i]) := by
  unfold start
  rw [List.getElem?_append_left (by simpa using h), List.getElem?_map, List.getElem?_eq_getElem h]
  rfl
theorem nox_start {io : List Nat} {n : Nat} {ds : List D} : NoX io (start n ds) := fun i _ x q => by
  unfold start at q
  by_cases hi : i < ds.length
  · rw [List.getElem?_append_left (by simpa using hi), List.getElem?_map, List.getElem?_eq_getElem hi] at q
    cases q
  · rw [List.getElem?_append_right (by simpa using Nat.le_of_not_lt hi), List.getElem?_replicate] at q
    split at q <;> cases q
/-- what a def leaves of what it was handed -/
theorem outs_ok {s0 s : Sto} {A us : List T} {B es ds : List D} {ρ : NEnv} {r : Env} {io : List Nat} {np n : Nat} (hl : us.length = es.length) (hn : ds.length = np) (e : EOk ρ r) (lk : Lk io r (start n ds)) (st : Step s0 A B s (us ++ eT ρ) (es ++ eD r)) : Step s0 A B s (us ++ outsOf io np ρ) (es ++ ds) := by
  obtain ⟨r1, r2⟩ := reps_app_inv hl st.rp
  obtain ⟨_, x2, _, _⟩ := (exs_app hl).mp st.ex
  refine st.then hl (Step.sub id r2 x2 (by simp [outsOf, hn]) (fun i t' d' h1 h2 => ?_) (fun i j _ _ ne h => absurd h ne))
  have hi : i < np := hn ▸ (List.getElem?_eq_some_iff.mp h2).1
  unfold outsOf at h1
  rw [List.getElem?_map, List.getElem?_range hi] at h1
  have h1 : (if io.contains i then (match ρ[i]? with
    | some z => tOf z
    | none => T.hole) else .hole) = t' := Option.some.inj h1
  split at h1
  · rename_i hc
    cases q : ρ[i]? with
    | none => rw [q] at h1; exact .inl h1.symm
    | some z =>
      rw [q] at h1
      have h1 : tOf z = t' := h1
      refine .inr ⟨t', by simp [q, h1], ?_, .inl rfl⟩
      have := lk.2 i (List.contains_iff_mem.mp hc)
      rw [start_val (hn ▸ hi)] at this
      have hd : ds[i]'(hn ▸ hi) = d' := by
        rw [List.getElem?_eq_getElem (hn ▸ hi)] at h2
        exact Option.some.inj h2
      rw [hd] at this
      simp [this, dOf]
  · exact .inl h1.symm
theorem run_ok (Q : NP) (L : Nat) : ∀ (n f : Nat) (args : List T) (vs : List D) (s : Sto), reps s args vs → exs s args vs → match mrun Q L n f args with
    | .ok t outs => ∃ d s', run Q.P L n f vs s = .ok d s' ∧ Step s args vs s' (t :: outs) (d :: vs)
    | .exc x outs => ∃ s', run Q.P L n f vs s = .exc x s' ∧ Step s args vs s' outs vs
    | .no => True
  | 0, f, args, vs, s, rp, x => trivial
  | n + 1, f, args, vs, s, rp, x => by
    have hl := reps_len rp
    unfold mrun
    cases hq : Q.P.fns[f]? with
    | none => trivial
    | some q =>
      dsimp only
      by_cases hnp : args.length = q.np
      · rw [if_pos hnp]
        have c : CalOk ⟨Q, L, Q.io f, mrun Q L n⟩ ⟨Q.P, L, run Q.P L n⟩ := ⟨rfl, rfl, fun f args vs s rp x => run_ok Q L n f args vs s rp x⟩
        obtain ⟨e, st⟩ := start_ok (n := q.ns) rp x
        have g := snSs c q.body (mstart q.ns args) (start q.ns vs) s (St.of st e) nox_start
        have hr : run Q.P L (n + 1) f vs s = endOf (sems ⟨Q.P, L, run Q.P L n⟩ (start q.ns vs) s q.body) := by
          show (match Q.P.fns[f]? with
            | some q => if vs.length = q.np then endOf (sems ⟨Q.P, L, run Q.P L n⟩ (start q.ns vs) s q.body) else .no
            | none => .no) = _
          rw [hq]
          dsimp only
          rw [if_pos (hl ▸ hnp)]
        rw [hr]
        have hv : vs.length = q.np := hl ▸ hnp
        cases w : msems ⟨Q, L, Q.io f, mrun Q L n⟩ q.body (mstart q.ns args) with
        | nx ρ =>
          rw [w] at g
          obtain ⟨r', s', g1, g2, g3, g4⟩ := g
          rw [g1]
          have o := outs_ok (us := []) (es := []) (io := Q.io f) rfl hv g2 g3 (st.trans g4)
          exact ⟨.non, s', rfl, o.trans (Step.plain o.rp o.ex rfl)⟩
        | rt t ρ =>
          rw [w] at g
          obtain ⟨d, s', r', g1, g2, g3, g4⟩ := g
          rw [g1]
          exact ⟨d, s', rfl, outs_ok (us := [t]) (es := [d]) (io := Q.io f) rfl hv g2 g3 (st.trans g4)⟩
        | ex y ρ =>
          rw [w] at g
          obtain ⟨r', s', g1, g2, g3, g4⟩ := g
          rw [g1]
          exact ⟨s', rfl, outs_ok (us := []) (es := []) (io := Q.io f) rfl hv g2 g3 (st.trans g4)⟩
        | no => trivial
      · rw [if_neg hnp]
        trivial
/-- a law's run, by trees -/
theorem law_of_trees {Q : NP} {L n f : Nat} {xs : List Int} {outs : List T} (h : mrun Q L n f [.rol (xs.map .int)] = .ok (.p (.bl true)) outs) : ∃ s', run Q.P L n f [.ref 0] [.rol (xs.map .int)] = .ok (.bl true) s' := by
  have q := run_ok Q L n f [.rol (xs.map .int)] [.ref 0] [.rol (xs.map .int)] (reps_cons.mpr ⟨rep_rol.mpr ⟨0, rfl, rfl, nrs_ints xs⟩, reps_nil⟩) (exs_cons.mpr ⟨(FlatT.rol _).ex, fun a o => (by unfold inO at o; exact o.elim), fun a o => (inOs_nil o).elim, exs_nil⟩)
  rw [h] at q
  obtain ⟨d, s', h1, h2⟩ := q
  obtain ⟨rfl, _⟩ := rep_p.mp (reps_cons.mp h2.rp).1
  exact ⟨s', h1⟩
end EW.EN

set_option Elab.async false
set_option linter.all false
set_option maxRecDepth 100000
set_option maxHeartbeats 4000000
/-! N layer 13: reckoning over trees from the wish back. -/
namespace EW.EN
open PySem
def nresP {α : Type} (q : NR α) (K : α → NEnv → Prop) (E : Exn → NEnv → Prop) : Prop := match q with
  | .ok a ρ => K a ρ
  | .exc x ρ => E x ρ
  | .no => False
structure Wn {α : Type} (q : NR α) (K : α → NEnv → Prop) (E : Exn → NEnv → Prop) : Prop where
  go : nresP q K E
def crP (q : CR) (K : T → List T → Prop) (E : Exn → List T → Prop) : Prop := match q with
  | .ok t o => K t o
  | .exc x o => E x o
  | .no => False
/-- a call: a wall -/
structure Wc (q : CR) (K : T → List T → Prop) (E : Exn → List T → Prop) : Prop where
  go : crP q K E
def nsrP (q : NSr) (N : NEnv → Prop) (R : T → NEnv → Prop) (E : Exn → NEnv → Prop) : Prop := match q with
  | .nx ρ => N ρ
  | .rt t ρ => R t ρ
  | .ex x ρ => E x ρ
  | .no => False
structure Wst (q : NSr) (N : NEnv → Prop) (R : T → NEnv → Prop) (E : Exn → NEnv → Prop) : Prop where
  go : nsrP q N R E
structure Nx (p : Prop) : Prop where
  go : p
def iteQ (b : Bool) (p q : Prop) : Prop := (b = true → p) ∧ (b = false → q)
def ownP (b : Bool) (p q : Prop) : Prop := match b with
  | true => p
  | false => q
def optP {α : Type} (o : Option α) (K : α → Prop) : Prop := match o with
  | some a => K a
  | none => False
theorem optP_ok {α : Type} {o : Option α} {K : α → Prop} (h : optP o K) : ∃ a, o = some a ∧ K a := by
  cases o with
  | none => exact h.elim
  | some a => exact ⟨a, rfl, h⟩
def binN (op : BO) (x y : T) (K : T → Prop) : Prop := match op, x, y with
  | .mul, .p (.int i), .p (.int j) => mulOk i j = true ∧ K (.p (.int (i * j)))
  | .fdiv, .p (.int i), .p (.int j) => (0 < j ∧ j.natAbs.log2 < 9000) ∧ K (.p (.int (i / j)))
  | .mod, .p (.int i), .p (.int j) => 0 < j ∧ K (.p (.int (i % j)))
  | .pow, .p (.int i), .p (.int j) => (0 ≤ j ∧ j ≤ 1000000 ∧ i.natAbs < 2 ^ 64) ∧ K (.p (.int (i ^ j.toNat)))
  | .shl, .p (.int i), .p (.int j) => (0 ≤ j ∧ (Builtin.Int.intBits i : Int) + j ≤ 2 ^ 27) ∧ K (.p (.int (i * 2 ^ j.toNat)))
  | .shr, .p (.int i), .p (.int j) => 0 ≤ j ∧ K (.p (.int (i / 2 ^ j.toNat)))
  | .add, .p (.str x), .p (.str y) => x.length + y.length ≤ sizeLine ∧ K (.p (.str (x ++ y)))
  | .add, .p (.tup x), .p (.tup y) => x.length + y.length ≤ sizeLine ∧ K (.p (.tup (x ++ y)))
  | .mul, .p (.str x), .p (.int j) => (0 ≤ j ∧ j ≤ sizeLine ∧ x.length * j.toNat ≤ sizeLine) ∧ K (.p (.str (List.replicate j.toNat x).flatten))
  | .mul, .p (.tup x), .p (.int j) => (x ≠ [] ∧ 1 ≤ j ∧ j ≤ 1000 ∧ x.length ≤ 1000) ∧ K (.p (.tup (List.replicate j.toNat x).flatten))
  | .add, .lp _ x, .lp _ y => x.length + y.length ≤ sizeLine ∧ K (.lp true (x ++ y))
  | op, x, y => optP (nbin op x y) K
theorem binN_ok {op : BO} {x y : T} {K : T → Prop} (h : binN op x y K) : ∃ t, nbin op x y = some t ∧ K t := by
  unfold binN at h
  split at h
  case h_12 => exact optP_ok h
  case h_11 =>
    obtain ⟨h1, h2⟩ := h
    exact ⟨_, if_pos h1, h2⟩
  all_goals
    obtain ⟨h1, h2⟩ := h
    refine ⟨_, ?_, h2⟩
    simp only [nbin, bin]
    rw [if_pos h1]
def cmpN (op : CO) (x y : T) (K : Bool → Prop) : Prop := match op, x, y with
  | .eq, .p (.int i), .p (.int j) => K (decide (i = j))
  | .ne, .p (.int i), .p (.int j) => K (!decide (i = j))
  | .lt, .p (.int i), .p (.int j) => K (decide (i < j))
  | .le, .p (.int i), .p (.int j) => K (decide (i ≤ j))
  | .gt, .p (.int i), .p (.int j) => K (decide (j < i))
  | .ge, .p (.int i), .p (.int j) => K (decide (j ≤ i))
  | .is, .p (.int _), .p .non => K false
  | .is, .p .non, .p .non => K true
  | .isnot, .p (.int _), .p .non => K true
  | .isnot, .p .non, .p .non => K false
  | op, x, y => optP (ncmp op x y) K
theorem neq_int (i j : Int) : neq (.p (.int i)) (.p (.int j)) = some (decide (i = j)) := by
  have : neq (.p (.int i)) (.p (.int j)) = peq [] (.int i) (.int j) := by
    unfold neq peq ntoPd
    rfl
  rw [this]
  unfold peq toPd
  dsimp only
  rw [if_pos (by rfl)]
  congr 1
theorem cmpN_ok {op : CO} {x y : T} {K : Bool → Prop} (h : cmpN op x y K) : ∃ k, ncmp op x y = some k ∧ K k := by
  unfold cmpN at h
  split at h
  case h_1 => exact ⟨_, neq_int _ _, h⟩
  case h_2 => exact ⟨_, by simp only [ncmp, neq_int, Option.map], h⟩
  case h_11 => exact optP_ok h
  all_goals exact ⟨_, rfl, h⟩
def truN (x : T) (K : Bool → Prop) : Prop := match x with
  | .p (.bl b) => K b
  | x => optP (ntru x) K
theorem truN_ok {x : T} {K : Bool → Prop} (h : truN x K) : ∃ b, ntru x = some b ∧ K b := by
  unfold truN at h
  split at h
  · exact ⟨_, rfl, h⟩
  · exact optP_ok h
def callQ (C : Nal) (f n : Nat) (as : List Ar) (K : T → NEnv → Prop) (E : Exn → NEnv → Prop) (ρ : NEnv) : Prop := match takes as ρ with
  | some (ts, ρ1) => (match C.Q.P.dfl f n with
    | [] => ts.length = C.Q.P.np f ∧ Wc (C.call f ts) (fun t o => optP (puts as o ρ1) (K t)) (fun x o => optP (puts as o ρ1) (E x))
    | ds => (nrs ds = true ∧ (ts ++ ds.map T.p).length = C.Q.P.np f) ∧ Wc (C.call f (ts ++ ds.map T.p)) (fun t o => optP (puts as o ρ1) (K t)) (fun x o => optP (puts as o ρ1) (E x)))
  | none => False
theorem callQ_ok {C : Nal} {f n : Nat} {as : List Ar} {K : T → NEnv → Prop} {E : Exn → NEnv → Prop} {ρ : NEnv} (h : callQ C f n as K E ρ) : nresP (ncall C f n as ρ) K E := by
  unfold callQ at h
  unfold ncall
  split at h
  · rename_i ts ρ1 q
    try rw [q]
    try dsimp only
    have g : (nrs (C.Q.P.dfl f n) = true ∧ (ts ++ (C.Q.P.dfl f n).map T.p).length = C.Q.P.np f) ∧ Wc (C.call f (ts ++ (C.Q.P.dfl f n).map T.p)) (fun t o => optP (puts as o ρ1) (K t)) (fun x o => optP (puts as o ρ1) (E x)) := by
      split at h
      · rename_i q2
        rw [q2]
        simp only [List.map_nil, List.append_nil]
        exact ⟨⟨rfl, h.1⟩, h.2⟩
      · exact h
    rw [if_pos g.1]
    have w := g.2.go
    cases z : C.call f (ts ++ (C.Q.P.dfl f n).map T.p) with
    | ok t o =>
      rw [z] at w
      obtain ⟨ρ2, e1, e2⟩ := optP_ok (show optP (puts as o ρ1) (K t) from w)
      dsimp only
      rw [e1]
      exact e2
    | exc x o =>
      rw [z] at w
      obtain ⟨ρ2, e1, e2⟩ := optP_ok (show optP (puts as o ρ1) (E x) from w)
      dsimp only
      rw [e1]
      exact e2
    | no => rw [z] at w; exact w.elim
  · exact h.elim
/-- a new instance: its __init__ is called -/
def makeQ (C : Nal) (c f n : Nat) (as : List Ar) (K : T → NEnv → Prop) (E : Exn → NEnv → Prop) (ρ : NEnv) : Prop := match takes as ρ with
  | some (ts, ρ1) => (match C.Q.P.dfl f n with
    | [] => (T.ins true c [] [] :: ts).length = C.Q.P.np f ∧ Wc (C.call f (T.ins true c [] [] :: ts)) (fun t o => t = .p .non ∧ optP o.head? fun z => optP (puts as o.tail ρ1) (K z)) (fun x o => optP o.head? fun _ => optP (puts as o.tail ρ1) (E x))
    | ds => (nrs ds = true ∧ (T.ins true c [] [] :: (ts ++ ds.map T.p)).length = C.Q.P.np f) ∧ Wc (C.call f (T.ins true c [] [] :: (ts ++ ds.map T.p))) (fun t o => t = .p .non ∧ optP o.head? fun z => optP (puts as o.tail ρ1) (K z)) (fun x o => optP o.head? fun _ => optP (puts as o.tail ρ1) (E x)))
  | none => False
theorem makeQ_ok {C : Nal} {c f n : Nat} {as : List Ar} {K : T → NEnv → Prop} {E : Exn → NEnv → Prop} {ρ : NEnv} (h : makeQ C c f n as K E ρ) : nresP (match takes as ρ with
      | some (ts, ρ1) => if nrs (C.Q.P.dfl f n) = true ∧ (T.ins true c [] [] :: (ts ++ (C.Q.P.dfl f n).map T.p)).length = C.Q.P.np f then (match C.call f (T.ins true c [] [] :: (ts ++ (C.Q.P.dfl f n).map T.p)) with
        | .ok (.p .non) (o :: outs) => (match puts as outs ρ1 with
          | some ρ2 => NR.ok o ρ2
          | none => .no)
        | .exc x (o :: outs) => (match puts as outs ρ1 with
          | some ρ2 => .exc x ρ2
          | none => .no)
        | _ => .no) else .no
      | none => .no) K E := by
  unfold makeQ at h
  cases q : takes as ρ with
  | some p =>
    obtain ⟨ts, ρ1⟩ := p
    rw [q] at h
    dsimp only at h ⊢
    have g : (nrs (C.Q.P.dfl f n) = true ∧ (T.ins true c [] [] :: (ts ++ (C.Q.P.dfl f n).map T.p)).length = C.Q.P.np f) ∧ Wc (C.call f (T.ins true c [] [] :: (ts ++ (C.Q.P.dfl f n).map T.p))) (fun t o => t = .p .non ∧ optP o.head? fun z => optP (puts as o.tail ρ1) (K z)) (fun x o => optP o.head? fun _ => optP (puts as o.tail ρ1) (E x)) := by
      split at h
      · rename_i q2
        rw [q2]
        simp only [List.map_nil, List.append_nil]
        exact ⟨⟨rfl, h.1⟩, h.2⟩
      · exact h
    rw [if_pos g.1]
    have w := g.2.go
    cases z : C.call f (T.ins true c [] [] :: (ts ++ (C.Q.P.dfl f n).map T.p)) with
    | ok t o =>
      rw [z] at w
      obtain ⟨rfl, w⟩ := w
      cases o with
      | nil => exact w.elim
      | cons o outs =>
        obtain ⟨ρ2, e1, e2⟩ := optP_ok (show optP (puts as outs ρ1) (K o) from w)
        dsimp only
        rw [e1]
        exact e2
    | exc x o =>
      rw [z] at w
      cases o with
      | nil => exact w.elim
      | cons o outs =>
        obtain ⟨ρ2, e1, e2⟩ := optP_ok (show optP (puts as outs ρ1) (E x) from w)
        dsimp only
        rw [e1]
        exact e2
    | no => rw [z] at w; exact w.elim
  | none => rw [q] at h; exact h.elim
theorem nresP_mono {α : Type} {q : NR α} {K K' : α → NEnv → Prop} {E E' : Exn → NEnv → Prop} (h : nresP q K E) (k : ∀ a ρ, K a ρ → K' a ρ) (e : ∀ x ρ, E x ρ → E' x ρ) : nresP q K' E' := by
  cases q with
  | ok a ρ => exact k a ρ h
  | exc x ρ => exact e x ρ h
  | no => exact h
theorem nresP_bind {α β : Type} {q : NR α} {f : α → NEnv → NR β} {K : β → NEnv → Prop} {E : Exn → NEnv → Prop} (h : nresP q (fun a ρ => nresP (f a ρ) K E) E) : nresP (NR.bind q f) K E := by
  cases q with
  | ok a ρ => exact h
  | exc x ρ => exact h
  | no => exact h
theorem nresP_opt {α : Type} {o : Option α} {K : α → NEnv → Prop} {E : Exn → NEnv → Prop} {ρ : NEnv} (h : ∃ a, o = some a ∧ K a ρ) : nresP (NR.opt o ρ) K E := by
  obtain ⟨a, rfl, k⟩ := h
  exact k
theorem nresP_optm {α β : Type} {o : Option α} {g : α → β} {K : β → NEnv → Prop} {E : Exn → NEnv → Prop} {ρ : NEnv} (h : ∃ a, o = some a ∧ K (g a) ρ) : nresP (NR.opt (o.map g) ρ) K E := by
  obtain ⟨a, rfl, k⟩ := h
  exact k
/-- an operand -/
def opP (f : Bool → (Exn → NEnv → Prop) → (T → NEnv → Prop) → NEnv → Prop) (io : Bool) (vs : List Nat) (fz : Bool) (E : Exn → NEnv → Prop) (K : T → NEnv → Prop) (ρ : NEnv) : Prop := match fz with
  | true => f true E K ρ
  | false => match io with
    | true => f false E K ρ
    | false => f true (fun x _ => E x ρ) (fun t _ => ownP (dOwn t) (K t ρ) (K t (frzOn vs ρ))) (frzR vs ρ)
/-- a comprehension: a wall -/
def lcBo (C : Nal) (tg : Tg) (cond : CEs) (elt : CE) (fz : Bool) : T → NEnv → NR (Option T) := fun x ρ => match bindN C.lock tg x ρ with
  | some ρ => NR.bind (mdenC C cond fz ρ) fun b ρ => if b = true then NR.bind (opnd (mden C elt) (hasIo C.Q elt) (vars elt) fz ρ) fun y ρ => .ok (some y) ρ else .ok none ρ
  | none => .no
structure LcN (C : Nal) (tg : Tg) (cond : CEs) (elt : CE) (fz : Bool) (own : List Nat) (xs acc : List T) (ρ : NEnv) (K : List T → NEnv → Prop) : Prop where
  go : nresP (nlcGo (lcBo C tg cond elt fz) own xs acc ρ) K (fun _ _ => False)
def lcBo2 (C : Nal) (tg : Tg) (cond : CEs) (own1 : List Nat) (tg1 : Tg) (k1 : IK) (src1 cond1 : CEs) (elt : CE) (fz : Bool) : T → List T → NEnv → NR (List T) := fun x acc ρ => match bindN C.lock tg x ρ with
  | some ρ => NR.bind (mdenC C cond fz ρ) fun b ρ => if b = true then NR.bind (mdens C src1 fz ρ) fun vs1 ρ => (match nIt k1 vs1 with
      | some ys => nlcGo (lcBo C tg1 cond1 elt fz) own1 ys acc ρ
      | none => .no) else .ok acc ρ
  | none => .no
structure Lc2N (C : Nal) (tg : Tg) (cond : CEs) (own1 : List Nat) (tg1 : Tg) (k1 : IK) (src1 cond1 : CEs) (elt : CE) (fz : Bool) (own : List Nat) (xs acc : List T) (ρ : NEnv) (K : List T → NEnv → Prop) : Prop where
  go : nresP (nlcOut (lcBo2 C tg cond own1 tg1 k1 src1 cond1 elt fz) own xs acc ρ) K (fun _ _ => False)
def plcOf (fz c : Bool) (e : CE) : Option Nat := match fz, c, e with
  | false, true, .var i => some i
  | _, _, _ => none
theorem margs_cons (C : Nal) (e : CE) (es : CEs) (io : List Nat) (j : Nat) (fz : Bool) (ρ : NEnv) : margs C (.cons e es) io j fz ρ = NR.bind (match plcOf fz (io.contains j) e with
    | some i => (match ρ[i]? with
      | some (.val _) => .ok (.plc i) ρ
      | _ => .no)
    | none => NR.bind (opnd (mden C e) (hasIo C.Q e) (vars e) fz ρ) fun x ρ => .ok (.val x) ρ) fun a ρ => NR.bind (margs C es io (j + 1) fz ρ) fun as ρ => .ok (a :: as) ρ := by
  show NR.bind (match fz, io.contains j, e with
    | false, true, .var i => (match ρ[i]? with
      | some (.val _) => NR.ok (Ar.plc i) ρ
      | _ => NR.no)
    | _, _, _ => NR.bind (opnd (mden C e) (hasIo C.Q e) (vars e) fz ρ) fun x ρ => NR.ok (Ar.val x) ρ) (fun a ρ => NR.bind (margs C es io (j + 1) fz ρ) fun as ρ => NR.ok (a :: as) ρ) = _
  generalize io.contains j = c
  cases fz <;> cases c <;> cases e <;> rfl
mutual
def vE (C : Nal) : CE → Bool → (Exn → NEnv → Prop) → (T → NEnv → Prop) → NEnv → Prop
  | .var i, fz, E, K, ρ => (match ρ[i]? with
    | some (.val t) => (match fz with
      | true => K t ρ
      | false => K (frz t) (ρ.set i (.val (frz t))))
    | _ => False)
  | .non, _, _, K, ρ => K (.p .non) ρ
  | .bl b, _, _, K, ρ => K (.p (.bl b)) ρ
  | .int i, _, _, K, ρ => K (.p (.int i)) ρ
  | .str x, _, _, K, ρ => K (.p (.str x)) ρ
  | .con g, _, _, K, ρ => nr (C.Q.P.con g) = true ∧ K (.p (C.Q.P.con g)) ρ
  | .bin op a b, fz, E, K, ρ => opP (vE C a) (hasIo C.Q a) (vars a) fz E (fun x ρ => opP (vE C b) (hasIo C.Q b) (vars b) fz E (fun y ρ => binN op x y fun t => K t ρ) ρ) ρ
  | .neg a, fz, E, K, ρ => opP (vE C a) (hasIo C.Q a) (vars a) fz E (fun x ρ => match x with
    | .p (.int i) => K (.p (.int (-i))) ρ
    | _ => False) ρ
  | .nt a, fz, E, K, ρ => opP (vE C a) (hasIo C.Q a) (vars a) fz E (fun x ρ => truN x fun b => K (.p (.bl (!b))) ρ) ρ
  | .andl es, fz, E, K, ρ => vAnd C es fz E K ρ
  | .orl es, fz, E, K, ρ => vOr C es fz E K ρ
  | .cmp op a b, fz, E, K, ρ => opP (vE C a) (hasIo C.Q a) (vars a) fz E (fun x ρ => opP (vE C b) (hasIo C.Q b) (vars b) fz E (fun y ρ => cmpN op x y fun k => K (.p (.bl k)) ρ) ρ) ρ
  | .chn op op2 a b c, fz, E, K, ρ => opP (vE C a) (hasIo C.Q a) (vars a) fz E (fun x ρ => opP (vE C b) (hasIo C.Q b) (vars b) fz E (fun y ρ => cmpN op x y fun k => iteQ k (opP (vE C c) (hasIo C.Q c) (vars c) fz E (fun z ρ => cmpN op2 y z fun k => K (.p (.bl k)) ρ) ρ) (K (.p (.bl false)) ρ)) ρ) ρ
  | .ife t a b, fz, E, K, ρ => opP (vE C t) (hasIo C.Q t) (vars t) fz E (fun x ρ => truN x fun k => iteQ k (opP (vE C a) (hasIo C.Q a) (vars a) fz E K ρ) (opP (vE C b) (hasIo C.Q b) (vars b) fz E K ρ)) ρ
  | .fld o f, fz, E, K, ρ => opP (vE C o) (hasIo C.Q o) (vars o) fz E (fun x ρ => optP (nget C.Q.P x f) fun t => K t ρ) ρ
  | .ix o i, fz, E, K, ρ => opP (vE C o) (hasIo C.Q o) (vars o) fz E (fun x ρ => opP (vE C i) (hasIo C.Q i) (vars i) fz E (fun y ρ => optP (nix x y) fun t => K t ρ) ρ) ρ
  | .slc o lo hi, fz, E, K, ρ => opP (vE C o) (hasIo C.Q o) (vars o) fz E (fun x ρ =>
      (match lo.isNope with
        | true => fun (k : Option Int → NEnv → Prop) ρ => k none ρ
        | false => fun k ρ => opP (vE C lo) (hasIo C.Q lo) (vars lo) fz E (fun y ρ => optP (nintO y) fun l => k l ρ) ρ) (fun l ρ =>
      (match hi.isNope with
        | true => fun (k : Option Int → NEnv → Prop) ρ => k none ρ
        | false => fun k ρ => opP (vE C hi) (hasIo C.Q hi) (vars hi) fz E (fun y ρ => optP (nintO y) fun l => k l ρ) ρ) (fun h ρ => optP (nsl x l h) fun t => K t ρ) ρ) ρ) ρ
  | .tup es, fz, E, K, ρ => vEs C es fz E (fun ts ρ => K (mkTup ts) ρ) ρ
  | .lst es, fz, E, K, ρ => vEs C es fz E (fun ts ρ => K (mkLst ts) ρ) ρ
  | .lc own tg k src cond elt, fz, E, K, ρ => vEs C src fz E (fun vs ρ1 => (tgN tg).all own.contains = true ∧ optP (nIt k vs) fun xs => LcN C tg cond elt fz own xs [] ρ1 (fun acc ρ2 => match fz with
    | true => K (mkLst acc) ρ
    | false => K (mkLst acc) (wipeN ρ2 own))) ρ
  | .lc2 own tg k src cond own1 tg1 k1 src1 cond1 elt, fz, E, K, ρ => vEs C src fz E (fun vs ρ1 => ((tgN tg).all own.contains && ((tgN tg1).all own1.contains && own1.all own.contains)) = true ∧ optP (nIt k vs) fun xs => Lc2N C tg cond own1 tg1 k1 src1 cond1 elt fz own xs [] ρ1 (fun acc ρ2 => match fz with
    | true => K (mkLst acc) ρ
    | false => K (mkLst acc) (wipeN ρ2 own))) ρ
  | .call f es, fz, E, K, ρ => vA C es (C.Q.io f) 0 fz E (fun as ρ => callQ C f es.len as K E ρ) ρ
  | .meth m o es, fz, E, K, ρ => (match ownRec C m (es.len + 1) o fz ρ with
    | some (i, f) => vA C es (C.Q.io f) 1 fz E (fun as ρ => callQ C f (es.len + 1) (.plc i :: as) K E ρ) ρ
    | none => opP (vE C o) (hasIo C.Q o) (vars o) fz E (fun t ρ => optP (nmeth C t m (es.len + 1)) fun f => vA C es (C.Q.io f) 1 fz E (fun as ρ => callQ C f (es.len + 1) (.val t :: as) K E ρ) ρ) ρ)
  | .bi b es, fz, E, K, ρ => vEs C es fz E (fun ts ρ => optP (nbi b ts) fun t => K t ρ) ρ
  | .bm b o es, fz, E, K, ρ => (match ownBm b o fz ρ with
    | some i => (match ρ[i]? with
      | some (.val t0) => nchk b t0 = true ∧ vEs C es fz E (fun vs ρ => (match ρ[i]? with
        | some (.val t) => optP (nbm b t vs) fun p => K p.1 (ρ.set i (.val p.2))
        | _ => False)) ρ
      | _ => False)
    | none => (match ownBmF b o fz with
      | some (i, f) => (match takeF C.Q.P i f ρ with
        | some (t, _, _) => nchk b t = true
        | none => False) ∧ vEs C es true (fun x _ => E x ρ) (fun vs _ => optP (takeF C.Q.P i f (match dOwns vs with
          | true => ρ
          | false => frzOn (varss es) ρ)) fun p => nchk b p.1 = true ∧ optP (nbm b p.1 vs) fun q => optP (putF i p.2.2 q.2 p.2.1) fun ρ2 => K q.1 ρ2) (frzR (varss es) ρ)
      | none => opP (vE C o) (hasIo C.Q o) (vars o) fz E (fun t ρ => nchk b t = true ∧ vEs C es fz E (fun vs ρ => optP (nbm b t vs) fun p => K p.1 ρ) ρ) ρ))
  | .isi e ts, fz, E, K, ρ => opP (vE C e) (hasIo C.Q e) (vars e) fz E (fun x ρ => optP (nisi x ts) fun k => K (.p (.bl k)) ρ) ρ
  | .make c es, fz, E, K, ρ => (match C.Q.P.init c with
    | some f => vA C es (C.Q.io f) 1 fz E (fun as ρ => makeQ C c f (es.len + 1) as K E ρ) ρ
    | none => (match C.Q.P.plain c, es with
      | true, .nil => K (.ins true c [] []) ρ
      | _, _ => False))
  | .isx i c, _, _, K, ρ => (match ρ[i]? with
    | some (.exc x) => x.fs = [] ∧ optP (C.Q.P.sub x.c c) fun b => K (.p (.bl b)) ρ
    | _ => False)
  | .xfl i f, _, _, K, ρ => (match ρ[i]? with
    | some (.exc x) => optP (x.fs.lookup f) fun d => nr d = true ∧ K (.p d) ρ
    | _ => False)
  | e, fz, E, K, ρ => Wn (mden C e fz ρ) K E
def vEs (C : Nal) : CEs → Bool → (Exn → NEnv → Prop) → (List T → NEnv → Prop) → NEnv → Prop
  | .nil, _, _, K, ρ => K [] ρ
  | .cons e es, fz, E, K, ρ => opP (vE C e) (hasIo C.Q e) (vars e) fz E (fun x ρ => vEs C es fz E (fun xs ρ => K (x :: xs) ρ) ρ) ρ
def vA (C : Nal) : CEs → List Nat → Nat → Bool → (Exn → NEnv → Prop) → (List Ar → NEnv → Prop) → NEnv → Prop
  | .nil, _, _, _, _, K, ρ => K [] ρ
  | .cons e es, io, j, fz, E, K, ρ => (match plcOf fz (io.contains j) e with
    | some i => (match ρ[i]? with
      | some (.val _) => vA C es io (j + 1) fz E (fun as ρ => K (.plc i :: as) ρ) ρ
      | _ => False)
    | none => opP (vE C e) (hasIo C.Q e) (vars e) fz E (fun x ρ => vA C es io (j + 1) fz E (fun as ρ => K (.val x :: as) ρ) ρ) ρ)
def vAnd (C : Nal) : CEs → Bool → (Exn → NEnv → Prop) → (T → NEnv → Prop) → NEnv → Prop
  | .nil, _, _, _, _ => False
  | .cons e .nil, fz, E, K, ρ => opP (vE C e) (hasIo C.Q e) (vars e) fz E K ρ
  | .cons e (.cons e2 es), fz, E, K, ρ => opP (vE C e) (hasIo C.Q e) (vars e) fz E (fun x ρ => truN x fun b => iteQ b (vAnd C (.cons e2 es) fz E K ρ) (K x ρ)) ρ
def vOr (C : Nal) : CEs → Bool → (Exn → NEnv → Prop) → (T → NEnv → Prop) → NEnv → Prop
  | .nil, _, _, _, _ => False
  | .cons e .nil, fz, E, K, ρ => opP (vE C e) (hasIo C.Q e) (vars e) fz E K ρ
  | .cons e (.cons e2 es), fz, E, K, ρ => opP (vE C e) (hasIo C.Q e) (vars e) fz E (fun x ρ => truN x fun b => iteQ b (K x ρ) (vOr C (.cons e2 es) fz E K ρ)) ρ
end
def vC (C : Nal) (es : CEs) (fz : Bool) (E : Exn → NEnv → Prop) (K : Bool → NEnv → Prop) (ρ : NEnv) : Prop := match es with
  | .nil => K true ρ
  | .cons e .nil => opP (vE C e) (hasIo C.Q e) (vars e) fz E (fun x ρ => truN x fun b => K b ρ) ρ
  | _ => False
section
variable {C : Nal}
/-- a reckoner is right -/
def Vok (g : Bool → (Exn → NEnv → Prop) → (T → NEnv → Prop) → NEnv → Prop) (f : Bool → NEnv → NR T) : Prop := ∀ (fz : Bool) (E : Exn → NEnv → Prop) (K : T → NEnv → Prop) (ρ : NEnv), g fz E K ρ → nresP (f fz ρ) K E
theorem opP_ok {g : Bool → (Exn → NEnv → Prop) → (T → NEnv → Prop) → NEnv → Prop} {f : Bool → NEnv → NR T} (h : Vok g f) {io : Bool} {vs : List Nat} {fz : Bool} {E : Exn → NEnv → Prop} {K : T → NEnv → Prop} {ρ : NEnv} (q : opP g io vs fz E K ρ) : nresP (opnd f io vs fz ρ) K E := by
  unfold opP at q
  unfold opnd
  cases fz with
  | true => exact h _ _ _ _ q
  | false =>
    cases io with
    | true => exact h _ _ _ _ q
    | false =>
      have z := h _ _ _ _ q
      dsimp only
      unfold bor
      cases w : f true (frzR vs ρ) with
      | ok t ρ' =>
        rw [w] at z
        have z : ownP (dOwn t) (K t ρ) (K t (frzOn vs ρ)) := z
        dsimp only
        unfold ownP at z
        cases o : dOwn t with
        | true => rw [o] at z; rw [if_pos rfl]; exact z
        | false => rw [o] at z; rw [if_neg (by decide)]; exact z
      | exc x ρ' => rw [w] at z; exact z
      | no => rw [w] at z; exact z
theorem opP_bind {β : Type} {g : Bool → (Exn → NEnv → Prop) → (T → NEnv → Prop) → NEnv → Prop} {f : Bool → NEnv → NR T} (h : Vok g f) {io : Bool} {vs : List Nat} {fz : Bool} {E : Exn → NEnv → Prop} {K : T → NEnv → Prop} {ρ : NEnv} {f2 : T → NEnv → NR β} {K2 : β → NEnv → Prop} (q : opP g io vs fz E K ρ) (k : ∀ t ρ, K t ρ → nresP (f2 t ρ) K2 E) : nresP (NR.bind (opnd f io vs fz ρ) f2) K2 E :=
  nresP_bind (nresP_mono (opP_ok h q) k fun _ _ => id)
mutual
theorem vE_ok : ∀ e : CE, Vok (vE C e) (mden C e)
  | .var i => fun fz E K ρ h => by
    have h : (match (generalizing := false) ρ[i]? with
      | some (.val t) => (match (generalizing := false) fz with
        | true => K t ρ
        | false => K (frz t) (ρ.set i (.val (frz t))))
      | _ => False) := h
    show nresP (match ρ[i]? with
      | some (.val t) => if fz = true then .ok t ρ else .ok (frz t) (ρ.set i (.val (frz t)))
      | _ => .no) K E
    split at h
    · rename_i t q
      cases fz <;> first | exact h | (rw [q]; exact h)
    · exact h.elim
  | .non => fun fz E K ρ h => h
  | .bl _ => fun fz E K ρ h => h
  | .int _ => fun fz E K ρ h => h
  | .str _ => fun fz E K ρ h => h
  | .con g => fun fz E K ρ h => by
    have h : nr (C.Q.P.con g) = true ∧ K (.p (C.Q.P.con g)) ρ := h
    show nresP (if nr (C.Q.P.con g) = true then .ok (.p (C.Q.P.con g)) ρ else .no) K E
    rw [if_pos h.1]
    exact h.2
  | .bin op a b => fun fz E K ρ h => opP_bind (vE_ok a) h fun x ρ h => opP_bind (vE_ok b) h fun y ρ h => nresP_opt (binN_ok h)
  | .neg a => fun fz E K ρ h => opP_bind (vE_ok a) h fun x ρ h => by
    split at h
    · exact h
    · exact h.elim
  | .nt a => fun fz E K ρ h => opP_bind (vE_ok a) h fun x ρ h => nresP_optm (truN_ok h)
  | .andl es => fun fz E K ρ h => vAnd_ok es fz E K ρ h
  | .orl es => fun fz E K ρ h => vOr_ok es fz E K ρ h
  | .cmp op a b => fun fz E K ρ h => opP_bind (vE_ok a) h fun x ρ h => opP_bind (vE_ok b) h fun y ρ h => nresP_optm (cmpN_ok h)
  | .chn op op2 a b c => fun fz E K ρ h => opP_bind (vE_ok a) h fun x ρ h => opP_bind (vE_ok b) h fun y ρ h => by
    obtain ⟨k, e, h⟩ := cmpN_ok h
    rw [e]
    cases k with
    | true => exact opP_bind (vE_ok c) (h.1 rfl) fun z ρ h => nresP_optm (cmpN_ok h)
    | false => exact h.2 rfl
  | .ife t a b => fun fz E K ρ h => opP_bind (vE_ok t) h fun x ρ h => by
    obtain ⟨k, e, h⟩ := truN_ok h
    rw [e]
    cases k with
    | true => exact opP_ok (vE_ok a) (h.1 rfl)
    | false => exact opP_ok (vE_ok b) (h.2 rfl)
  | .fld o f => fun fz E K ρ h => opP_bind (vE_ok o) h fun x ρ h => nresP_opt (optP_ok h)
  | .ix o i => fun fz E K ρ h => opP_bind (vE_ok o) h fun x ρ h => opP_bind (vE_ok i) h fun y ρ h => nresP_opt (optP_ok h)
  | .slc o lo hi => fun fz E K ρ h => opP_bind (vE_ok o) h fun x ρ h => by
      have part : ∀ (p : CE) (k : Option Int → NEnv → Prop) (ρ : NEnv), Vok (vE C p) (mden C p) → (match p.isNope with
        | true => fun (k : Option Int → NEnv → Prop) ρ => k none ρ
        | false => fun k ρ => opP (vE C p) (hasIo C.Q p) (vars p) fz E (fun y ρ => optP (nintO y) fun l => k l ρ) ρ) k ρ → nresP (match p.isNope with
        | true => .ok none ρ
        | false => NR.bind (opnd (mden C p) (hasIo C.Q p) (vars p) fz ρ) fun y ρ => NR.opt (nintO y) ρ) k E := fun p k ρ ih q => by
        cases z : p.isNope with
        | true => rw [z] at q; exact q
        | false => rw [z] at q; exact opP_bind ih q fun y ρ h => nresP_opt (optP_ok h)
      exact nresP_bind (nresP_mono (part lo _ _ (vE_ok lo) h) (fun l ρ h => nresP_bind (nresP_mono (part hi _ _ (vE_ok hi) h) (fun u ρ h => nresP_opt (optP_ok h)) fun _ _ => id)) fun _ _ => id)
  | .tup es => fun fz E K ρ h => nresP_bind (vEs_ok es fz E _ ρ h)
  | .lst es => fun fz E K ρ h => nresP_bind (vEs_ok es fz E _ ρ h)
  | .lc own tg k src cond elt => fun fz E K ρ h => nresP_bind (nresP_mono (vEs_ok src fz E _ ρ h) (fun vs ρ1 h => by
      obtain ⟨h1, h2⟩ := h
      obtain ⟨xs, e, h3⟩ := optP_ok h2
      rw [h1, e]
      refine nresP_bind (nresP_mono h3.go (fun acc ρ2 h => ?_) fun _ _ w => w.elim)
      cases fz with
      | true => exact h
      | false => exact h) fun _ _ => id)
  | .lc2 own tg k src cond own1 tg1 k1 src1 cond1 elt => fun fz E K ρ h => nresP_bind (nresP_mono (vEs_ok src fz E _ ρ h) (fun vs ρ1 h => by
      obtain ⟨h1, h2⟩ := h
      obtain ⟨xs, e, h3⟩ := optP_ok h2
      rw [h1, e]
      refine nresP_bind (nresP_mono h3.go (fun acc ρ2 h => ?_) fun _ _ w => w.elim)
      cases fz with
      | true => exact h
      | false => exact h) fun _ _ => id)
  | .call f es => fun fz E K ρ h => nresP_bind (nresP_mono (vA_ok es _ _ fz E _ ρ h) (fun as ρ h => callQ_ok h) fun _ _ => id)
  | .meth m o es => fun fz E K ρ h => by
    have h : (match ownRec C m (es.len + 1) o fz ρ with
      | some (i, f) => vA C es (C.Q.io f) 1 fz E (fun as ρ => callQ C f (es.len + 1) (.plc i :: as) K E ρ) ρ
      | none => opP (vE C o) (hasIo C.Q o) (vars o) fz E (fun t ρ => optP (nmeth C t m (es.len + 1)) fun f => vA C es (C.Q.io f) 1 fz E (fun as ρ => callQ C f (es.len + 1) (.val t :: as) K E ρ) ρ) ρ) := h
    show nresP (match ownRec C m (es.len + 1) o fz ρ with
      | some (i, f) => NR.bind (margs C es (C.Q.io f) 1 fz ρ) fun as ρ => ncall C f (es.len + 1) (.plc i :: as) ρ
      | none => NR.bind (opnd (mden C o) (hasIo C.Q o) (vars o) fz ρ) fun t ρ => (match nmeth C t m (es.len + 1) with
        | some f => NR.bind (margs C es (C.Q.io f) 1 fz ρ) fun as ρ => ncall C f (es.len + 1) (.val t :: as) ρ
        | none => .no)) K E
    cases q : ownRec C m (es.len + 1) o fz ρ with
    | some p =>
      rw [q] at h
      exact nresP_bind (nresP_mono (vA_ok es _ _ fz E _ ρ h) (fun as ρ h => callQ_ok h) fun _ _ => id)
    | none =>
      rw [q] at h
      exact opP_bind (vE_ok o) h fun t ρ h => by
        obtain ⟨f, e, h⟩ := optP_ok h
        rw [e]
        exact nresP_bind (nresP_mono (vA_ok es _ _ fz E _ ρ h) (fun as ρ h => callQ_ok h) fun _ _ => id)
  | .bi b es => fun fz E K ρ h => nresP_bind (nresP_mono (vEs_ok es fz E _ ρ h) (fun ts ρ h => nresP_opt (optP_ok h)) fun _ _ => id)
  | .bm b o es => fun fz E K ρ h => by
    have h : (match ownBm b o fz ρ with
      | some i => (match ρ[i]? with
        | some (.val t0) => nchk b t0 = true ∧ vEs C es fz E (fun vs ρ => (match ρ[i]? with
          | some (.val t) => optP (nbm b t vs) fun p => K p.1 (ρ.set i (.val p.2))
          | _ => False)) ρ
        | _ => False)
      | none => (match ownBmF b o fz with
        | some (i, f) => (match takeF C.Q.P i f ρ with
          | some (t, _, _) => nchk b t = true
          | none => False) ∧ vEs C es true (fun x _ => E x ρ) (fun vs _ => optP (takeF C.Q.P i f (match dOwns vs with
            | true => ρ
            | false => frzOn (varss es) ρ)) fun p => nchk b p.1 = true ∧ optP (nbm b p.1 vs) fun q => optP (putF i p.2.2 q.2 p.2.1) fun ρ2 => K q.1 ρ2) (frzR (varss es) ρ)
        | none => opP (vE C o) (hasIo C.Q o) (vars o) fz E (fun t ρ => nchk b t = true ∧ vEs C es fz E (fun vs ρ => optP (nbm b t vs) fun p => K p.1 ρ) ρ) ρ)) := h
    show nresP (match ownBm b o fz ρ with
        | some i => (match ρ[i]? with
          | some (.val t0) => if nchk b t0 = true then NR.bind (mdens C es fz ρ) fun vs ρ => (match ρ[i]? with
            | some (.val t) => (match nbm b t vs with
              | some (a, t') => .ok a (ρ.set i (.val t'))
              | none => .no)
            | _ => .no) else .no
          | _ => .no)
        | none => (match ownBmF b o fz with
          | some (i, f) => (match mdens C es true (frzR (varss es) ρ) with
            | .ok vs _ => (match takeF C.Q.P i f (if dOwns vs = true then ρ else frzOn (varss es) ρ) with
              | some (t, ρ1, k) => if nchk b t = true then (match nbm b t vs with
                | some (a, t') => (match putF i k t' ρ1 with
                  | some ρ2 => .ok a ρ2
                  | none => .no)
                | none => .no) else .no
              | none => .no)
            | .exc x _ => (match takeF C.Q.P i f ρ with
              | some (t, _, _) => if nchk b t = true then .exc x ρ else .no
              | none => .no)
            | .no => .no)
          | none => NR.bind (opnd (mden C o) (hasIo C.Q o) (vars o) fz ρ) fun t ρ => if nchk b t = true then NR.bind (mdens C es fz ρ) fun vs ρ => (match nbm b t vs with
            | some (a, _) => .ok a ρ
            | none => .no) else .no)) K E
    cases q : ownBm b o fz ρ with
    | some i =>
      rw [q] at h
      dsimp only at h ⊢
      cases w : ρ[i]? with
      | none => rw [w] at h; exact h.elim
      | some z =>
        rw [w] at h
        cases z with
        | val t0 =>
          obtain ⟨h1, h2⟩ := h
          dsimp only
          rw [if_pos h1]
          refine nresP_bind (nresP_mono (vEs_ok es fz E _ ρ h2) (fun vs ρ1 h => ?_) fun _ _ => id)
          cases w2 : ρ1[i]? with
          | none => rw [w2] at h; exact h.elim
          | some z =>
            rw [w2] at h
            cases z with
            | val t =>
              obtain ⟨p, e, h⟩ := optP_ok h
              dsimp only
              rw [e]
              exact h
            | _ => exact h.elim
        | _ => exact h.elim
    | none =>
      rw [q] at h
      dsimp only at h ⊢
      cases w : ownBmF b o fz with
      | some p =>
        obtain ⟨i, f⟩ := p
        rw [w] at h
        obtain ⟨h1, h2⟩ := h
        have z := vEs_ok es true _ _ _ h2
        dsimp only
        cases y : mdens C es true (frzR (varss es) ρ) with
        | ok vs ρ' =>
          rw [y] at z
          have z : optP (takeF C.Q.P i f (match dOwns vs with
            | true => ρ
            | false => frzOn (varss es) ρ)) (fun p => nchk b p.1 = true ∧ optP (nbm b p.1 vs) fun q => optP (putF i p.2.2 q.2 p.2.1) fun ρ2 => K q.1 ρ2) := z
          obtain ⟨p, e, z1, z2⟩ := optP_ok z
          obtain ⟨q2, e2, z3⟩ := optP_ok z2
          obtain ⟨ρ2, e3, z4⟩ := optP_ok z3
          dsimp only
          have e' : takeF C.Q.P i f (if dOwns vs = true then ρ else frzOn (varss es) ρ) = some p := by
            cases o : dOwns vs with
            | true => rw [o] at e; exact e
            | false => rw [o] at e; exact e
          obtain ⟨t, ρ1, k⟩ := p
          rw [e']
          dsimp only
          rw [if_pos z1, e2]
          dsimp only at e3 ⊢
          rw [e3]
          exact z4
        | exc x ρ' =>
          rw [y] at z
          dsimp only
          cases v : takeF C.Q.P i f ρ with
          | none => rw [v] at h1; exact h1.elim
          | some p =>
            obtain ⟨t, ρ1, k⟩ := p
            rw [v] at h1
            dsimp only at h1 ⊢
            rw [if_pos h1]
            exact z
        | no => rw [y] at z; exact z.elim
      | none =>
        rw [w] at h
        exact opP_bind (vE_ok o) h fun t ρ h => by
          obtain ⟨h1, h2⟩ := h
          rw [if_pos h1]
          refine nresP_bind (nresP_mono (vEs_ok es fz E _ ρ h2) (fun vs ρ1 h => ?_) fun _ _ => id)
          obtain ⟨p, e, h⟩ := optP_ok h
          rw [e]
          exact h
  | .isi e ts => fun fz E K ρ h => opP_bind (vE_ok e) h fun x ρ h => nresP_optm (optP_ok h)
  | .nope => fun fz E K ρ h => Wn.go h
  | .dct _ _ => fun fz E K ρ h => Wn.go h
  | .make c es => fun fz E K ρ h => by
    have h : (match (generalizing := false) C.Q.P.init c with
      | some f => vA C es (C.Q.io f) 1 fz E (fun as ρ => makeQ C c f (es.len + 1) as K E ρ) ρ
      | none => (match (generalizing := false) C.Q.P.plain c, es with
        | true, .nil => K (.ins true c [] []) ρ
        | _, _ => False)) := h
    show nresP (match C.Q.P.init c with
      | some f => NR.bind (margs C es (C.Q.io f) 1 fz ρ) fun as ρ => (match takes as ρ with
        | some (ts, ρ1) => if nrs (C.Q.P.dfl f (es.len + 1)) = true ∧ (T.ins true c [] [] :: (ts ++ (C.Q.P.dfl f (es.len + 1)).map T.p)).length = C.Q.P.np f then (match C.call f (T.ins true c [] [] :: (ts ++ (C.Q.P.dfl f (es.len + 1)).map T.p)) with
          | .ok (.p .non) (o :: outs) => (match puts as outs ρ1 with
            | some ρ2 => .ok o ρ2
            | none => .no)
          | .exc x (o :: outs) => (match puts as outs ρ1 with
            | some ρ2 => .exc x ρ2
            | none => .no)
          | _ => .no) else .no
        | none => .no)
      | none => (match (generalizing := false) C.Q.P.plain c, es with
        | true, .nil => .ok (.ins true c [] []) ρ
        | _, _ => .no)) K E
    cases q : C.Q.P.init c with
    | some f =>
      rw [q] at h
      exact nresP_bind (nresP_mono (vA_ok es _ _ fz E _ ρ h) (fun as ρ h => makeQ_ok h) fun _ _ => id)
    | none =>
      rw [q] at h
      dsimp only at h ⊢
      cases w : C.Q.P.plain c with
      | true => rw [w] at h; cases es with
        | nil => exact h
        | cons e es => exact h.elim
      | false => rw [w] at h; exact h.elim
  | .isx i c => fun fz E K ρ h => by
    have h : (match (generalizing := false) ρ[i]? with
      | some (.exc x) => x.fs = [] ∧ optP (C.Q.P.sub x.c c) fun b => K (.p (.bl b)) ρ
      | _ => False) := h
    show nresP (match ρ[i]? with
      | some (.exc x) => if x.fs = [] then (match C.Q.P.sub x.c c with
        | some b => .ok (.p (.bl b)) ρ
        | none => .no) else .no
      | _ => .no) K E
    cases w : ρ[i]? with
    | none => rw [w] at h; exact h.elim
    | some z =>
      rw [w] at h
      cases z with
      | exc x =>
        obtain ⟨h1, h2⟩ := h
        obtain ⟨b, e, h3⟩ := optP_ok h2
        dsimp only
        rw [if_pos h1, e]
        exact h3
      | _ => exact h.elim
  | .xfl i f => fun fz E K ρ h => by
    have h : (match (generalizing := false) ρ[i]? with
      | some (.exc x) => optP (x.fs.lookup f) fun d => nr d = true ∧ K (.p d) ρ
      | _ => False) := h
    show nresP (match ρ[i]? with
      | some (.exc x) => (match x.fs.lookup f with
        | some d => if nr d = true then .ok (.p d) ρ else .no
        | none => .no)
      | _ => .no) K E
    cases w : ρ[i]? with
    | none => rw [w] at h; exact h.elim
    | some z =>
      rw [w] at h
      cases z with
      | exc x =>
        obtain ⟨d, e, h2, h3⟩ := optP_ok h
        dsimp only
        rw [e]
        dsimp only
        rw [if_pos h2]
        exact h3
      | _ => exact h.elim
theorem vEs_ok : ∀ (es : CEs) (fz : Bool) (E : Exn → NEnv → Prop) (K : List T → NEnv → Prop) (ρ : NEnv), vEs C es fz E K ρ → nresP (mdens C es fz ρ) K E
  | .nil, fz, E, K, ρ, h => h
  | .cons e es, fz, E, K, ρ, h => opP_bind (vE_ok e) h fun x ρ h => nresP_bind (vEs_ok es fz E _ ρ h)
theorem vA_ok : ∀ (es : CEs) (io : List Nat) (j : Nat) (fz : Bool) (E : Exn → NEnv → Prop) (K : List Ar → NEnv → Prop) (ρ : NEnv), vA C es io j fz E K ρ → nresP (margs C es io j fz ρ) K E
  | .nil, io, j, fz, E, K, ρ, h => h
  | .cons e es, io, j, fz, E, K, ρ, h => by
    have h : (match (generalizing := false) plcOf fz (io.contains j) e with
      | some i => (match (generalizing := false) ρ[i]? with
        | some (.val _) => vA C es io (j + 1) fz E (fun as ρ => K (.plc i :: as) ρ) ρ
        | _ => False)
      | none => opP (vE C e) (hasIo C.Q e) (vars e) fz E (fun x ρ => vA C es io (j + 1) fz E (fun as ρ => K (.val x :: as) ρ) ρ) ρ) := h
    rw [margs_cons]
    refine nresP_bind ?_
    cases q : plcOf fz (io.contains j) e with
    | some i =>
      rw [q] at h
      dsimp only at h ⊢
      cases w : ρ[i]? with
      | none => rw [w] at h; exact h.elim
      | some z =>
        rw [w] at h
        cases z with
        | val t =>
          show nresP (NR.bind (margs C es io (j + 1) fz ρ) fun as ρ => .ok (.plc i :: as) ρ) K E
          exact nresP_bind (vA_ok es io (j + 1) fz E _ ρ h)
        | _ => exact h.elim
    | none =>
      rw [q] at h
      exact opP_bind (vE_ok e) h fun x ρ h => nresP_bind (vA_ok es io (j + 1) fz E _ ρ h)
theorem vAnd_ok : ∀ (es : CEs) (fz : Bool) (E : Exn → NEnv → Prop) (K : T → NEnv → Prop) (ρ : NEnv), vAnd C es fz E K ρ → nresP (mdenAnd C es fz ρ) K E
  | .nil, fz, E, K, ρ, h => False.elim h
  | .cons e .nil, fz, E, K, ρ, h => opP_ok (vE_ok e) h
  | .cons e (.cons e2 es), fz, E, K, ρ, h => opP_bind (vE_ok e) h fun x ρ h => by
    obtain ⟨k, q, h⟩ := truN_ok h
    rw [q]
    cases k with
    | true => exact vAnd_ok (.cons e2 es) fz E K ρ (h.1 rfl)
    | false => exact h.2 rfl
theorem vOr_ok : ∀ (es : CEs) (fz : Bool) (E : Exn → NEnv → Prop) (K : T → NEnv → Prop) (ρ : NEnv), vOr C es fz E K ρ → nresP (mdenOr C es fz ρ) K E
  | .nil, fz, E, K, ρ, h => False.elim h
  | .cons e .nil, fz, E, K, ρ, h => opP_ok (vE_ok e) h
  | .cons e (.cons e2 es), fz, E, K, ρ, h => opP_bind (vE_ok e) h fun x ρ h => by
    obtain ⟨k, q, h⟩ := truN_ok h
    rw [q]
    cases k with
    | true => exact h.1 rfl
    | false => exact vOr_ok (.cons e2 es) fz E K ρ (h.2 rfl)
end
theorem vC_ok {es : CEs} {fz : Bool} {E : Exn → NEnv → Prop} {K : Bool → NEnv → Prop} {ρ : NEnv} (h : vC C es fz E K ρ) : nresP (mdenC C es fz ρ) K E := by
  unfold vC at h
  split at h
  · exact h
  · exact opP_bind (vE_ok _) h fun x ρ h => nresP_opt (truN_ok h)
  · exact h.elim
end
end EW.EN

set_option Elab.async false
set_option linter.all false
set_option maxRecDepth 100000
set_option maxHeartbeats 4000000
/-! N layer 14: statements, loops, comprehensions, defs, from the wish back. -/
namespace EW.EN
open PySem
abbrev oE (C : Nal) (e : CE) (E : Exn → NEnv → Prop) (K : T → NEnv → Prop) (ρ : NEnv) : Prop := opP (vE C e) (hasIo C.Q e) (vars e) false E K ρ
theorem optP_at {α : Type} {o : Option α} {a : α} {K : α → Prop} (h : o = some a) (k : K a) : optP o K := by rw [h]; exact k
theorem nix_lp {o : Bool} {xs : List D} {j : Int} {d : D} (h : L2.atI xs j = some d) : nix (.lp o xs) (.p (.int j)) = some (.p d) := by
  show (L2.atI xs j).map T.p = _
  rw [h]; rfl
theorem nix_rol {xs : List D} {j : Int} {d : D} (h : L2.atI xs j = some d) : nix (.rol xs) (.p (.int j)) = some (.p d) := by
  show (L2.atI xs j).map T.p = _
  rw [h]; rfl
theorem nix_tp {xs : List D} {j : Int} {d : D} (h : L2.atI xs j = some d) : nix (.p (.tup xs)) (.p (.int j)) = some (.p d) := by
  show (L2.atI xs j).map T.p = _
  rw [h]; rfl
theorem nix_lst {o : Bool} {ts : List T} {j : Int} {t : T} (h : L2.atI ts j = some t) : nix (.lst o ts) (.p (.int j)) = some (kid o t) := by
  show (L2.atI ts j).map (kid o) = _
  rw [h]; rfl
/-- a loop: a wall -/
structure ForN (C : Nal) (b : CSs) (tg : Tg) (xs : List T) (ρ : NEnv) (N : NEnv → Prop) (R : T → NEnv → Prop) (E : Exn → NEnv → Prop) : Prop where
  go : nsrP (mfor (fun ρ => msems C b ρ) C.lock tg xs ρ) N R E
structure WhN (C : Nal) (c : CE) (b : CSs) (n : Nat) (ρ : NEnv) (N : NEnv → Prop) (R : T → NEnv → Prop) (E : Exn → NEnv → Prop) : Prop where
  go : nsrP (mwh (mT C c) (fun ρ => msems C b ρ) n ρ) N R E
/-- a test -/
def vT (C : Nal) (c : CE) (E : Exn → NEnv → Prop) (K : Bool → NEnv → Prop) (ρ : NEnv) : Prop := match hasIo C.Q c with
  | true => vE C c false E (fun x ρ => truN x fun k => K k ρ) ρ
  | false => vE C c true (fun x _ => E x ρ) (fun t _ => truN t fun k => K k ρ) (frzR (vars c) ρ)
theorem vT_ok {C : Nal} {c : CE} {E : Exn → NEnv → Prop} {K : Bool → NEnv → Prop} {ρ : NEnv} (h : vT C c E K ρ) : nresP (mT C c ρ) K E := by
  unfold vT at h
  unfold mT
  cases hio : hasIo C.Q c with
  | true =>
    rw [hio] at h
    refine nresP_bind (nresP_mono (opP_ok (vE_ok c) (show opP (vE C c) (hasIo C.Q c) (vars c) false E (fun x ρ => truN x fun k => K k ρ) ρ by rw [hio]; exact h)) (fun x ρ h => nresP_opt (truN_ok h)) fun _ _ => id)
  | false =>
    rw [hio] at h
    have z := vE_ok c true _ _ _ h
    dsimp only
    cases w : mden C c true (frzR (vars c) ρ) with
    | ok x ρ1 => rw [w] at z; exact nresP_opt (truN_ok z)
    | exc x ρ1 => rw [w] at z; exact z
    | no => rw [w] at z; exact z
mutual
def vS (C : Nal) : CS → (NEnv → Prop) → (T → NEnv → Prop) → (Exn → NEnv → Prop) → NEnv → Prop
  | .expr e, N, R, E, ρ => oE C e E (fun _ ρ => N ρ) ρ
  | .asg tg e, N, R, E, ρ => oE C e E (fun x ρ => optP (bindN C.lock tg x ρ) N) ρ
  | .setf o f e, N, R, E, ρ => oE C e E (fun v ρ => match o with
    | .var i => optP (setFN C.Q.P i f v ρ) N
    | _ => False) ρ
  | .seti o i e, N, R, E, ρ => oE C e E (fun v ρ => ∃ ρ1, setiN C o i v ρ = some ρ1 ∧ N ρ1) ρ
  | .ret e, N, R, E, ρ => (match retV C e ρ with
    | some (t, ρ1) => R t ρ1
    | none => oE C e E R ρ)
  | .retn, N, R, E, ρ => R (.p .non) ρ
  | .ite c a b, N, R, E, ρ => vT C c E (fun k ρ => iteQ k (vSs C a N R E ρ) (vSs C b N R E ρ)) ρ
  | .forS tg k src b, N, R, E, ρ => vEs C src false E (fun vs ρ => optP (nIt k vs) fun xs => ForN C b tg xs ρ N R E) ρ
  | .whl c b, N, R, E, ρ => WhN C c b C.L ρ N R E
  | .tryS b c nm h, N, R, E, ρ => inLock C.lock nm = false ∧ vSs C b N R (fun x ρ1 => match C.Q.P.sub x.c c with
    | some true => vSs C h (fun ρ2 => N (setNN (clrN ρ2) nm .non)) R (fun _ _ => False) (setNN ρ1 nm (.exc x))
    | some false => E x ρ1
    | none => False) ρ
  | .raise c, N, R, E, ρ => C.Q.P.xr c = true ∧ E ⟨c, []⟩ ρ
  | .raiseC c f e, N, R, E, ρ => oE C e E (fun v ρ => match v with
    | .p d => E ⟨c, [(f, d)]⟩ ρ
    | _ => False) ρ
  | .nop, N, R, E, ρ => N ρ
  | .deli _ _, _, _, _, _ => False
def vSs (C : Nal) : CSs → (NEnv → Prop) → (T → NEnv → Prop) → (Exn → NEnv → Prop) → NEnv → Prop
  | .nil, N, R, E, ρ => N ρ
  | .cons a b, N, R, E, ρ => vS C a (fun ρ => Nx (vSs C b N R E ρ)) R E ρ
end
section
variable {C : Nal}
theorem nsrP_lift {α : Type} {q : NR α} {k : α → NEnv → NSr} {N : NEnv → Prop} {R : T → NEnv → Prop} {E : Exn → NEnv → Prop} (h : nresP q (fun a ρ => nsrP (k a ρ) N R E) E) : nsrP (nlift q k) N R E := by
  cases q with
  | ok a ρ => exact h
  | exc x ρ => exact h
  | no => exact h
theorem oE_ok {e : CE} {E : Exn → NEnv → Prop} {K : T → NEnv → Prop} {ρ : NEnv} (h : oE C e E K ρ) : nresP (mE C e ρ) K E := opP_ok (vE_ok e) h
theorem oE_lift {e : CE} {E : Exn → NEnv → Prop} {K : T → NEnv → Prop} {ρ : NEnv} (h : oE C e E K ρ) {k : T → NEnv → NSr} {N : NEnv → Prop} {R : T → NEnv → Prop} (g : ∀ t ρ, K t ρ → nsrP (k t ρ) N R E) : nsrP (nlift (mE C e ρ) k) N R E :=
  nsrP_lift (nresP_mono (oE_ok h) g fun _ _ => id)
mutual
theorem vS_ok : ∀ (st : CS) (N : NEnv → Prop) (R : T → NEnv → Prop) (E : Exn → NEnv → Prop) (ρ : NEnv), vS C st N R E ρ → nsrP (msem C st ρ) N R E
  | .expr e, N, R, E, ρ, h => oE_lift h fun _ _ h => h
  | .asg tg e, N, R, E, ρ, h => oE_lift h fun t ρ h => by
    obtain ⟨ρ1, e, h⟩ := optP_ok h
    rw [e]
    exact h
  | .setf o f e, N, R, E, ρ, h => oE_lift h fun t ρ h => by
    split at h
    · obtain ⟨ρ1, e, h⟩ := optP_ok h
      try dsimp only
      rw [e]
      exact h
    · exact h.elim
  | .seti o i e, N, R, E, ρ, h => oE_lift h fun t ρ h => by
    obtain ⟨ρ1, e, h⟩ := h
    rw [e]
    exact h
  | .ret e, N, R, E, ρ, h => by
    have h : (match (generalizing := false) retV C e ρ with
      | some (t, ρ1) => R t ρ1
      | none => oE C e E R ρ) := h
    show nsrP (match retV C e ρ with
      | some (t, ρ1) => .rt t ρ1
      | none => nlift (mE C e ρ) fun t ρ => .rt t ρ) N R E
    cases q : retV C e ρ with
    | some p => rw [q] at h; exact h
    | none => rw [q] at h; exact oE_lift h fun _ _ h => h
  | .retn, N, R, E, ρ, h => h
  | .ite c a b, N, R, E, ρ, h => nsrP_lift (nresP_mono (vT_ok h) (fun k ρ h => by
    cases k with
    | true => exact vSs_ok a N R E ρ (h.1 rfl)
    | false => exact vSs_ok b N R E ρ (h.2 rfl)) fun _ _ => id)
  | .forS tg k src b, N, R, E, ρ, h => nsrP_lift (nresP_mono (vEs_ok src false E _ ρ h) (fun vs ρ h => by
    obtain ⟨xs, e, h⟩ := optP_ok h
    rw [e]
    exact h.go) fun _ _ => id)
  | .whl c b, N, R, E, ρ, h => WhN.go h
  | .tryS b c nm hd, N, R, E, ρ, h => by
    obtain ⟨h1, h2⟩ := h
    have z := vSs_ok b _ _ _ ρ h2
    show nsrP (if inLock C.lock nm = true then .no else (match msems C b ρ with
      | .ex x ρ1 => (match C.Q.P.sub x.c c with
        | some true => (match msems C hd (setNN ρ1 nm (.exc x)) with
          | .nx ρ2 => .nx (setNN (clrN ρ2) nm .non)
          | .rt t ρ2 => .rt t ρ2
          | _ => .no)
        | some false => .ex x ρ1
        | none => .no)
      | q => q)) N R E
    rw [h1, if_neg (by decide)]
    cases w : msems C b ρ with
    | nx ρ1 => rw [w] at z; exact z
    | rt t ρ1 => rw [w] at z; exact z
    | no => rw [w] at z; exact z
    | ex x ρ1 =>
      rw [w] at z
      have z : (match (generalizing := false) C.Q.P.sub x.c c with
        | some true => vSs C hd (fun ρ2 => N (setNN (clrN ρ2) nm .non)) R (fun _ _ => False) (setNN ρ1 nm (.exc x))
        | some false => E x ρ1
        | none => False) := z
      dsimp only
      cases y : C.Q.P.sub x.c c with
      | none => rw [y] at z; exact z.elim
      | some v =>
        rw [y] at z
        cases v with
        | false => exact z
        | true =>
          have z2 := vSs_ok hd _ _ _ _ z
          dsimp only
          cases w2 : msems C hd (setNN ρ1 nm (.exc x)) with
          | nx ρ2 => rw [w2] at z2; exact z2
          | rt t ρ2 => rw [w2] at z2; exact z2
          | ex y ρ2 => rw [w2] at z2; exact z2.elim
          | no => rw [w2] at z2; exact z2
  | .raise c, N, R, E, ρ, h => by
    show nsrP (if C.Q.P.xr c = true then .ex ⟨c, []⟩ ρ else .no) N R E
    rw [if_pos h.1]
    exact h.2
  | .raiseC c f e, N, R, E, ρ, h => oE_lift h fun t ρ h => by
    split at h
    · exact h
    · exact h.elim
  | .nop, N, R, E, ρ, h => h
  | .deli _ _, N, R, E, ρ, h => False.elim h
theorem vSs_ok : ∀ (st : CSs) (N : NEnv → Prop) (R : T → NEnv → Prop) (E : Exn → NEnv → Prop) (ρ : NEnv), vSs C st N R E ρ → nsrP (msems C st ρ) N R E
  | .nil, N, R, E, ρ, h => h
  | .cons a b, N, R, E, ρ, h => by
    have z := vS_ok a _ _ _ ρ h
    show nsrP (match msem C a ρ with
      | .nx ρ1 => msems C b ρ1
      | q => q) N R E
    cases w : msem C a ρ with
    | nx ρ1 => rw [w] at z; exact vSs_ok b N R E ρ1 z.go
    | rt t ρ1 => rw [w] at z; exact z
    | ex x ρ1 => rw [w] at z; exact z
    | no => rw [w] at z; exact z
end
variable {N : NEnv → Prop} {R : T → NEnv → Prop} {E : Exn → NEnv → Prop} {ρ : NEnv} {tg : Tg} {b : CSs}
theorem ForN.nil (h : N ρ) : ForN C b tg [] ρ N R E := ⟨h⟩
theorem ForN.cons {x : T} {xs : List T} (h : optP (bindN C.lock tg x ρ) fun ρ1 => vSs C b (fun ρ2 => ForN C b tg xs ρ2 N R E) R E ρ1) : ForN C b tg (x :: xs) ρ N R E := by
  obtain ⟨ρ1, e, h⟩ := optP_ok h
  refine ⟨?_⟩
  unfold mfor
  rw [e]
  have z := vSs_ok b _ _ _ _ h
  dsimp only
  cases w : msems C b ρ1 with
  | nx ρ2 => rw [w] at z; exact ForN.go z
  | rt t ρ2 => rw [w] at z; exact z
  | ex y ρ2 => rw [w] at z; exact z
  | no => rw [w] at z; exact z
/-- by an invariant of what was walked -/
theorem ForN.inv (I : List T → NEnv → Prop) {xs : List T} (h0 : I [] ρ) (step : ∀ pre x post ρ, xs = pre ++ x :: post → I pre ρ → optP (bindN C.lock tg x ρ) fun ρ1 => vSs C b (I (pre ++ [x])) R E ρ1) (fin : ∀ ρ, I xs ρ → N ρ) : ForN C b tg xs ρ N R E := by
  have go : ∀ (post pre : List T) (ρ : NEnv), xs = pre ++ post → I pre ρ → ForN C b tg post ρ N R E := fun post => by
    induction post with
    | nil => intro pre ρ e h; rw [List.append_nil] at e; subst e; exact .nil (fin ρ h)
    | cons x post ih =>
      intro pre ρ e h
      obtain ⟨ρ1, e1, h1⟩ := optP_ok (step pre x post ρ e h)
      refine ⟨?_⟩
      unfold mfor
      rw [e1]
      have z := vSs_ok b _ _ _ _ h1
      dsimp only
      cases w : msems C b ρ1 with
      | nx ρ2 => rw [w] at z; exact (ih (pre ++ [x]) ρ2 (by rw [e]; simp) z).go
      | rt t ρ2 => rw [w] at z; exact z
      | ex y ρ2 => rw [w] at z; exact z
      | no => rw [w] at z; exact z
  exact go xs [] ρ rfl h0
/-- a while by a measure -/
theorem WhN.by {c : CE} (I : Nat → NEnv → Prop) (step : ∀ n ρ, I n ρ → vT C c E (fun k ρ => iteQ k (vSs C b (fun ρ => ∃ m, m < n ∧ I m ρ) R E ρ) (N ρ)) ρ) :
    ∀ (f n : Nat) (ρ : NEnv), n < f → I n ρ → WhN C c b f ρ N R E
  | 0, n, ρ, h, _ => absurd h (Nat.not_lt_zero _)
  | f + 1, n, ρ, h, hi => by
    refine ⟨?_⟩
    have z : nresP (mT C c ρ) (fun k ρ => iteQ k (vSs C b (fun ρ => ∃ m, m < n ∧ I m ρ) R E ρ) (N ρ)) E := vT_ok (step n ρ hi)
    unfold mwh
    cases w : mT C c ρ with
    | ok k ρ1 =>
      rw [w] at z
      have z : iteQ k (vSs C b (fun ρ => ∃ m, m < n ∧ I m ρ) R E ρ1) (N ρ1) := z
      cases k with
      | false => exact z.2 rfl
      | true =>
        have y := vSs_ok b _ _ _ _ (z.1 rfl)
        dsimp only
        cases v : msems C b ρ1 with
        | nx ρ2 =>
          rw [v] at y
          obtain ⟨m, hm, hi2⟩ := y
          exact (WhN.by I step f m ρ2 (by omega) hi2).go
        | rt t ρ2 => rw [v] at y; exact y
        | ex x ρ2 => rw [v] at y; exact y
        | no => rw [v] at y; exact y
    | exc x ρ1 => rw [w] at z; exact z
    | no => rw [w] at z; exact z
/-! ### comprehensions -/
def nE0 : Exn → NEnv → Prop := fun _ _ => True
def lcSt (C : Nal) (tg : Tg) (cond : CEs) (elt : CE) (fz : Bool) (x : T) (K : Option T → NEnv → Prop) (ρ : NEnv) : Prop :=
  optP (bindN C.lock tg x ρ) fun ρ1 => vC C cond fz (fun _ _ => False) (fun k ρ2 => iteQ k (opP (vE C elt) (hasIo C.Q elt) (vars elt) fz (fun _ _ => False) (fun y ρ3 => K (some y) ρ3) ρ2) (K none ρ2)) ρ1
variable {cond : CEs} {elt : CE} {fz : Bool} {own : List Nat} {xs acc : List T}
theorem lcSt_ok {x : T} {K : Option T → NEnv → Prop} (h : lcSt C tg cond elt fz x K ρ) : nresP (lcBo C tg cond elt fz x ρ) K (fun _ _ => False) := by
  obtain ⟨ρ1, e, h⟩ := optP_ok h
  unfold lcBo
  rw [e]
  refine nresP_bind (nresP_mono (vC_ok h) (fun k ρ2 h => ?_) fun _ _ => id)
  cases k with
  | true => exact nresP_bind (opP_ok (vE_ok elt) (h.1 rfl))
  | false => exact h.2 rfl
theorem LcN.nil {K : List T → NEnv → Prop} (h : K acc ρ) : LcN C tg cond elt fz own [] acc ρ K := ⟨h⟩
theorem LcN.cons {x : T} {K : List T → NEnv → Prop} (h : lcSt C tg cond elt fz x (fun o ρ1 => LcN C tg cond elt fz own xs (acc ++ o.toList) ρ1 K) (wipeN ρ own)) : LcN C tg cond elt fz own (x :: xs) acc ρ K := by
  refine ⟨?_⟩
  unfold nlcGo
  have z := lcSt_ok h
  cases w : lcBo C tg cond elt fz x (wipeN ρ own) with
  | ok o ρ1 => rw [w] at z; exact LcN.go z
  | exc y ρ1 => rw [w] at z; exact z.elim
  | no => rw [w] at z; exact z.elim
theorem LcN.inv0 {K : List T → NEnv → Prop} (I : List T → List T → NEnv → Prop) (h0 : I [] acc ρ) (step : ∀ pre x post acc ρ, xs = pre ++ x :: post → I pre acc ρ → nresP (lcBo C tg cond elt fz x (wipeN ρ own)) (fun o ρ1 => I (pre ++ [x]) (acc ++ o.toList) ρ1) (fun _ _ => False)) (fin : ∀ acc ρ, I xs acc ρ → K acc ρ) : LcN C tg cond elt fz own xs acc ρ K := by
  have go : ∀ (post pre acc : List T) (ρ : NEnv), xs = pre ++ post → I pre acc ρ → LcN C tg cond elt fz own post acc ρ K := fun post => by
    induction post with
    | nil => intro pre acc ρ e h; rw [List.append_nil] at e; subst e; exact .nil (fin acc ρ h)
    | cons x post ih =>
      intro pre acc ρ e h
      refine ⟨?_⟩
      unfold nlcGo
      have z := step pre x post acc ρ e h
      cases w : lcBo C tg cond elt fz x (wipeN ρ own) with
      | ok o ρ1 => rw [w] at z; exact (ih (pre ++ [x]) _ ρ1 (by rw [e]; simp) z).go
      | exc y ρ1 => rw [w] at z; exact z.elim
      | no => rw [w] at z; exact z.elim
  exact go xs [] acc ρ rfl h0
theorem LcN.inv {K : List T → NEnv → Prop} (I : List T → List T → NEnv → Prop) (h0 : I [] acc ρ) (step : ∀ pre x post acc ρ, xs = pre ++ x :: post → I pre acc ρ → lcSt C tg cond elt fz x (fun o ρ1 => I (pre ++ [x]) (acc ++ o.toList) ρ1) (wipeN ρ own)) (fin : ∀ acc ρ, I xs acc ρ → K acc ρ) : LcN C tg cond elt fz own xs acc ρ K :=
  LcN.inv0 I h0 (fun pre x post acc ρ e h => lcSt_ok (step pre x post acc ρ e h)) fin
/-- each item gives what g says; nothing else happens -/
theorem LcN.map {K : List T → NEnv → Prop} (g : T → Option T) (step : ∀ x ∈ xs, lcSt C tg cond elt fz x (fun o ρ1 => o = g x ∧ wipeN ρ1 own = wipeN ρ own) (wipeN ρ own)) (fin : ∀ ρ', wipeN ρ' own = wipeN ρ own → K (acc ++ xs.filterMap g) ρ') : LcN C tg cond elt fz own xs acc ρ K := by
  refine LcN.inv0 (fun pre ac ρ' => ac = acc ++ pre.filterMap g ∧ wipeN ρ' own = wipeN ρ own) ⟨by simp, rfl⟩ (fun pre x post ac ρ' e h => ?_) (fun ac ρ' h => by rw [h.1]; exact fin ρ' h.2)
  obtain ⟨h1, h2⟩ := h
  rw [h2]
  subst h1
  exact nresP_mono (lcSt_ok (step x (by rw [e]; simp))) (fun o ρ1 q => ⟨by rw [List.filterMap_append, q.1]; cases z : g x <;> simp [z], q.2⟩) fun _ _ => id
theorem Wc.mono {q : CR} {K K' : T → List T → Prop} {E E' : Exn → List T → Prop} (h : Wc q K E) (k : ∀ t o, K t o → K' t o) (e : ∀ x o, E x o → E' x o) : Wc q K' E' := by
  refine ⟨?_⟩
  have h := h.go
  cases q with
  | ok t o => exact k t o h
  | exc x o => exact e x o h
  | no => exact h
theorem Wc.ok {q : CR} {K : T → List T → Prop} {E : Exn → List T → Prop} {t : T} {o : List T} (h : q = .ok t o) (k : K t o) : Wc q K E := ⟨by rw [h]; exact k⟩
theorem Wc.of {q : CR} {t : T} {o : List T} (h : Wc q (fun t' o' => t' = t ∧ o' = o) fun _ _ => False) : q = .ok t o := by
  have h := h.go
  cases q with
  | ok t o => rw [h.1, h.2]
  | exc x o => exact h.elim
  | no => exact h.elim
/-- a def's run -/
theorem Wc.run {Q : NP} {L n f : Nat} {q : Fn} {ts : List T} {K : T → List T → Prop} {E : Exn → List T → Prop} (h : Q.P.fns[f]? = some q) (hl : ts.length = q.np)
    (w : vSs ⟨Q, L, Q.io f, mrun Q L n⟩ q.body (fun ρ => K (.p .non) (outsOf (Q.io f) q.np ρ)) (fun t ρ => K t (outsOf (Q.io f) q.np ρ)) (fun x ρ => E x (outsOf (Q.io f) q.np ρ)) (mstart q.ns ts)) : Wc (mrun Q L (n + 1) f ts) K E := by
  refine ⟨?_⟩
  unfold mrun
  rw [h]
  dsimp only
  rw [if_pos hl]
  have z := vSs_ok q.body _ _ _ _ w
  cases y : msems ⟨Q, L, Q.io f, mrun Q L n⟩ q.body (mstart q.ns ts) with
  | nx ρ => rw [y] at z; exact z
  | rt t ρ => rw [y] at z; exact z
  | ex x ρ => rw [y] at z; exact z
  | no => rw [y] at z; exact z
end
end EW.EN

set_option Elab.async false
set_option linter.all false
set_option maxRecDepth 100000
set_option maxHeartbeats 4000000
/-! N layer 15: the draws, over trees. -/
namespace EW.EN
open PySem
def nxR : CSs := (.cons (.ite (.cmp .gt (.ix (.var 0) (.int 2)) (.int 0)) (.cons (.asg (.nm 4) (.bin .mod (.bi .int (.cons (.ix (.var 0) (.int 2)) .nil)) (.var 1))) (.cons (.seti (.var 0) (.int 2) (.bin .fdiv (.ix (.var 0) (.int 2)) (.var 1))) (.cons (.ret (.var 4)) .nil))) .nil) (.cons (.seti (.var 0) (.int 3) (.bin .mod (.bi .int (.cons (.bin .add (.bin .mul (.ix (.var 0) (.int 3)) (.int 48271)) (.int 12345)) .nil)) (.int 2147483647))) (.cons (.asg (.nm 2) (.bin .mod (.bi .int (.cons (.bin .add (.bin .mul (.ix (.var 0) (.int 3)) (.int 69621)) (.bin .fdiv (.ix (.var 0) (.int 3)) (.int 127))) .nil)) (.int 2147483629))) (.cons (.ret (.bin .mod (.bi .int (.cons (.var 2) .nil)) (.var 1))) .nil))))
def nxB : CSs := (.cons (.ite (.andl (.cons (.cmp .eq (.ix (.var 0) (.int 2)) (.int 0)) (.cons (.cmp .lt (.ix (.var 0) (.int 1)) (.bi .len (.cons (.ix (.var 0) (.int 0)) .nil))) .nil))) (.cons (.asg (.nm 3) (.bi .abs (.cons (.bi .int (.cons (.ix (.ix (.var 0) (.int 0)) (.ix (.var 0) (.int 1))) .nil)) .nil))) (.cons (.seti (.var 0) (.int 1) (.bin .add (.ix (.var 0) (.int 1)) (.int 1))) (.cons (.ite (.cmp .lt (.var 3) (.bin .pow (.int 10) (.int 18))) (.cons (.ret (.bin .mod (.bi .int (.cons (.var 3) .nil)) (.var 1))) .nil) .nil) (.cons (.seti (.var 0) (.int 2) (.var 3)) .nil)))) .nil) nxR)
def poB : CSs := (.cons (.asg (.nm 1) (.int 1)) (.cons (.forS (.nm 2) .plain (.cons (.var 0) .nil) (.cons (.asg (.nm 1) (.bin .mod (.bi .int (.cons (.bin .add (.bin .mul (.var 1) (.int 31)) (.var 2)) .nil)) (.int 2147483647))) .nil)) (.cons (.ret (.lst (.cons (.bi .lst (.cons (.var 0) .nil)) (.cons (.int 0) (.cons (.int 0) (.cons (.var 1) .nil)))))) .nil)))
def potT (cs : List Int) (i b sd : Int) : T := .lst true [.lp true (cs.map .int), .p (.int i), .p (.int b), .p (.int sd)]
structure PotI (i b sd : Int) : Prop where
  i0 : 0 ≤ i
  b0 : 0 ≤ b
  s0 : 0 ≤ sd
  s1 : sd < 2147483647
theorem bits_le' {i : Int} {m : Nat} (h : i.natAbs < 2 ^ m) : Builtin.Int.intBits i ≤ m := by
  unfold Builtin.Int.intBits
  split
  · exact Nat.zero_le _
  · rename_i q
    have q : i ≠ 0 := by simpa using q
    have := (Nat.log2_lt (n := i.natAbs) (k := m) (by omega)).mpr h
    omega
theorem mul_ok' {i j : Int} (m n : Nat) (h1 : i.natAbs < 2 ^ m) (h2 : j.natAbs < 2 ^ n) (h : m + n ≤ 134217728) : mulOk i j = true := by
  have := bits_le' h1
  have := bits_le' h2
  unfold mulOk
  exact decide_eq_true (by omega)
theorem at_map' {cs : List Int} {i : Int} (h0 : 0 ≤ i) (h1 : i < cs.length) : ∃ c, L2.atI (cs.map EW.D.int) i = some (.int c) := by
  have hl : i.toNat < cs.length := by omega
  refine ⟨cs[i.toNat], ?_⟩
  unfold L2.atI L2.ixN
  rw [List.length_map, if_pos h0, if_pos h1]
  show (cs.map EW.D.int)[i.toNat]? = _
  rw [List.getElem?_map, List.getElem?_eq_getElem hl]
  rfl
section
variable {Q : NP} {L : Nat} {call : Nat → List T → CR} {cs : List Int} {i b sd l : Int} {K : T → NEnv → Prop} {E : Exn → NEnv → Prop} {N : NEnv → Prop}
theorem nx_rest (p : PotI i b sd) (hl : 0 < l) (hl2 : l.natAbs.log2 < 9000) {z : Sl}
    (h : ∀ (v i' b' sd' : Int) (ρ' : NEnv), 0 ≤ v → v < l → PotI i' b' sd' → ρ'[0]? = some (.val (potT cs i' b' sd')) → K (.p (.int v)) ρ') :
    vSs ⟨Q, L, [0], call⟩ nxR N K E [.val (potT cs i b sd), .val (.p (.int l)), .non, z, .non] := by
  conv => whnf
  refine ⟨fun hb => ?_, fun hb => ?_⟩
  · conv => whnf
    refine ⟨hl, ?_⟩
    conv => whnf
    refine ⟨?_⟩
    conv => whnf
    refine ⟨⟨hl, hl2⟩, ?_⟩
    conv => whnf
    refine ⟨_, rfl, ?_⟩
    conv => whnf
    refine ⟨?_⟩
    have hb := of_decide_eq_true hb
    exact h (b % l) i (b / l) sd _ (Int.emod_nonneg _ (by omega)) (Int.emod_lt_of_pos _ hl) ⟨p.i0, Int.ediv_nonneg p.b0 (by omega), p.s0, p.s1⟩ rfl
  · conv => whnf
    refine ⟨?_⟩
    conv => whnf
    have hs0 := p.s0
    have hs1 := p.s1
    refine ⟨mul_ok' 31 17 (by omega) (by decide) (by decide), ?_⟩
    conv => whnf
    refine ⟨by decide, ?_⟩
    conv => whnf
    refine ⟨_, rfl, ?_⟩
    conv => whnf
    refine ⟨?_⟩
    have g0 : 0 ≤ (sd * 48271 + 12345) % 2147483647 := Int.emod_nonneg _ (by decide)
    have g1 : (sd * 48271 + 12345) % 2147483647 < 2147483647 := Int.emod_lt_of_pos _ (by decide)
    conv => whnf
    refine ⟨mul_ok' 31 17 (by omega) (by decide) (by decide), ?_⟩
    conv => whnf
    refine ⟨by decide +kernel, ?_⟩
    conv => whnf
    refine ⟨by decide, ?_⟩
    conv => whnf
    refine ⟨?_⟩
    conv => whnf
    refine ⟨hl, ?_⟩
    exact h _ _ _ _ _ (Int.emod_nonneg _ (by omega)) (Int.emod_lt_of_pos _ hl) ⟨p.i0, p.b0, g0, g1⟩ rfl
theorem nx_n (p : PotI i b sd) (hl : 0 < l) (hl2 : l.natAbs.log2 < 9000)
    (h : ∀ (v i' b' sd' : Int) (ρ' : NEnv), 0 ≤ v → v < l → PotI i' b' sd' → ρ'[0]? = some (.val (potT cs i' b' sd')) → K (.p (.int v)) ρ') :
    vSs ⟨Q, L, [0], call⟩ nxB N K E [.val (potT cs i b sd), .val (.p (.int l)), .non, .non, .non] := by
  conv => whnf
  refine ⟨fun hb => ?_, fun hb => ?_⟩
  · conv => whnf
    refine ⟨fun hi => ?_, fun hi => ?_⟩
    · have hi := of_decide_eq_true hi
      rw [List.length_map] at hi
      obtain ⟨c, hc⟩ := at_map' p.i0 hi
      conv => whnf
      refine optP_at (nix_lp hc) ?_
      conv => whnf
      refine ⟨?_⟩
      conv => whnf
      refine ⟨_, rfl, ?_⟩
      conv => whnf
      refine ⟨?_⟩
      have hi0 := p.i0
      conv => whnf
      refine ⟨by decide, ?_⟩
      conv => whnf
      refine ⟨fun hq => ?_, fun hq => ?_⟩
      · conv => whnf
        refine ⟨hl, ?_⟩
        exact h _ _ _ _ _ (Int.emod_nonneg _ (by omega)) (Int.emod_lt_of_pos _ hl) ⟨by omega, p.b0, p.s0, p.s1⟩ rfl
      · conv => whnf
        refine ⟨?_⟩
        conv => whnf
        refine ⟨_, rfl, ?_⟩
        conv => whnf
        refine ⟨?_⟩
        conv => whnf
        refine ⟨?_⟩
        exact nx_rest (cs := cs) (i := i + 1) (b := if c < 0 then -c else c) (sd := sd) ⟨by omega, by split <;> omega, p.s0, p.s1⟩ hl hl2 h
    · conv => whnf
      refine ⟨?_⟩
      exact nx_rest p hl hl2 h
  · conv => whnf
    refine ⟨fun hq => ?_, fun hq => ?_⟩
    · exact Bool.noConfusion (hb.symm.trans hq)
    · conv => whnf
      refine ⟨?_⟩
      exact nx_rest p hl hl2 h
theorem po_n {xs : List Int} (h : ∀ (sd : Int) (ρ' : NEnv), PotI 0 0 sd → K (potT xs 0 0 sd) ρ') : vSs ⟨Q, L, [], call⟩ poB N K E [.val (.rol (xs.map .int)), .non, .non] := by
  conv => whnf
  refine ⟨?_⟩
  conv => whnf
  refine ForN.inv (fun pre ρ => ∃ (sd : Int) (z : Sl), ρ = [.val (.rol (xs.map .int)), .val (.p (.int sd)), z] ∧ 0 ≤ sd ∧ sd < 2147483647) ⟨1, .non, rfl, by decide, by decide⟩ ?_ ?_
  · rintro pre x post ρ e ⟨sd, z, rfl, h0, h1⟩
    obtain ⟨d, hd, rfl⟩ : ∃ d : Int, d ∈ xs ∧ T.p (.int d) = x := by
      have : x ∈ (xs.map EW.D.int).map T.p := by rw [e]; simp
      obtain ⟨y, hy, rfl⟩ := List.mem_map.mp this
      obtain ⟨d, hd, rfl⟩ := List.mem_map.mp hy
      exact ⟨d, hd, rfl⟩
    conv => whnf
    refine ⟨mul_ok' 31 5 (by omega) (by decide) (by decide), ?_⟩
    conv => whnf
    refine ⟨by decide, ?_⟩
    conv => whnf
    refine ⟨?_⟩
    exact ⟨_, _, rfl, Int.emod_nonneg _ (by decide), Int.emod_lt_of_pos _ (by decide)⟩
  · rintro ρ ⟨sd, z, rfl, h0, h1⟩
    refine ⟨?_⟩
    conv => whnf
    exact h sd _ ⟨by decide, by decide, h0, h1⟩
end
/-- a draw -/
theorem nx_call {Q : NP} {L n f : Nat} {cs : List Int} {i b sd l : Int} {K : T → List T → Prop} {E : Exn → List T → Prop} (hf : Q.P.fns[f]? = some ⟨2, 5, nxB⟩) (hio : Q.io f = [0]) (p : PotI i b sd) (hl : 0 < l) (hl2 : l < 2 ^ 64)
    (h : ∀ v i' b' sd' : Int, 0 ≤ v → v < l → PotI i' b' sd' → K (.p (.int v)) [potT cs i' b' sd', .hole]) : Wc (mrun Q L (n + 1) f [potT cs i b sd, .p (.int l)]) K E := by
  refine Wc.run hf rfl ?_
  rw [hio]
  refine nx_n p hl ?_ fun v i' b' sd' ρ' h1 h2 h3 h4 => ?_
  · have h5 : l.natAbs < 2 ^ 64 := by omega
    have := (Nat.log2_lt (n := l.natAbs) (k := 64) (by omega)).mpr h5
    omega
  · have : outsOf [0] 2 ρ' = [potT cs i' b' sd', .hole] := by
      show [(match ρ'[0]? with
        | some z => tOf z
        | none => .hole), .hole] = _
      rw [h4]
      rfl
    show K (.p (.int v)) (outsOf [0] 2 ρ')
    rw [this]
    exact h v i' b' sd' h1 h2 h3
theorem po_call {Q : NP} {L n f : Nat} {xs : List Int} {K : T → List T → Prop} {E : Exn → List T → Prop} (hf : Q.P.fns[f]? = some ⟨1, 3, poB⟩) (hio : Q.io f = [])
    (h : ∀ sd : Int, PotI 0 0 sd → K (potT xs 0 0 sd) [.hole]) : Wc (mrun Q L (n + 1) f [.rol (xs.map .int)]) K E := by
  refine Wc.run hf rfl ?_
  rw [hio]
  exact po_n fun sd ρ' p => h sd p
end EW.EN

set_option Elab.async false
set_option linter.all false
set_option maxRecDepth 100000
set_option maxHeartbeats 1000000
/-! N layer 16: == of plain data; lists of ints. -/
namespace EW.EN
open PySem
mutual
/-- data without bools, places -/
def qd : D → Bool
  | .non => true
  | .int _ => true
  | .str x => PyData.canLay0 (.str (strOf x))
  | .tup xs => qds xs
  | .bl _ => false
  | .ref _ => false
def qds : List D → Bool
  | [] => true
  | x :: xs => qd x && qds xs
end
mutual
def dep : D → Nat
  | .tup xs => deps xs + 1
  | .non => 0
  | .int _ => 0
  | .str _ => 0
  | .bl _ => 0
  | .ref _ => 0
def deps : List D → Nat
  | [] => 0
  | x :: xs => max (dep x) (deps xs)
end
mutual
def pdOf : D → PyData
  | .non => .none
  | .int i => .int i
  | .str x => .str (strOf x)
  | .tup xs => .tuple (pdOfs xs)
  | .bl b => .bool b
  | .ref _ => .none
def pdOfs : List D → List PyData
  | [] => []
  | x :: xs => pdOf x :: pdOfs xs
end
mutual
theorem toPd_of : ∀ (n : Nat) (x : D), qd x = true → dep x ≤ n → toPd [] n x = some (pdOf x)
  | n, .non, _, _ => by cases n <;> (unfold toPd pdOf; rfl)
  | n, .int i, _, _ => by cases n <;> (unfold toPd pdOf; rfl)
  | n, .str x, _, _ => by cases n <;> (unfold toPd pdOf; rfl)
  | n, .bl _, h, _ => by unfold qd at h; cases h
  | n, .ref _, h, _ => by unfold qd at h; cases h
  | 0, .tup xs, _, h => by unfold dep at h; omega
  | n + 1, .tup xs, h, hd => by
    unfold qd at h
    unfold dep at hd
    unfold toPd pdOf
    rw [toPds_of n xs h (by omega)]
    rfl
theorem toPds_of : ∀ (n : Nat) (xs : List D), qds xs = true → deps xs ≤ n → omap (toPd [] n) xs = some (pdOfs xs)
  | n, [], _, _ => by unfold pdOfs; rfl
  | n, x :: xs, h, hd => by
    unfold qds at h
    unfold deps at hd
    rw [Bool.and_eq_true] at h
    unfold omap pdOfs
    rw [toPd_of n x h.1 (by omega)]
    dsimp only
    rw [toPds_of n xs h.2 (by omega)]
end
theorem strOf_inj {x y : List Nat} (h : strOf x = strOf y) : x = y := by
  unfold strOf at h
  injection h with h
  simpa using congrArg Array.toList h
mutual
theorem eqv_of : ∀ (a b : D), qd a = true → qd b = true → PyData.eqv (pdOf a) (pdOf b) = D.beq a b
  | .bl _, _, h, _ => by unfold qd at h; cases h
  | .ref _, _, h, _ => by unfold qd at h; cases h
  | .non, .bl _, _, h => by unfold qd at h; cases h
  | .int _, .bl _, _, h => by unfold qd at h; cases h
  | .str _, .bl _, _, h => by unfold qd at h; cases h
  | .tup _, .bl _, _, h => by unfold qd at h; cases h
  | .non, .ref _, _, h => by unfold qd at h; cases h
  | .int _, .ref _, _, h => by unfold qd at h; cases h
  | .str _, .ref _, _, h => by unfold qd at h; cases h
  | .tup _, .ref _, _, h => by unfold qd at h; cases h
  | .non, .non, _, _ => by unfold pdOf PyData.eqv D.beq; rfl
  | .non, .int _, _, _ => by unfold pdOf PyData.eqv D.beq; rfl
  | .non, .str _, _, _ => by unfold pdOf PyData.eqv D.beq; rfl
  | .non, .tup _, _, _ => by unfold pdOf PyData.eqv D.beq; rfl
  | .int _, .non, _, _ => by unfold pdOf PyData.eqv D.beq; rfl
  | .int _, .int _, _, _ => by unfold pdOf PyData.eqv D.beq; rfl
  | .int _, .str _, _, _ => by unfold pdOf PyData.eqv D.beq; rfl
  | .int _, .tup _, _, _ => by unfold pdOf PyData.eqv D.beq; rfl
  | .str _, .non, _, _ => by unfold pdOf PyData.eqv D.beq; rfl
  | .str _, .int _, _, _ => by unfold pdOf PyData.eqv D.beq; rfl
  | .str x, .str y, _, _ => by
    unfold pdOf PyData.eqv D.beq
    by_cases e : x = y
    · subst e; simp
    · have : strOf x ≠ strOf y := fun h => e (strOf_inj h)
      rw [beq_eq_false_iff_ne.mpr this, beq_eq_false_iff_ne.mpr e]
  | .str _, .tup _, _, _ => by unfold pdOf PyData.eqv D.beq; rfl
  | .tup _, .non, _, _ => by unfold pdOf PyData.eqv D.beq; rfl
  | .tup _, .int _, _, _ => by unfold pdOf PyData.eqv D.beq; rfl
  | .tup _, .str _, _, _ => by unfold pdOf PyData.eqv D.beq; rfl
  | .tup xs, .tup ys, h1, h2 => by
    unfold qd at h1 h2
    unfold pdOf PyData.eqv D.beq
    exact eqvs_of xs ys h1 h2
theorem eqvs_of : ∀ (xs ys : List D), qds xs = true → qds ys = true → PyData.eqvAll (pdOfs xs) (pdOfs ys) = D.beqs xs ys
  | [], [], _, _ => by unfold pdOfs PyData.eqvAll D.beqs; rfl
  | [], y :: ys, _, _ => by unfold pdOfs PyData.eqvAll D.beqs; rfl
  | x :: xs, [], _, _ => by unfold pdOfs PyData.eqvAll D.beqs; rfl
  | x :: xs, y :: ys, h1, h2 => by
    unfold qds at h1 h2
    rw [Bool.and_eq_true] at h1 h2
    unfold pdOfs PyData.eqvAll D.beqs
    rw [eqv_of x y h1.1 h2.1, eqvs_of xs ys h1.2 h2.2]
end
mutual
theorem lay_of : ∀ (a : D), qd a = true → PyData.canLay0 (pdOf a) = true ∧ PyData.depth (pdOf a) = dep a
  | .bl _, h => by unfold qd at h; cases h
  | .ref _, h => by unfold qd at h; cases h
  | .non, _ => by unfold pdOf dep; exact ⟨by unfold PyData.canLay0; rfl, by unfold PyData.depth; rfl⟩
  | .int _, _ => by unfold pdOf dep; exact ⟨by unfold PyData.canLay0; rfl, by unfold PyData.depth; rfl⟩
  | .str _, h => by unfold qd at h; unfold pdOf dep; exact ⟨h, by unfold PyData.depth; rfl⟩
  | .tup xs, h => by
    unfold qd at h
    obtain ⟨h1, h2⟩ := lays_of xs h
    unfold pdOf dep
    exact ⟨by unfold PyData.canLay0; exact h1, by unfold PyData.depth; rw [h2]⟩
theorem lays_of : ∀ (xs : List D), qds xs = true → PyData.canLayAll0 (pdOfs xs) = true ∧ PyData.depthAll (pdOfs xs) = deps xs
  | [], _ => by unfold pdOfs deps; exact ⟨by unfold PyData.canLayAll0; rfl, by unfold PyData.depthAll; rfl⟩
  | x :: xs, h => by
    unfold qds at h
    rw [Bool.and_eq_true] at h
    obtain ⟨h1, h2⟩ := lay_of x h.1
    obtain ⟨h3, h4⟩ := lays_of xs h.2
    unfold pdOfs deps
    exact ⟨by unfold PyData.canLayAll0; rw [h1, h3]; rfl, by unfold PyData.depthAll; rw [h2, h4]⟩
end
theorem beq_dec (a b : D) : D.beq a b = decide (a = b) := by
  by_cases h : a = b
  · subst h; rw [D.beq_self, decide_eq_true rfl]
  · rw [decide_eq_false h]
    cases q : D.beq a b with
    | false => rfl
    | true => exact (h (D.eq_of_beq a b q)).elim
theorem beqs_dec (a b : List D) : D.beqs a b = decide (a = b) := by
  by_cases h : a = b
  · subst h; rw [D.beqs_self, decide_eq_true rfl]
  · rw [decide_eq_false h]
    cases q : D.beqs a b with
    | false => rfl
    | true => exact (h (D.eqs_of_beqs a b q)).elim
theorem shaped_of {a : D} (h : qd a = true) (hd : dep a ≤ 64) : SeqAt.shaped (pdOf a) = true := by
  obtain ⟨h1, h2⟩ := lay_of a h
  unfold SeqAt.shaped
  rw [h1, h2, decide_eq_true hd]
  rfl
/-- == of plain data -/
theorem neq_p {a b : D} (h1 : qd a = true) (h2 : qd b = true) (d1 : dep a ≤ 64) (d2 : dep b ≤ 64) : neq (.p a) (.p b) = some (decide (a = b)) := by
  unfold neq
  have e1 : ntoPd 64 (.p a) = some (pdOf a) := by unfold ntoPd; exact toPd_of 64 a h1 d1
  have e2 : ntoPd 64 (.p b) = some (pdOf b) := by unfold ntoPd; exact toPd_of 64 b h2 d2
  rw [e1, e2]
  dsimp only
  rw [shaped_of h1 d1, shaped_of h2 d2, eqv_of a b h1 h2, beq_dec]
  rfl
theorem neq_lp {o o' : Bool} {xs ys : List D} (h1 : qds xs = true) (h2 : qds ys = true) (d1 : deps xs ≤ 63) (d2 : deps ys ≤ 63) : neq (.lp o xs) (.lp o' ys) = some (decide (xs = ys)) := by
  unfold neq
  have sh : ∀ {zs : List D}, qds zs = true → deps zs ≤ 63 → SeqAt.shaped (.list (pdOfs zs)) = true := fun {zs} h d => by
    obtain ⟨q1, q2⟩ := lays_of zs h
    unfold SeqAt.shaped
    rw [show PyData.canLay0 (.list (pdOfs zs)) = true by unfold PyData.canLay0; exact q1, show PyData.depth (.list (pdOfs zs)) = deps zs + 1 by unfold PyData.depth; rw [q2], decide_eq_true (by omega)]
    rfl
  have e1 : ntoPd 64 (.lp o xs) = some (.list (pdOfs xs)) := by unfold ntoPd; rw [toPds_of 63 xs h1 d1]; rfl
  have e2 : ntoPd 64 (.lp o' ys) = some (.list (pdOfs ys)) := by unfold ntoPd; rw [toPds_of 63 ys h2 d2]; rfl
  rw [e1, e2]
  dsimp only
  rw [sh h1 d1, sh h2 d2]
  have e3 : PyData.eqv (.list (pdOfs xs)) (.list (pdOfs ys)) = decide (xs = ys) := by unfold PyData.eqv; rw [eqvs_of xs ys h1 h2, beqs_dec]
  rw [e3]
  rfl
/-! ### tuples of ints -/
def iT (xs : List Int) : D := .tup (xs.map .int)
theorem qds_ints : ∀ xs : List Int, qds (xs.map D.int) = true
  | [] => by unfold qds; rfl
  | x :: xs => by
    show qds (D.int x :: xs.map D.int) = true
    unfold qds
    rw [qds_ints xs]
    unfold qd
    rfl
theorem deps_ints : ∀ xs : List Int, deps (xs.map D.int) = 0
  | [] => by unfold deps; rfl
  | x :: xs => by
    show deps (D.int x :: xs.map D.int) = 0
    unfold deps
    rw [deps_ints xs]
    unfold dep
    rfl
theorem iT_inj {xs ys : List Int} : iT xs = iT ys ↔ xs = ys := by
  constructor
  · intro h
    unfold iT at h
    injection h with h
    exact (List.map_inj_right (fun a b e => by injection e)).mp h
  · intro h; rw [h]
theorem neq_iT (xs ys : List Int) : neq (.p (iT xs)) (.p (iT ys)) = some (decide (xs = ys)) := by
  have q : ∀ zs, qd (iT zs) = true ∧ dep (iT zs) ≤ 64 := fun zs => ⟨by unfold iT qd; exact qds_ints zs, by unfold iT dep; rw [deps_ints]; decide⟩
  rw [neq_p (q xs).1 (q ys).1 (q xs).2 (q ys).2]
  congr 1
  exact decide_eq_decide.mpr iT_inj
theorem neq_li (o o' : Bool) (xs ys : List Int) : neq (.lp o (xs.map .int)) (.lp o' (ys.map .int)) = some (decide (xs = ys)) := by
  rw [neq_lp (qds_ints xs) (qds_ints ys) (by rw [deps_ints]; decide) (by rw [deps_ints]; decide)]
  congr 1
  exact decide_eq_decide.mpr ⟨fun h => (List.map_inj_right (fun a b e => by injection e)).mp h, fun h => by rw [h]⟩
theorem omap_ints : ∀ xs : List Int, omap intOf (xs.map D.int) = some xs
  | [] => rfl
  | x :: xs => by
    show omap intOf (D.int x :: xs.map D.int) = _
    unfold omap
    rw [omap_ints xs]
    rfl
theorem omap_bls : ∀ bs : List Bool, omap blOf (bs.map D.bl) = some bs
  | [] => rfl
  | x :: xs => by
    show omap blOf (D.bl x :: xs.map D.bl) = _
    unfold omap
    rw [omap_bls xs]
    rfl
theorem plainL_map : ∀ xs : List D, plainL (xs.map T.p) = some xs
  | [] => rfl
  | x :: xs => by
    show plainL (T.p x :: xs.map T.p) = _
    unfold plainL
    rw [plainL_map xs]
theorem mkLst_map (xs : List D) : mkLst (xs.map T.p) = .lp true xs := by unfold mkLst; rw [plainL_map]
theorem mkTup_map (xs : List D) : mkTup (xs.map T.p) = .p (.tup xs) := by unfold mkTup; rw [plainL_map]
theorem fm_map {α β : Type} (f : α → T) (g : T → Option β) (h : α → β) (xs : List α) (e : ∀ x ∈ xs, g (f x) = some (h x)) : (xs.map f).filterMap g = xs.map h := by
  induction xs with
  | nil => rfl
  | cons x xs ih =>
    rw [List.map_cons, List.filterMap_cons, e x (.head _), List.map_cons]
    dsimp only
    rw [ih fun y hy => e y (.tail _ hy)]
theorem cut_all {α : Type} (xs : List α) : cutL xs none none = xs := by
  unfold cutL HT.sIx
  simp
theorem cut_to {α : Type} (xs : List α) (m : Nat) : cutL xs none (some (m : Int)) = xs.take m := by
  unfold cutL HT.sIx
  dsimp only
  rw [if_neg (by omega), List.drop_zero, Nat.sub_zero, Int.toNat_natCast]
  by_cases h : m ≤ xs.length
  · rw [Nat.min_eq_left h]
  · rw [Nat.min_eq_right (by omega), List.take_of_length_le (Nat.le_refl _), List.take_of_length_le (by omega)]
/-! ### comprehensions of two fors -/
section
variable {C : Nal} {tg tg1 : Tg} {cond cond1 src1 : CEs} {elt : CE} {own own1 : List Nat} {k1 : IK} {fz : Bool} {xs acc : List T} {ρ : NEnv} {K : List T → NEnv → Prop}
def lc2St (C : Nal) (tg : Tg) (cond : CEs) (own1 : List Nat) (tg1 : Tg) (k1 : IK) (src1 cond1 : CEs) (elt : CE) (fz : Bool) (x : T) (acc : List T) (K : List T → NEnv → Prop) (ρ : NEnv) : Prop :=
  optP (bindN C.lock tg x ρ) fun ρ1 => vC C cond fz (fun _ _ => False) (fun k ρ2 => iteQ k (vEs C src1 fz (fun _ _ => False) (fun vs ρ3 => optP (nIt k1 vs) fun ys => LcN C tg1 cond1 elt fz own1 ys acc ρ3 K) ρ2) (K acc ρ2)) ρ1
theorem lc2St_ok {x : T} (h : lc2St C tg cond own1 tg1 k1 src1 cond1 elt fz x acc K ρ) : nresP (lcBo2 C tg cond own1 tg1 k1 src1 cond1 elt fz x acc ρ) K (fun _ _ => False) := by
  obtain ⟨ρ1, e, h⟩ := optP_ok h
  unfold lcBo2
  rw [e]
  refine nresP_bind (nresP_mono (vC_ok h) (fun k ρ2 h => ?_) fun _ _ => id)
  cases k with
  | true =>
    refine nresP_bind (nresP_mono (vEs_ok src1 fz _ _ ρ2 (h.1 rfl)) (fun vs ρ3 h => ?_) fun _ _ => id)
    obtain ⟨ys, e, h⟩ := optP_ok h
    rw [e]
    exact h.go
  | false => exact h.2 rfl
theorem Lc2N.inv (I : List T → List T → NEnv → Prop) (h0 : I [] acc ρ) (step : ∀ pre x post acc ρ, xs = pre ++ x :: post → I pre acc ρ → lc2St C tg cond own1 tg1 k1 src1 cond1 elt fz x acc (fun acc1 ρ1 => acc1.length ≤ sizeLine ∧ I (pre ++ [x]) acc1 ρ1) (wipeN ρ own)) (fin : ∀ acc ρ, I xs acc ρ → K acc ρ) : Lc2N C tg cond own1 tg1 k1 src1 cond1 elt fz own xs acc ρ K := by
  have go : ∀ (post pre acc : List T) (ρ : NEnv), xs = pre ++ post → I pre acc ρ → Lc2N C tg cond own1 tg1 k1 src1 cond1 elt fz own post acc ρ K := fun post => by
    induction post with
    | nil => intro pre acc ρ e h; rw [List.append_nil] at e; subst e; exact ⟨fin acc ρ h⟩
    | cons x post ih =>
      intro pre acc ρ e h
      refine ⟨?_⟩
      unfold nlcOut
      have z := lc2St_ok (step pre x post acc ρ e h)
      cases w : lcBo2 C tg cond own1 tg1 k1 src1 cond1 elt fz x acc (wipeN ρ own) with
      | ok acc1 ρ1 =>
        rw [w] at z
        obtain ⟨z1, z2⟩ := z
        dsimp only
        rw [if_pos z1]
        exact (ih (pre ++ [x]) acc1 ρ1 (by rw [e]; simp) z2).go
      | exc y ρ1 => rw [w] at z; exact z.elim
      | no => rw [w] at z; exact z.elim
  exact go xs [] acc ρ rfl h0
end
/-! ### words for reckoning -/
theorem nbi_sorted {t : T} {ds : List D} {ns : List Int} (h : plainI t = some ds) (h2 : omap intOf ds = some ns) : nbi .sorted [t] = some (.lp true ((sortI ns).map .int)) := by
  show (plainI t).bind _ = _
  rw [h]
  show (omap intOf ds).map _ = _
  rw [h2]
  rfl
theorem nbi_all {o : Bool} {bs : List Bool} : nbi .all [.lp o (bs.map .bl)] = some (.p (.bl (bs.all id))) := by
  show (omap blOf (bs.map D.bl)).map _ = _
  rw [omap_bls]
  rfl
theorem nbi_any {o : Bool} {bs : List Bool} : nbi .any [.lp o (bs.map .bl)] = some (.p (.bl (bs.any id))) := by
  show (omap blOf (bs.map D.bl)).map _ = _
  rw [omap_bls]
  rfl
theorem nIt_r1 {j : Int} (h : -(2 ^ 62) ≤ j ∧ j ≤ sizeLine) : nIt .range1 [.p (.int j)] = some ((List.range j.toNat).map fun i => T.p (.int (0 + (i : Nat)))) := if_pos h
theorem eqF_int (i j : Int) : eqF (.int i) (.int j) = decide (i = j) := rfl
theorem nin_iT (i : Int) (xs : List Int) : ncmp .isin (.p (.int i)) (.p (iT xs)) = some (decide (i ∈ xs)) := by
  show (if flatD (.int i) && (xs.map D.int).all flatD then some ((xs.map D.int).any fun y => eqF y (.int i)) else none) = _
  have h : (xs.map D.int).all flatD = true := by
    rw [List.all_map, List.all_eq_true]
    intro x _
    rfl
  rw [h, if_pos (show (flatD (D.int i) && true) = true from rfl)]
  congr 1
  rw [List.any_map]
  have : (xs.any ((fun y => eqF y (.int i)) ∘ D.int)) = xs.any fun x => decide (x = i) := by
    congr 1
  rw [this]
  by_cases hm : i ∈ xs
  · rw [decide_eq_true hm, List.any_eq_true]
    exact ⟨i, hm, decide_eq_true rfl⟩
  · rw [decide_eq_false hm, List.any_eq_false]
    intro x hx q
    exact hm (of_decide_eq_true q ▸ hx)
theorem atI_nat {α : Type} {xs : List α} {k : Nat} (h : k < xs.length) : L2.atI xs (0 + (k : Int)) = some xs[k] := by
  unfold L2.atI L2.ixN
  rw [if_pos (by omega), if_pos (by omega)]
  show xs[(0 + (k : Int)).toNat]? = _
  rw [Int.zero_add, Int.toNat_natCast, List.getElem?_eq_getElem h]
theorem mem_map_p {xs : List D} {x : T} (h : x ∈ xs.map T.p) : ∃ d ∈ xs, x = .p d := by
  obtain ⟨d, h1, h2⟩ := List.mem_map.mp h
  exact ⟨d, h1, h2.symm⟩
theorem mem_ints {xs : List Int} {x : T} (h : x ∈ (xs.map D.int).map T.p) : ∃ i ∈ xs, x = .p (.int i) := by
  obtain ⟨d, h1, rfl⟩ := mem_map_p h
  obtain ⟨i, h2, rfl⟩ := List.mem_map.mp h1
  exact ⟨i, h2, rfl⟩
theorem mem_rng {n : Nat} {x : T} (h : x ∈ (List.range n).map fun i => T.p (.int (0 + (i : Nat)))) : ∃ k < n, x = .p (.int (0 + (k : Nat))) := by
  obtain ⟨k, h1, h2⟩ := List.mem_map.mp h
  exact ⟨k, List.mem_range.mp h1, h2.symm⟩
theorem pre_mem {α : Type} {xs pre post : List α} {x : α} (e : xs = pre ++ x :: post) : x ∈ xs := by rw [e]; simp
theorem qd_iT (zs : List Int) : qd (iT zs) = true := by unfold iT qd; exact qds_ints zs
theorem dep_iT (zs : List Int) : dep (iT zs) = 1 := by unfold iT dep; rw [deps_ints]
/-! ### an environment, written out -/
section
variable {C : Nal} {ρ ρ' : NEnv}
theorem vSs_env {b : CSs} {N : NEnv → Prop} {R : T → NEnv → Prop} {E : Exn → NEnv → Prop} (h : ρ = ρ') (g : vSs C b N R E ρ') : vSs C b N R E ρ := h ▸ g
theorem ForN_env {b : CSs} {tg : Tg} {xs : List T} {N : NEnv → Prop} {R : T → NEnv → Prop} {E : Exn → NEnv → Prop} (h : ρ = ρ') (g : ForN C b tg xs ρ' N R E) : ForN C b tg xs ρ N R E := h ▸ g
theorem LcN_env {tg : Tg} {cond : CEs} {elt : CE} {fz : Bool} {own : List Nat} {xs acc : List T} {K : List T → NEnv → Prop} (h : ρ = ρ') (g : LcN C tg cond elt fz own xs acc ρ' K) : LcN C tg cond elt fz own xs acc ρ K := h ▸ g
theorem LcN.consE {tg : Tg} {cond : CEs} {elt : CE} {fz : Bool} {own : List Nat} {x : T} {xs acc : List T} {K : List T → NEnv → Prop} (e : wipeN ρ own = ρ') (h : lcSt C tg cond elt fz x (fun o ρ1 => LcN C tg cond elt fz own xs (acc ++ o.toList) ρ1 K) ρ') : LcN C tg cond elt fz own (x :: xs) acc ρ K := LcN.cons (e ▸ h)
theorem lcSt_env {tg : Tg} {cond : CEs} {elt : CE} {fz : Bool} {x : T} {K : Option T → NEnv → Prop} (h : ρ = ρ') (g : lcSt C tg cond elt fz x K ρ') : lcSt C tg cond elt fz x K ρ := h ▸ g
end
end EW.EN

set_option Elab.async false
set_option linter.all false
set_option maxRecDepth 100000
set_option maxHeartbeats 0
namespace K31
open EW PySem PySem.Spec PyProof.Rows L2
def top (i : Nat) : Stmt := PySem.Challenge.pw_everyworth_k31_only_written_forms_are_re.main.body.getD i (.Pass ⟨0, 0, 0, 0⟩)
def inCls (s : Stmt) (k : Nat) : Stmt := match s with
  | .ClassDef _ _ _ b _ _ _ _ _ _ _ => b.getD k (.Pass ⟨0, 0, 0, 0⟩)
  | _ => .Pass ⟨0, 0, 0, 0⟩
abbrev st0 : Stmt := top 4
/-- is_number: thing -/
def b0 : CSs := (.cons (.ret (.andl (.cons (.isi (.var 0) [.int]) (.cons (.nt (.isi (.var 0) [.bool])) .nil)))) .nil)
def t0 : FT := ⟨["thing"], ["thing"], b0⟩
def d0 : He.DefD := ⟨("is_number", none), "is_number", "is_number", defArgs st0, defBody st0, defScope st0, [], []⟩
abbrev st1 : Stmt := top 10
/-- write: thing, part -/
def b1 : CSs := (.cons (.ite (.call 0 (.cons (.var 0) .nil)) (.cons (.ret (.bi .str (.cons (.var 0) .nil))) .nil) .nil) (.cons (.ite (.isi (.var 0) [.str]) (.cons (.ret (.bi .fstr (.cons (.bi .fmt (.cons (.bi .len (.cons (.var 0) .nil)) .nil)) (.cons (.str [58]) (.cons (.bi .fmt (.cons (.var 0) .nil)) .nil))))) .nil) .nil) (.cons (.ret (.bin .add (.bin .add (.str [40]) (.bm .join (.str [44]) (.cons (.lc [1] (.nm 1) .plain (.cons (.var 0) .nil) .nil (.call 1 (.cons (.var 1) .nil))) .nil))) (.str [41]))) .nil)))
def t1 : FT := ⟨["thing"], ["thing", "part"], b1⟩
def d1 : He.DefD := ⟨("write", none), "write", "write", defArgs st1, defBody st1, defScope st1, [], []⟩
abbrev st2 : Stmt := inCls (top 11) 0
/-- TextReader.__init__: self, text -/
def b2 : CSs := (.cons (.setf (.var 0) 1 (.var 1)) (.cons (.setf (.var 0) 0 (.int 0)) .nil))
def t2 : FT := ⟨["self", "text"], ["self", "text"], b2⟩
def d2 : He.DefD := ⟨("TextReader", some ("__init__" : Str)), "__init__", "TextReader.__init__", defArgs st2, defBody st2, defScope st2, [], []⟩
abbrev st3 : Stmt := inCls (top 11) 1
/-- TextReader.peek: self -/
def b3 : CSs := (.cons (.ret (.slc (.fld (.var 0) 1) (.fld (.var 0) 0) (.bin .add (.fld (.var 0) 0) (.int 1)))) .nil)
def t3 : FT := ⟨["self"], ["self"], b3⟩
def d3 : He.DefD := ⟨("TextReader", some ("peek" : Str)), "peek", "TextReader.peek", defArgs st3, defBody st3, defScope st3, [], []⟩
abbrev st4 : Stmt := inCls (top 11) 2
/-- TextReader.figures: self, first, found -/
def b4 : CSs := (.cons (.asg (.nm 1) (.fld (.var 0) 0)) (.cons (.whl (.andl (.cons (.cmp .ne (.meth 3 (.var 0) .nil) (.str [])) (.cons (.cmp .isin (.meth 3 (.var 0) .nil) (.con 0)) .nil))) (.cons (.setf (.var 0) 0 (.bin .add (.fld (.var 0) 0) (.int 1))) .nil)) (.cons (.asg (.nm 2) (.slc (.fld (.var 0) 1) (.var 1) (.fld (.var 0) 0))) (.cons (.ite (.orl (.cons (.nt (.chn .le .le (.int 1) (.bi .len (.cons (.var 2) .nil)) (.con 2))) (.cons (.andl (.cons (.cmp .gt (.bi .len (.cons (.var 2) .nil)) (.int 1)) (.cons (.cmp .eq (.ix (.var 2) (.int 0)) (.str [48])) .nil))) .nil))) (.cons (.raise 1) .nil) .nil) (.cons (.ret (.bi .int (.cons (.var 2) .nil))) .nil)))))
def t4 : FT := ⟨["self"], ["self", "first", "found"], b4⟩
def d4 : He.DefD := ⟨("TextReader", some ("figures" : Str)), "figures", "TextReader.figures", defArgs st4, defBody st4, defScope st4, [], []⟩
abbrev st5 : Stmt := inCls (top 11) 3
/-- TextReader.sign: self, wanted -/
def b5 : CSs := (.cons (.ite (.cmp .ne (.meth 3 (.var 0) .nil) (.var 1)) (.cons (.raise 1) .nil) .nil) (.cons (.setf (.var 0) 0 (.bin .add (.fld (.var 0) 0) (.int 1))) .nil))
def t5 : FT := ⟨["self", "wanted"], ["self", "wanted"], b5⟩
def d5 : He.DefD := ⟨("TextReader", some ("sign" : Str)), "sign", "TextReader.sign", defArgs st5, defBody st5, defScope st5, [], []⟩
abbrev st6 : Stmt := inCls (top 11) 4
/-- TextReader.number_or_text: self, number, found -/
def b6 : CSs := (.cons (.asg (.nm 1) (.meth 0 (.var 0) .nil)) (.cons (.ite (.cmp .ne (.meth 3 (.var 0) .nil) (.str [58])) (.cons (.ret (.var 1)) .nil) .nil) (.cons (.setf (.var 0) 0 (.bin .add (.fld (.var 0) 0) (.int 1))) (.cons (.asg (.nm 2) (.slc (.fld (.var 0) 1) (.fld (.var 0) 0) (.bin .add (.fld (.var 0) 0) (.var 1)))) (.cons (.ite (.orl (.cons (.cmp .gt (.bi .len (.cons (.bi .str (.cons (.var 1) .nil)) .nil)) (.con 1)) (.cons (.cmp .ne (.bi .len (.cons (.var 2) .nil)) (.var 1)) .nil))) (.cons (.raise 1) .nil) .nil) (.cons (.setf (.var 0) 0 (.bin .add (.fld (.var 0) 0) (.var 1))) (.cons (.ret (.var 2)) .nil)))))))
def t6 : FT := ⟨["self"], ["self", "number", "found"], b6⟩
def d6 : He.DefD := ⟨("TextReader", some ("number_or_text" : Str)), "number_or_text", "TextReader.number_or_text", defArgs st6, defBody st6, defScope st6, [], []⟩
abbrev st7 : Stmt := inCls (top 11) 5
/-- TextReader.parts: self, depth, found -/
def b7 : CSs := (.cons (.ite (.cmp .eq (.var 1) (.int 0)) (.cons (.raise 1) .nil) .nil) (.cons (.expr (.meth 4 (.var 0) (.cons (.str [40]) .nil))) (.cons (.asg (.nm 2) (.lst .nil)) (.cons (.whl (.cmp .ne (.meth 3 (.var 0) .nil) (.str [41])) (.cons (.ite (.var 2) (.cons (.expr (.meth 4 (.var 0) (.cons (.str [44]) .nil))) .nil) .nil) (.cons (.expr (.bm .append (.var 2) (.cons (.meth 5 (.var 0) (.cons (.bin .sub (.var 1) (.int 1)) .nil)) .nil))) .nil))) (.cons (.expr (.meth 4 (.var 0) (.cons (.str [41]) .nil))) (.cons (.ret (.bi .tup (.cons (.var 2) .nil))) .nil))))))
def t7 : FT := ⟨["self", "depth"], ["self", "depth", "found"], b7⟩
def d7 : He.DefD := ⟨("TextReader", some ("parts" : Str)), "parts", "TextReader.parts", defArgs st7, defBody st7, defScope st7, [], []⟩
abbrev st8 : Stmt := inCls (top 11) 6
/-- TextReader.thing: self, depth, number -/
def b8 : CSs := (.cons (.ite (.cmp .eq (.meth 3 (.var 0) .nil) (.str [40])) (.cons (.ret (.meth 2 (.var 0) (.cons (.var 1) .nil))) .nil) .nil) (.cons (.ite (.cmp .eq (.meth 3 (.var 0) .nil) (.str [45])) (.cons (.setf (.var 0) 0 (.bin .add (.fld (.var 0) 0) (.int 1))) (.cons (.asg (.nm 2) (.meth 0 (.var 0) .nil)) (.cons (.ite (.cmp .eq (.var 2) (.int 0)) (.cons (.raise 1) .nil) .nil) (.cons (.ret (.neg (.var 2))) .nil)))) .nil) (.cons (.ret (.meth 1 (.var 0) .nil)) .nil)))
def t8 : FT := ⟨["self", "depth"], ["self", "depth", "number"], b8⟩
def d8 : He.DefD := ⟨("TextReader", some ("thing" : Str)), "thing", "TextReader.thing", defArgs st8, defBody st8, defScope st8, [], []⟩
abbrev st9 : Stmt := top 12
/-- read: text, reader, thing -/
def b9 : CSs := (.cons (.asg (.nm 1) (.make 0 (.cons (.var 0) .nil))) (.cons (.asg (.nm 2) (.meth 5 (.var 1) (.cons (.con 3) .nil))) (.cons (.ite (.cmp .ne (.fld (.var 1) 0) (.bi .len (.cons (.var 0) .nil))) (.cons (.raise 1) .nil) .nil) (.cons (.ret (.var 2)) .nil))))
def t9 : FT := ⟨["text"], ["text", "reader", "thing"], b9⟩
def d9 : He.DefD := ⟨("read", none), "read", "read", defArgs st9, defBody st9, defScope st9, [], []⟩
abbrev st10 : Stmt := top 14
/-- _law_pot: _law_script, _law_seed, _law_cell -/
def b10 : CSs := (.cons (.asg (.nm 1) (.int 1)) (.cons (.forS (.nm 2) .plain (.cons (.var 0) .nil) (.cons (.asg (.nm 1) (.bin .mod (.bi .int (.cons (.bin .add (.bin .mul (.var 1) (.int 31)) (.var 2)) .nil)) (.int 2147483647))) .nil)) (.cons (.ret (.lst (.cons (.bi .lst (.cons (.var 0) .nil)) (.cons (.int 0) (.cons (.int 0) (.cons (.var 1) .nil)))))) .nil)))
def t10 : FT := ⟨["_law_script"], ["_law_script", "_law_seed", "_law_cell"], b10⟩
def d10 : He.DefD := ⟨("_law_pot", none), "_law_pot", "_law_pot", defArgs st10, defBody st10, defScope st10, [], []⟩
abbrev st11 : Stmt := top 15
/-- _law_next: _law_pot_here, _law_limit, _law_mixed, _law_cell, _law_found -/
def b11 : CSs := (.cons (.ite (.andl (.cons (.cmp .eq (.ix (.var 0) (.int 2)) (.int 0)) (.cons (.cmp .lt (.ix (.var 0) (.int 1)) (.bi .len (.cons (.ix (.var 0) (.int 0)) .nil))) .nil))) (.cons (.asg (.nm 3) (.bi .abs (.cons (.bi .int (.cons (.ix (.ix (.var 0) (.int 0)) (.ix (.var 0) (.int 1))) .nil)) .nil))) (.cons (.seti (.var 0) (.int 1) (.bin .add (.ix (.var 0) (.int 1)) (.int 1))) (.cons (.ite (.cmp .lt (.var 3) (.bin .pow (.int 10) (.int 18))) (.cons (.ret (.bin .mod (.bi .int (.cons (.var 3) .nil)) (.var 1))) .nil) .nil) (.cons (.seti (.var 0) (.int 2) (.var 3)) .nil)))) .nil) (.cons (.ite (.cmp .gt (.ix (.var 0) (.int 2)) (.int 0)) (.cons (.asg (.nm 4) (.bin .mod (.bi .int (.cons (.ix (.var 0) (.int 2)) .nil)) (.var 1))) (.cons (.seti (.var 0) (.int 2) (.bin .fdiv (.ix (.var 0) (.int 2)) (.var 1))) (.cons (.ret (.var 4)) .nil))) .nil) (.cons (.seti (.var 0) (.int 3) (.bin .mod (.bi .int (.cons (.bin .add (.bin .mul (.ix (.var 0) (.int 3)) (.int 48271)) (.int 12345)) .nil)) (.int 2147483647))) (.cons (.asg (.nm 2) (.bin .mod (.bi .int (.cons (.bin .add (.bin .mul (.ix (.var 0) (.int 3)) (.int 69621)) (.bin .fdiv (.ix (.var 0) (.int 3)) (.int 127))) .nil)) (.int 2147483629))) (.cons (.ret (.bin .mod (.bi .int (.cons (.var 2) .nil)) (.var 1))) .nil)))))
def t11 : FT := ⟨["_law_pot_here", "_law_limit"], ["_law_pot_here", "_law_limit", "_law_mixed", "_law_cell", "_law_found"], b11⟩
def d11 : He.DefD := ⟨("_law_next", none), "_law_next", "_law_next", defArgs st11, defBody st11, defScope st11, [], []⟩
abbrev st12 : Stmt := top 16
/-- _law_try: _law_text, e -/
def b12 : CSs := (.cons (.tryS (.cons (.ret (.lst (.cons (.call 9 (.cons (.var 0) .nil)) .nil))) .nil) 0 (some 1) (.cons (.ite (.isx 1 1) (.cons (.ret (.lst .nil)) .nil) .nil) .nil)) (.cons (.ret .non) .nil))
def t12 : FT := ⟨["_law_text"], ["_law_text", "e"], b12⟩
def d12 : He.DefD := ⟨("_law_try", none), "_law_try", "_law_try", defArgs st12, defBody st12, defScope st12, [], []⟩
abbrev st13 : Stmt := top 17
/-- _law_thing: _law_pot_here, _law_depth, _law_kind, _law_k -/
def b13 : CSs := (.cons (.asg (.nm 2) (.call 11 (.cons (.var 0) (.cons (.int 6) .nil)))) (.cons (.ite (.orl (.cons (.cmp .lt (.var 2) (.int 2)) (.cons (.cmp .eq (.var 1) (.int 0)) .nil))) (.cons (.ret (.bin .sub (.call 11 (.cons (.var 0) (.cons (.int 300) .nil))) (.int 90))) .nil) .nil) (.cons (.ite (.cmp .lt (.var 2) (.int 4)) (.cons (.ret (.bm .join (.str []) (.cons (.lc [3] (.nm 3) .range1 (.cons (.call 11 (.cons (.var 0) (.cons (.int 13) .nil))) .nil) .nil (.ix (.str [48, 49, 50, 51, 58, 44, 40, 41, 45, 97, 32]) (.call 11 (.cons (.var 0) (.cons (.int 11) .nil))))) .nil))) .nil) .nil) (.cons (.ret (.bi .tup (.cons (.lc [3] (.nm 3) .range1 (.cons (.call 11 (.cons (.var 0) (.cons (.int 5) .nil))) .nil) .nil (.call 13 (.cons (.var 0) (.cons (.bin .sub (.var 1) (.int 1)) .nil)))) .nil))) .nil))))
def t13 : FT := ⟨["_law_pot_here", "_law_depth"], ["_law_pot_here", "_law_depth", "_law_kind", "_law_k"], b13⟩
def d13 : He.DefD := ⟨("_law_thing", none), "_law_thing", "_law_thing", defArgs st13, defBody st13, defScope st13, [], []⟩
abbrev st14 : Stmt := top 18
/-- _law_changed: _law_pot_here, _law_text, _law_at, _law_kind -/
def b14 : CSs := (.cons (.ite (.cmp .eq (.var 1) (.str [])) (.cons (.ret (.str [40])) .nil) .nil) (.cons (.asg (.nm 2) (.call 11 (.cons (.var 0) (.cons (.bi .len (.cons (.var 1) .nil)) .nil)))) (.cons (.asg (.nm 3) (.call 11 (.cons (.var 0) (.cons (.int 5) .nil)))) (.cons (.ite (.cmp .eq (.var 3) (.int 0)) (.cons (.ret (.slc (.var 1) .nope (.var 2))) .nil) .nil) (.cons (.ite (.cmp .eq (.var 3) (.int 1)) (.cons (.ret (.bin .add (.slc (.var 1) .nope (.var 2)) (.slc (.var 1) (.bin .add (.var 2) (.int 1)) .nope))) .nil) .nil) (.cons (.ite (.cmp .eq (.var 3) (.int 2)) (.cons (.ret (.bin .add (.bin .add (.slc (.var 1) .nope (.var 2)) (.ix (.var 1) (.var 2))) (.slc (.var 1) (.var 2) .nope))) .nil) .nil) (.cons (.ite (.cmp .eq (.var 3) (.int 3)) (.cons (.ret (.bin .add (.bin .add (.bin .add (.slc (.var 1) .nope (.var 2)) (.slc (.var 1) (.bin .add (.var 2) (.int 1)) (.bin .add (.var 2) (.int 2)))) (.ix (.var 1) (.var 2))) (.slc (.var 1) (.bin .add (.var 2) (.int 2)) .nope))) .nil) .nil) (.cons (.ret (.bin .add (.bin .add (.slc (.var 1) .nope (.var 2)) (.ix (.str [48, 49, 50, 51, 58, 44, 40, 41, 45, 97, 32]) (.call 11 (.cons (.var 0) (.cons (.int 11) .nil))))) (.slc (.var 1) (.bin .add (.var 2) (.int 1)) .nope))) .nil))))))))
def t14 : FT := ⟨["_law_pot_here", "_law_text"], ["_law_pot_here", "_law_text", "_law_at", "_law_kind"], b14⟩
def d14 : He.DefD := ⟨("_law_changed", none), "_law_changed", "_law_changed", defArgs st14, defBody st14, defScope st14, [], []⟩
abbrev st15 : Stmt := top 19
/-- law: _law_script, _law_pot_here, _law_text, _law_drawn, _law_one, _law_digits, _law_deep, _law_long, _law_bad, _law_found, _law_k -/
def b15 : CSs := (.cons (.asg (.nm 1) (.call 10 (.cons (.var 0) .nil))) (.cons (.asg (.nm 2) (.call 1 (.cons (.call 13 (.cons (.var 1) (.cons (.int 4) .nil))) .nil))) (.cons (.asg (.nm 3) (.bm .join (.str []) (.cons (.lc [10] (.nm 10) .range1 (.cons (.call 11 (.cons (.var 1) (.cons (.int 12) .nil))) .nil) .nil (.ix (.str [48, 49, 58, 44, 40, 41, 45, 57]) (.call 11 (.cons (.var 1) (.cons (.int 8) .nil))))) .nil))) (.cons (.forS (.nm 4) .plain (.cons (.lst (.cons (.call 14 (.cons (.var 1) (.cons (.var 2) .nil))) (.cons (.var 3) (.cons (.call 14 (.cons (.var 1) (.cons (.call 14 (.cons (.var 1) (.cons (.bin .add (.var 2) (.str [48])) .nil))) .nil))) (.cons (.bin .add (.var 3) (.var 2)) .nil))))) .nil) (.cons (.asg (.nm 9) (.call 12 (.cons (.var 4) .nil))) (.cons (.ite (.orl (.cons (.cmp .is (.var 9) .non) (.cons (.andl (.cons (.cmp .eq (.bi .len (.cons (.var 9) .nil)) (.int 1)) (.cons (.cmp .ne (.call 1 (.cons (.ix (.var 9) (.int 0)) .nil)) (.var 4)) .nil))) .nil))) (.cons (.ret (.bl false)) .nil) .nil) .nil))) (.cons (.asg (.nm 5) (.bin .mul (.bi .str (.cons (.bin .add (.int 1) (.call 11 (.cons (.var 1) (.cons (.int 9) .nil)))) .nil)) (.int 61))) (.cons (.asg (.nm 6) (.bin .add (.bin .mul (.str [40]) (.int 41)) (.bin .mul (.str [41]) (.int 41)))) (.cons (.asg (.nm 7) (.bin .add (.str [49, 48, 48, 58]) (.bin .mul (.str [97]) (.int 100)))) (.cons (.asg (.nm 8) (.lst (.cons (.str []) (.cons (.bin .add (.str [48]) (.bi .str (.cons (.call 11 (.cons (.var 1) (.cons (.int 100) .nil))) .nil))) (.cons (.str [45, 48]) (.cons (.str [45]) (.cons (.var 5) (.cons (.bin .add (.str [45]) (.var 5)) (.cons (.var 6) (.cons (.str [40, 49, 44, 41]) (.cons (.str [40, 44, 49, 41]) (.cons (.str [40, 49]) (.cons (.str [53, 58, 97, 98, 99, 100]) (.cons (.str [48, 49, 58, 97]) (.cons (.str [49, 58]) (.cons (.str [49, 32]) (.cons (.var 7) .nil))))))))))))))))) (.cons (.ite (.nt (.bi .all (.cons (.lc [4] (.nm 4) .plain (.cons (.var 8) .nil) .nil (.cmp .eq (.call 12 (.cons (.var 4) .nil)) (.lst .nil))) .nil))) (.cons (.ret (.bl false)) .nil) .nil) (.cons (.ite (.orl (.cons (.cmp .ne (.call 12 (.cons (.bin .add (.bin .add (.slc (.var 7) (.int 1) (.int 3)) (.slc (.var 7) (.int 3) (.int 4))) (.str [])) .nil)) (.lst .nil)) (.cons (.cmp .ne (.bi .len (.cons (.call 12 (.cons (.slc (.var 6) (.int 1) (.int 81)) .nil)) .nil)) (.int 1)) .nil))) (.cons (.ret (.bl false)) .nil) .nil) (.cons (.ret (.andl (.cons (.cmp .eq (.call 12 (.cons (.slc (.var 5) (.int 1) .nope) .nil)) (.lst (.cons (.bi .int (.cons (.slc (.var 5) (.int 1) .nope) .nil)) .nil))) (.cons (.cmp .eq (.call 12 (.cons (.bin .add (.str [57, 57, 58]) (.bin .mul (.str [97]) (.int 99))) .nil)) (.lst (.cons (.bin .mul (.str [97]) (.int 99)) .nil))) (.cons (.cmp .eq (.call 12 (.cons (.bin .add (.var 2) (.str [44])) .nil)) (.lst .nil)) .nil))))) .nil)))))))))))
def t15 : FT := ⟨["_law_script"], ["_law_script", "_law_pot_here", "_law_text", "_law_drawn", "_law_one", "_law_digits", "_law_deep", "_law_long", "_law_bad", "_law_found", "_law_k"], b15⟩
def d15 : He.DefD := ⟨("law", none), "law", "law", defArgs st15, defBody st15, defScope st15, [], []⟩
def pd : PD := ⟨[d0, d1, d2, d3, d4, d5, d6, d7, d8, d9, d10, d11, d12, d13, d14, d15], [t0, t1, t2, t3, t4, t5, t6, t7, t8, t9, t10, t11, t12, t13, t14, t15], [⟨"TextReader", [0, 1], [(3, 3), (0, 4), (4, 5), (1, 6), (2, 7), (5, 8)], (some 2), false⟩], [⟨"WorthError", false, []⟩, ⟨"BadText", true, [(0, true), (1, true)]⟩], ["at", "text"], ["figures", "number_or_text", "parts", "peek", "sign", "thing"], [("FIGURES", .str [48, 49, 50, 51, 52, 53, 54, 55, 56, 57]), ("MOST_LENGTH_FIGURES", .int 2), ("MOST_FIGURES", .int 60), ("DEEPEST", .int 40)], ["abs", "all", "bool", "int", "isinstance", "len", "list", "range", "str", "tuple"], [("is_number", 0), ("write", 1), ("read", 9), ("_law_pot", 10), ("_law_next", 11), ("_law_try", 12), ("_law_thing", 13), ("_law_changed", 14), ("law", 15)]⟩
def ioT : List (List Nat) := [[], [], [0], [], [0], [0], [0], [0], [0], [], [], [0], [], [0], [0], []]
def Qn : EW.EN.NP := ⟨pd.prg, fun f => ioT.getD f [], fun m => ([0, 1, 2, 4, 5] : List Nat).contains m⟩

theorem ok_ : pd.Ok := PD.ok_of (by decide +kernel) (by decide +kernel)
end K31

set_option Elab.async false
set_option linter.all false
set_option maxRecDepth 100000
/-! Texts of things: the written form, a reader over lists, and that what it reads is what was written. No program in sight. -/
namespace K31
open EW PySem
abbrev Tx := List Nat
def isFig (c : Nat) : Bool := decide (48 ≤ c) && decide (c ≤ 57)
def pFig (r : Tx) : Option (Nat × Tx) :=
  if 1 ≤ (r.takeWhile isFig).length ∧ (r.takeWhile isFig).length ≤ 60 ∧ ¬ (1 < (r.takeWhile isFig).length ∧ (r.takeWhile isFig).head? = some 48) then some (NumText.digitsVal (r.takeWhile isFig), r.dropWhile isFig) else none
def pNT (r : Tx) : Option (D × Tx) := match pFig r with
  | none => none
  | some (n, r1) => if r1.head? = some 58 then (if (TL.numL n).length ≤ 2 ∧ (r1.tail.take n).length = n then some (.str (r1.tail.take n), r1.tail.drop n) else none) else some (.int n, r1)
def pLoop (p : Tx → Option (D × Tx)) : Nat → List D → Tx → Option (List D × Tx)
  | 0, _, _ => none
  | k + 1, acc, r => if r.head? = some 41 then some (acc, r.tail) else
    match (if acc = [] then some r else if r.head? = some 44 then some r.tail else none) with
    | none => none
    | some r' => match p r' with
      | none => none
      | some (t, r2) => pLoop p k (acc ++ [t]) r2
def pNeg (r : Tx) : Option (D × Tx) := match pFig r with
  | none => none
  | some (n, r1) => if n = 0 then none else some (.int (-(n : Int)), r1)
def pThing : Nat → Tx → Option (D × Tx)
  | 0, r => if r.head? = some 40 then none else if r.head? = some 45 then pNeg r.tail else pNT r
  | d + 1, r => if r.head? = some 40 then (match pLoop (pThing d) (r.length + 1) [] r.tail with
      | none => none
      | some (xs, r1) => some (.tup xs, r1))
    else if r.head? = some 45 then pNeg r.tail else pNT r
mutual
def W : D → Tx
  | .int i => sInt i
  | .str x => TL.numL x.length ++ 58 :: x
  | .tup xs => 40 :: (TL.joinL [44] (Ws xs) ++ [41])
  | _ => []
def Ws : List D → List Tx
  | [] => []
  | x :: xs => W x :: Ws xs
end
theorem Ws_app : ∀ xs ys : List D, Ws (xs ++ ys) = Ws xs ++ Ws ys
  | [], ys => by rw [Ws]; rfl
  | x :: xs, ys => by
    show Ws (x :: (xs ++ ys)) = _
    rw [Ws, Ws, Ws_app xs ys]
    rfl
theorem joinL_app (S : Tx) : ∀ (xs : List Tx) (y : Tx), xs ≠ [] → TL.joinL S (xs ++ [y]) = TL.joinL S xs ++ (S ++ y)
  | [x], y, _ => rfl
  | x :: z :: xs, y, _ => by
    show x ++ (S ++ TL.joinL S (z :: (xs ++ [y]))) = x ++ (S ++ TL.joinL S (z :: xs)) ++ (S ++ y)
    rw [show z :: (xs ++ [y]) = (z :: xs) ++ [y] from rfl, joinL_app S (z :: xs) y (by simp)]
    simp only [List.append_assoc]
/-! ### digits -/
theorem fig_digits {ds : Tx} (h : ∀ c ∈ ds, isFig c = true) : NumText.AllDigits ds := fun c hc => by
  have := h c hc
  unfold isFig at this
  rw [Bool.and_eq_true, decide_eq_true_eq, decide_eq_true_eq] at this
  exact this
theorem digitsVal_snoc (ds : Tx) (c : Nat) : NumText.digitsVal (ds ++ [c]) = NumText.digitsVal ds * 10 + (c - 48) := by
  unfold NumText.digitsVal
  rw [List.foldl_append]
  rfl
theorem val_pos : ∀ (n : Nat) (ds : Tx), ds.length = n → ds ≠ [] → (∀ c ∈ ds, isFig c = true) → ds.head? ≠ some 48 → 0 < NumText.digitsVal ds := by
  intro n
  induction n with
  | zero => intro ds h h2; exact absurd (List.length_eq_zero_iff.mp h) h2
  | succ n ih =>
    intro ds hl hne hf hh
    obtain ⟨l, c, rfl⟩ : ∃ l c, ds = l ++ [c] := ⟨ds.dropLast, ds.getLast hne, (List.dropLast_concat_getLast hne).symm⟩
    rw [digitsVal_snoc]
    by_cases hl0 : l = []
    · subst hl0
      have h1 := fig_digits hf c (by simp)
      have h2 : c ≠ 48 := fun e => hh (by rw [e]; rfl)
      omega
    · have : 0 < NumText.digitsVal l := ih l (by simp at hl; exact hl) hl0 (fun x hx => hf x (by simp [hx])) (fun e => hh (by
        cases l with
        | nil => exact absurd rfl hl0
        | cons a l => exact e))
      omega
theorem numL_back : ∀ (n : Nat) (ds : Tx), ds.length = n → ds ≠ [] → (∀ c ∈ ds, isFig c = true) → ¬ (1 < ds.length ∧ ds.head? = some 48) → TL.numL (NumText.digitsVal ds) = ds := by
  intro n
  induction n with
  | zero => intro ds h h2; exact absurd (List.length_eq_zero_iff.mp h) h2
  | succ n ih =>
    intro ds hl hne hf hh
    obtain ⟨l, c, rfl⟩ : ∃ l c, ds = l ++ [c] := ⟨ds.dropLast, ds.getLast hne, (List.dropLast_concat_getLast hne).symm⟩
    have h1 := fig_digits hf c (by simp)
    rw [digitsVal_snoc]
    by_cases hl0 : l = []
    · subst hl0
      show TL.numL (0 * 10 + (c - 48)) = [c]
      rw [TL.numL_lt (by omega)]
      congr 1
      omega
    · have hl1 : 0 < l.length := List.length_pos_iff.mpr hl0
      have hd : l.head? ≠ some 48 := fun e => hh ⟨by simp; omega, by
        cases l with
        | nil => exact absurd rfl hl0
        | cons a l => exact e⟩
      have hp : 0 < NumText.digitsVal l := val_pos _ l rfl hl0 (fun x hx => hf x (by simp [hx])) hd
      rw [TL.numL_step (by omega), show (NumText.digitsVal l * 10 + (c - 48)) / 10 = NumText.digitsVal l by omega, show (NumText.digitsVal l * 10 + (c - 48)) % 10 = c - 48 by omega,
        ih l (by simp at hl; exact hl) hl0 (fun x hx => hf x (by simp [hx])) (fun e => hd e.2)]
      congr 2
      omega
theorem take_drop_while (p : Nat → Bool) : ∀ r : Tx, r.takeWhile p ++ r.dropWhile p = r := fun r => List.takeWhile_append_dropWhile
theorem mem_takeWhile {p : Nat → Bool} : ∀ {r : Tx} {c : Nat}, c ∈ r.takeWhile p → p c = true
  | a :: r, c, h => by
    rw [List.takeWhile_cons] at h
    split at h
    · rcases List.mem_cons.mp h with rfl | h
      · assumption
      · exact mem_takeWhile h
    · cases h
theorem pFig_ok {r : Tx} {n : Nat} {r1 : Tx} (h : pFig r = some (n, r1)) : r = TL.numL n ++ r1 ∧ (TL.numL n).length ≤ 60 := by
  unfold pFig at h
  split at h
  · rename_i c
    cases h
    obtain ⟨h1, h2, h3⟩ := c
    have e := numL_back _ (r.takeWhile isFig) rfl (by intro e; rw [e] at h1; simp at h1) (fun c hc => mem_takeWhile hc) h3
    rw [e]
    exact ⟨(take_drop_while _ r).symm, h2⟩
  · cases h
theorem head_eq {r : Tx} {c : Nat} (h : r.head? = some c) : r = c :: r.tail := by
  cases r with
  | nil => cases h
  | cons a r => cases h; rfl
/-! ### what is read is what was written -/
mutual
/-- things of figures and texts, so deep at most -/
def gd : Nat → D → Bool
  | _, .int i => decide ((sInt i).length ≤ 61)
  | _, .str x => decide (x.length ≤ 99)
  | k + 1, .tup xs => gds k xs
  | _, _ => false
def gds : Nat → List D → Bool
  | _, [] => true
  | k, x :: xs => gd k x && gds k xs
end
theorem gds_app : ∀ (k : Nat) (xs : List D) (y : D), gds k xs = true → gd k y = true → gds k (xs ++ [y]) = true
  | k, [], y, _, h => by
    show gds k [y] = true
    rw [gds, h, gds]; rfl
  | k, x :: xs, y, h, h2 => by
    rw [gds, Bool.and_eq_true] at h
    show gds k (x :: (xs ++ [y])) = true
    rw [gds, h.1, gds_app k xs y h.2 h2]; rfl
theorem sInt_nat (n : Nat) : sInt (n : Int) = TL.numL n := by
  unfold sInt
  rw [if_neg (by omega), Int.natAbs_natCast]
theorem sInt_neg {n : Nat} (h : n ≠ 0) : sInt (-(n : Int)) = 45 :: TL.numL n := by
  unfold sInt
  rw [if_pos (by omega), Int.natAbs_neg, Int.natAbs_natCast]
theorem numL_two {n : Nat} (h : (TL.numL n).length ≤ 2) : n ≤ 99 := by
  refine Nat.le_of_not_lt fun hn => ?_
  rw [TL.numL_step (by omega), TL.numL_step (n := n / 10) (by omega), List.length_append, List.length_append] at h
  have : 0 < (TL.numL (n / 10 / 10)).length := List.length_pos_iff.mpr (TL.numL_ne _)
  have h : (TL.numL (n / 10 / 10)).length + 1 + 1 ≤ 2 := h
  omega
theorem pNT_ok {k : Nat} {r : Tx} {t : D} {r1 : Tx} (h : pNT r = some (t, r1)) : r = W t ++ r1 ∧ gd k t = true := by
  unfold pNT at h
  split at h
  · cases h
  · rename_i n r2 e
    obtain ⟨e1, l1⟩ := pFig_ok e
    split at h
    · rename_i hc
      split at h
      · rename_i c
        cases h
        have e2 := head_eq hc
        refine ⟨?_, ?_⟩
        · rw [W, c.2, List.append_assoc, List.cons_append, List.take_append_drop, ← e2]
          exact e1
        · rw [gd]
          refine decide_eq_true ?_
          rw [c.2]
          exact numL_two c.1
      · cases h
    · cases h
      refine ⟨?_, ?_⟩
      · rw [W, sInt_nat]; exact e1
      · rw [gd, sInt_nat]; exact decide_eq_true (by omega)
theorem pNeg_ok {k : Nat} {r : Tx} {t : D} {r1 : Tx} (h : pNeg r = some (t, r1)) : 45 :: r = W t ++ r1 ∧ gd k t = true := by
  unfold pNeg at h
  split at h
  · cases h
  · rename_i n r2 e
    obtain ⟨e1, l1⟩ := pFig_ok e
    split at h
    · cases h
    · rename_i hn
      cases h
      refine ⟨?_, ?_⟩
      · rw [W, sInt_neg hn, e1]; rfl
      · rw [gd, sInt_neg hn]; exact decide_eq_true (by simp; omega)
theorem pLoop_ok {k : Nat} {p : Tx → Option (D × Tx)} (hp : ∀ r t r1, p r = some (t, r1) → r = W t ++ r1 ∧ gd k t = true) : ∀ (f : Nat) (acc : List D) (r : Tx) (xs : List D) (r1 : Tx), gds k acc = true → pLoop p f acc r = some (xs, r1) →
    TL.joinL [44] (Ws acc) ++ r = TL.joinL [44] (Ws xs) ++ 41 :: r1 ∧ gds k xs = true
  | 0, acc, r, xs, r1, _, h => by cases h
  | f + 1, acc, r, xs, r1, ha, h => by
    unfold pLoop at h
    split at h
    · rename_i hc
      cases h
      exact ⟨by rw [← head_eq hc], ha⟩
    · split at h
      · cases h
      · rename_i r' e
        split at h
        · cases h
        · rename_i t r2 e2
          obtain ⟨e3, g3⟩ := hp _ _ _ e2
          obtain ⟨e4, g4⟩ := pLoop_ok hp f (acc ++ [t]) r2 xs r1 (gds_app k acc t ha g3) h
          refine ⟨?_, g4⟩
          rw [← e4, Ws_app]
          show _ = TL.joinL [44] (Ws acc ++ Ws [t]) ++ r2
          rw [show Ws [t] = [W t] by rw [Ws, Ws]]
          split at e
          · rename_i h0
            cases e
            subst h0
            rw [show Ws [] = [] by rw [Ws]]
            exact e3
          · rename_i h0
            split at e
            · rename_i hc
              cases e
              have hne : Ws acc ≠ [] := by
                cases acc with
                | nil => exact absurd rfl h0
                | cons a acc => rw [Ws]; simp
              rw [joinL_app _ _ _ hne, List.append_assoc, List.append_assoc, ← e3]
              rw [head_eq hc]
              rfl
            · cases e
theorem pThing_ok : ∀ (d : Nat) (r : Tx) (t : D) (r1 : Tx), pThing d r = some (t, r1) → r = W t ++ r1 ∧ gd d t = true
  | 0, r, t, r1, h => by
    unfold pThing at h
    split at h
    · cases h
    · split at h
      · rename_i hc
        obtain ⟨e, g⟩ := pNeg_ok (k := 0) h
        exact ⟨(head_eq hc).trans e, g⟩
      · exact pNT_ok h
  | d + 1, r, t, r1, h => by
    unfold pThing at h
    split at h
    · rename_i hc
      split at h
      · cases h
      · rename_i xs r2 e
        cases h
        obtain ⟨e1, g1⟩ := pLoop_ok (pThing_ok d) _ _ _ _ _ (by rw [gds]) e
        refine ⟨?_, by rw [gd]; exact g1⟩
        rw [head_eq hc, W]
        rw [show Ws [] = [] by rw [Ws]] at e1
        have e1 : r.tail = _ := e1
        rw [e1]
        simp
    · split at h
      · rename_i hc
        obtain ⟨e, g⟩ := pNeg_ok (k := d + 1) h
        exact ⟨(head_eq hc).trans e, g⟩
      · exact pNT_ok h
end K31

set_option Elab.async false
set_option linter.all false
set_option maxRecDepth 100000
/-! What was written is read back. No program in sight. -/
namespace K31
open EW PySem
mutual
/-- things that are read back -/
def gr : Nat → D → Bool
  | _, .int i => decide ((TL.numL i.natAbs).length ≤ 60)
  | _, .str x => decide (x.length ≤ 99)
  | k + 1, .tup xs => grs k xs
  | _, _ => false
def grs : Nat → List D → Bool
  | _, [] => true
  | k, x :: xs => gr k x && grs k xs
end
theorem gr_gd : ∀ (d : Nat) (t : D), gr d t = true → gd d t = true := by
  have hi : ∀ (d : Nat) (i : Int), (TL.numL i.natAbs).length ≤ 60 → (sInt i).length ≤ 61 := fun d i h => by
    unfold sInt
    split
    · simp; omega
    · omega
  intro d
  induction d with
  | zero =>
    intro t h
    cases t with
    | int i => rw [gr] at h; rw [gd]; exact decide_eq_true (hi 0 i (of_decide_eq_true h))
    | str x => rw [gr] at h; rw [gd]; exact h
    | tup xs => unfold gr at h; cases h
    | non => unfold gr at h; cases h
    | bl b => unfold gr at h; cases h
    | ref n => unfold gr at h; cases h
  | succ d ih =>
    intro t h
    cases t with
    | int i => rw [gr] at h; rw [gd]; exact decide_eq_true (hi 0 i (of_decide_eq_true h))
    | str x => rw [gr] at h; rw [gd]; exact h
    | tup xs =>
      rw [gr] at h
      rw [gd]
      induction xs with
      | nil => rw [gds]
      | cons x xs ih2 =>
        rw [grs, Bool.and_eq_true] at h
        rw [gds, ih x h.1, ih2 h.2]; rfl
    | non => unfold gr at h; cases h
    | bl b => unfold gr at h; cases h
    | ref n => unfold gr at h; cases h
theorem numL_head0 : ∀ n : Nat, 1 ≤ n → (TL.numL n).head? ≠ some 48 := by
  intro n
  induction n using Nat.strongRecOn with
  | _ n ih =>
    intro h e
    by_cases h10 : n < 10
    · rw [TL.numL_lt h10] at e
      have : 48 + n = 48 := by injection e
      omega
    · rw [TL.numL_step (by omega)] at e
      have hne := TL.numL_ne (n / 10)
      refine ih (n / 10) (by omega) (by omega) ?_
      cases q : TL.numL (n / 10) with
      | nil => exact absurd q hne
      | cons a l => rw [q] at e; exact e
theorem take_figs : ∀ (ds r : Tx), (∀ c ∈ ds, isFig c = true) → (∀ c, r.head? = some c → isFig c = false) → (ds ++ r).takeWhile isFig = ds ∧ (ds ++ r).dropWhile isFig = r
  | [], r, _, h => by
    cases r with
    | nil => exact ⟨rfl, rfl⟩
    | cons c r => have := h c rfl; simp [List.takeWhile_cons, List.dropWhile_cons, this]
  | d :: ds, r, hd, h => by
    obtain ⟨e1, e2⟩ := take_figs ds r (fun c hc => hd c (List.mem_cons_of_mem _ hc)) h
    have := hd d (List.mem_cons_self ..)
    rw [List.cons_append, List.takeWhile_cons, List.dropWhile_cons, this]
    simp [e1, e2]
theorem fig_numL (n : Nat) : ∀ c ∈ TL.numL n, isFig c = true := fun c hc => by
  have := TL.numL_digits n c hc
  unfold isFig
  rw [Bool.and_eq_true, decide_eq_true_eq, decide_eq_true_eq]
  exact this
theorem pFig_back {n : Nat} {r : Tx} (h : (TL.numL n).length ≤ 60) (hr : ∀ c, r.head? = some c → isFig c = false) : pFig (TL.numL n ++ r) = some (n, r) := by
  obtain ⟨e1, e2⟩ := take_figs (TL.numL n) r (fig_numL n) hr
  unfold pFig
  rw [e1, e2, if_pos, TL.numL_val]
  refine ⟨List.length_pos_iff.mpr (TL.numL_ne n), h, fun q => ?_⟩
  by_cases h1 : 1 ≤ n
  · exact numL_head0 n h1 q.2
  · obtain rfl : n = 0 := by omega
    rw [TL.numL_lt (by decide)] at q
    exact absurd q.1 (by decide)
def nf (r : Tx) : Prop := ∀ c, r.head? = some c → isFig c = false ∧ c ≠ 58
theorem pNT_int {n : Nat} {r : Tx} (h : (TL.numL n).length ≤ 60) (hr : nf r) : pNT (TL.numL n ++ r) = some (.int n, r) := by
  unfold pNT
  rw [pFig_back h fun c hc => (hr c hc).1]
  dsimp only
  rw [if_neg fun q => (hr 58 q).2 rfl]
theorem pNT_str {x r : Tx} (h : x.length ≤ 99) : pNT (TL.numL x.length ++ 58 :: (x ++ r)) = some (.str x, r) := by
  have h2 : (TL.numL x.length).length ≤ 2 := TL.numL_len (by decide) (by omega)
  unfold pNT
  rw [pFig_back (by omega) (fun c hc => by cases hc; decide)]
  dsimp only
  rw [if_pos (show (58 :: (x ++ r)).head? = some 58 from rfl)]
  have e1 : List.take x.length (58 :: (x ++ r)).tail = x := List.take_left
  have e2 : List.drop x.length (58 :: (x ++ r)).tail = r := List.drop_left
  rw [if_pos ⟨h2, congrArg List.length e1⟩, e1, e2]
theorem pThing_flat (d : Nat) {r : Tx} (h : r.head? ≠ some 40) : pThing d r = if r.head? = some 45 then pNeg r.tail else pNT r := by
  cases d <;> (unfold pThing; rw [if_neg h])
def tlW : List D → Tx
  | [] => []
  | x :: xs => 44 :: (W x ++ tlW xs)
theorem join_tl : ∀ (x : D) (xs : List D), TL.joinL [44] (Ws (x :: xs)) = W x ++ tlW xs
  | x, [] => by
    rw [Ws, Ws]
    show W x = W x ++ []
    rw [List.append_nil]
  | x, y :: xs => by
    rw [Ws]
    have := join_tl y xs
    rw [Ws] at this ⊢
    show W x ++ ([44] ++ TL.joinL [44] (W y :: Ws xs)) = _
    rw [this]
    rfl
theorem nf_tl (xs : List D) (r : Tx) : nf (tlW xs ++ 41 :: r) := by
  intro c hc
  cases xs with
  | nil =>
    obtain rfl : 41 = c := Option.some.inj hc
    decide
  | cons x xs =>
    obtain rfl : 44 = c := Option.some.inj hc
    decide
theorem W_head {d : Nat} {t : D} (h : gr d t = true) : ∃ c r, W t = c :: r ∧ (c = 40 ∨ c = 45 ∨ isFig c = true) := by
  have key : ∀ n : Nat, ∃ c r, TL.numL n = c :: r ∧ isFig c = true := fun n => by
    cases q : TL.numL n with
    | nil => exact absurd q (TL.numL_ne n)
    | cons c r => exact ⟨c, r, rfl, fig_numL n c (by rw [q]; simp)⟩
  cases t with
  | int i =>
    rw [W]
    unfold sInt
    split
    · exact ⟨_, _, rfl, .inr (.inl rfl)⟩
    · obtain ⟨c, r, e, f⟩ := key i.natAbs
      exact ⟨c, r, e, .inr (.inr f)⟩
  | str x =>
    rw [W]
    obtain ⟨c, r, e, f⟩ := key x.length
    exact ⟨c, r ++ 58 :: x, by rw [e]; rfl, .inr (.inr f)⟩
  | tup xs => rw [W]; exact ⟨_, _, rfl, .inl rfl⟩
  | non => cases d <;> (unfold gr at h; cases h)
  | bl b => cases d <;> (unfold gr at h; cases h)
  | ref n => cases d <;> (unfold gr at h; cases h)
section
variable {p : Tx → Option (D × Tx)} {k : Nat}
theorem pLoop_more (hp : ∀ t r, gr k t = true → nf r → p (W t ++ r) = some (t, r)) : ∀ (xs : List D) (f : Nat) (acc : List D) (r : Tx), acc ≠ [] → grs k xs = true → xs.length < f → pLoop p f acc (tlW xs ++ 41 :: r) = some (acc ++ xs, r)
  | [], 0, acc, r, ha, hg, hl => absurd hl (by simp)
  | [], f + 1, acc, r, ha, hg, hl => by
    unfold pLoop
    rw [if_pos (show (tlW [] ++ 41 :: r).head? = some 41 from rfl), List.append_nil]
    rfl
  | x :: xs, 0, acc, r, ha, hg, hl => absurd hl (by simp)
  | x :: xs, f + 1, acc, r, ha, hg, hl => by
    rw [grs, Bool.and_eq_true] at hg
    unfold pLoop
    rw [if_neg (show ¬ (tlW (x :: xs) ++ 41 :: r).head? = some 41 from fun q => absurd (Option.some.inj q) (by decide)), if_neg ha, if_pos (show (tlW (x :: xs) ++ 41 :: r).head? = some 44 from rfl)]
    have e : (tlW (x :: xs) ++ 41 :: r).tail = W x ++ (tlW xs ++ 41 :: r) := by
      show W x ++ tlW xs ++ 41 :: r = _
      rw [List.append_assoc]
    dsimp only
    rw [e, hp x _ hg.1 (nf_tl xs r)]
    dsimp only
    rw [pLoop_more hp xs f (acc ++ [x]) r (by simp) hg.2 (by simpa using hl), List.append_assoc]
    rfl
theorem pLoop_all (hp : ∀ t r, gr k t = true → nf r → p (W t ++ r) = some (t, r)) (xs : List D) (f : Nat) (r : Tx) (hg : grs k xs = true) (hl : xs.length < f) : pLoop p f [] (TL.joinL [44] (Ws xs) ++ 41 :: r) = some (xs, r) := by
  obtain ⟨f, rfl⟩ : ∃ g, f = g + 1 := ⟨f - 1, by omega⟩
  cases xs with
  | nil =>
    rw [Ws]
    unfold pLoop
    rw [if_pos (show (TL.joinL [44] [] ++ 41 :: r).head? = some 41 from rfl)]
    rfl
  | cons x xs =>
    rw [grs, Bool.and_eq_true] at hg
    rw [join_tl]
    obtain ⟨c, q, e, hc⟩ := W_head hg.1
    unfold pLoop
    have hne : ¬ (W x ++ tlW xs ++ 41 :: r).head? = some 41 := fun h => by
      rw [e] at h
      obtain rfl : c = 41 := Option.some.inj h
      revert hc
      decide
    rw [if_neg hne, if_pos rfl]
    dsimp only
    rw [List.append_assoc, hp x _ hg.1 (nf_tl xs r)]
    dsimp only
    rw [pLoop_more hp xs f ([] ++ [x]) r (by simp) hg.2 (by simpa using hl)]
    rfl
end
theorem len_tl : ∀ xs : List D, xs.length ≤ (tlW xs).length
  | [] => Nat.zero_le _
  | x :: xs => by
    have := len_tl xs
    show xs.length + 1 ≤ (44 :: (W x ++ tlW xs)).length
    rw [List.length_cons, List.length_append]
    omega
theorem pThing_back : ∀ (d : Nat) (t : D) (r : Tx), gr d t = true → nf r → pThing d (W t ++ r) = some (t, r) := by
  have key : ∀ n : Nat, ∃ c r, TL.numL n = c :: r ∧ isFig c = true := fun n => by
    cases q : TL.numL n with
    | nil => exact absurd q (TL.numL_ne n)
    | cons c r => exact ⟨c, r, rfl, fig_numL n c (by rw [q]; simp)⟩
  have flat : ∀ (d : Nat) (n : Nat) (r : Tx), pThing d (TL.numL n ++ r) = pNT (TL.numL n ++ r) := fun d n r => by
    obtain ⟨c, q, e, f⟩ := key n
    have h1 : ∀ w, isFig w = false → ¬ (TL.numL n ++ r).head? = some w := fun w hw h => by
      rw [e] at h
      obtain rfl : c = w := Option.some.inj h
      rw [f] at hw
      cases hw
    rw [pThing_flat d (h1 40 rfl), if_neg (h1 45 rfl)]
  intro d
  induction d with
  | zero =>
    intro t r hg hr
    cases t with
    | int i =>
      rw [gr] at hg
      have hg := of_decide_eq_true hg
      rw [W]
      unfold sInt
      split
      · rename_i hi
        rw [pThing_flat 0 (show (45 :: TL.numL i.natAbs ++ r).head? ≠ some 40 from fun q => absurd (Option.some.inj q) (by decide)), if_pos (show (45 :: TL.numL i.natAbs ++ r).head? = some 45 from rfl)]
        show pNeg (TL.numL i.natAbs ++ r) = _
        unfold pNeg
        rw [pFig_back hg fun c hc => (hr c hc).1]
        dsimp only
        rw [if_neg (by omega), show -(i.natAbs : Int) = i by omega]
      · rw [flat, pNT_int hg hr, show ((i.natAbs : Nat) : Int) = i by omega]
    | str x =>
      rw [gr] at hg
      have hg := of_decide_eq_true hg
      rw [W, List.append_assoc, flat, List.cons_append]
      exact pNT_str hg
    | tup xs => unfold gr at hg; cases hg
    | non => unfold gr at hg; cases hg
    | bl b => unfold gr at hg; cases hg
    | ref n => unfold gr at hg; cases hg
  | succ d ih =>
    intro t r hg hr
    cases t with
    | int i =>
      rw [gr] at hg
      have hg := of_decide_eq_true hg
      rw [W]
      unfold sInt
      split
      · rename_i hi
        rw [pThing_flat _ (show (45 :: TL.numL i.natAbs ++ r).head? ≠ some 40 from fun q => absurd (Option.some.inj q) (by decide)), if_pos (show (45 :: TL.numL i.natAbs ++ r).head? = some 45 from rfl)]
        show pNeg (TL.numL i.natAbs ++ r) = _
        unfold pNeg
        rw [pFig_back hg fun c hc => (hr c hc).1]
        dsimp only
        rw [if_neg (by omega), show -(i.natAbs : Int) = i by omega]
      · rw [flat, pNT_int hg hr, show ((i.natAbs : Nat) : Int) = i by omega]
    | str x =>
      rw [gr] at hg
      have hg := of_decide_eq_true hg
      rw [W, List.append_assoc, flat, List.cons_append]
      exact pNT_str hg
    | tup xs =>
      rw [gr] at hg
      rw [W]
      unfold pThing
      have hh : List.head? (40 :: (TL.joinL [44] (Ws xs) ++ [41]) ++ r) = some 40 := rfl
      rw [if_pos hh]
      have e : (40 :: (TL.joinL [44] (Ws xs) ++ [41]) ++ r).tail = TL.joinL [44] (Ws xs) ++ 41 :: r := by
        show TL.joinL [44] (Ws xs) ++ [41] ++ r = _
        rw [List.append_assoc]
        rfl
      rw [e, pLoop_all ih xs _ r hg]
      rw [List.cons_append, List.length_cons, List.length_append, List.length_append]
      cases xs with
      | nil => simp
      | cons x xs =>
        rw [join_tl, List.length_append]
        have := len_tl xs
        simp only [List.length_cons]
        omega
    | non => unfold gr at hg; cases hg
    | bl b => unfold gr at hg; cases hg
    | ref n => unfold gr at hg; cases hg
end K31

set_option Elab.async false
set_option linter.all false
set_option maxRecDepth 100000
/-! The texts of the law: read or refused. -/
namespace K31
open EW PySem
def rdB (x : Tx) : Bool := match pThing 40 x with
  | some (_, []) => true
  | _ => false
theorem rdB_no {x : Tx} (h : rdB x = false) : ∀ t, pThing 40 x ≠ some (t, []) := fun t e => by
  unfold rdB at h
  rw [e] at h
  cases h
theorem rdB_yes {x : Tx} (h : rdB x = true) : ∃ t, pThing 40 x = some (t, []) := by
  unfold rdB at h
  split at h
  · rename_i t e
    exact ⟨t, e⟩
  · cases h
def okB (x : Tx) : Bool := x.all (fun c => decide (c < 128)) && decide (x.length ≤ 130)
theorem okB_ok {x : Tx} (h : okB x = true) : (∀ c ∈ x, c < 128) ∧ x.length ≤ 130 := by
  unfold okB at h
  rw [Bool.and_eq_true] at h
  exact ⟨fun c hc => of_decide_eq_true (List.all_eq_true.mp h.1 c hc), of_decide_eq_true h.2⟩
def rfB (x : Tx) : Bool := okB x && !rdB x
/-- the digits: so many times the sign -/
def dgs (m d : Nat) : Tx := (List.replicate m [49 + d]).flatten
theorem zero_rf : ∀ n : Nat, n < 100 → rfB ([48] ++ sInt (n : Int)) = true := by decide +kernel
theorem dgs_rf : ∀ d : Nat, d < 9 → rfB (dgs 61 d) = true ∧ rfB ([45] ++ dgs 61 d) = true := by decide +kernel
theorem dgs_rd : ∀ d : Nat, d < 9 → pThing 40 (dgs 60 d) = some (.int (NumText.digitsVal (dgs 60 d) : Nat), []) ∧ okB (dgs 60 d) = true ∧ (dgs 61 d).drop 1 = dgs 60 d ∧ (dgs 60 d).all (fun c => decide (48 ≤ c) && decide (c ≤ 57)) = true ∧ sInt (1 + (d : Int)) = [49 + d] := by decide +kernel
def deepX : Tx := (List.replicate 41 [40]).flatten ++ (List.replicate 41 [41]).flatten
def longX : Tx := [49, 48, 48, 58] ++ (List.replicate 100 [97]).flatten
def longA : Tx := (List.replicate 99 [97]).flatten
theorem deep_rd : rdB (cutL deepX (some 1) (some 81)) = true ∧ okB (cutL deepX (some 1) (some 81)) = true := by decide +kernel
theorem long_rf : rfB ((cutL longX (some 1) (some 3) ++ cutL longX (some 3) (some 4)) ++ []) = true := by decide +kernel
theorem a99_rd : pThing 40 ([57, 57, 58] ++ longA) = some (.str longA, []) ∧ okB ([57, 57, 58] ++ longA) = true := by decide +kernel
def badX (d n : Nat) : List Tx := [[], [48] ++ sInt (n : Int), [45, 48], [45], dgs 61 d, [45] ++ dgs 61 d, deepX, [40, 49, 44, 41], [40, 44, 49, 41], [40, 49], [53, 58, 97, 98, 99, 100], [48, 49, 58, 97], [49, 58], [49, 32], longX]
theorem bad_rf {d n : Nat} (hd : d < 9) (hn : n < 100) : ∀ x ∈ badX d n, rfB x = true := by
  intro x hx
  have k : ∀ x ∈ ([[], [45, 48], [45], deepX, [40, 49, 44, 41], [40, 44, 49, 41], [40, 49], [53, 58, 97, 98, 99, 100], [48, 49, 58, 97], [49, 58], [49, 32], longX] : List Tx), rfB x = true := by decide +kernel
  simp only [badX, List.mem_cons, List.not_mem_nil, or_false] at hx
  rcases hx with rfl | rfl | rfl | rfl | rfl | rfl | rfl | rfl | rfl | rfl | rfl | rfl | rfl | rfl | rfl
  · exact k _ (by simp)
  · exact zero_rf n hn
  · exact k _ (by simp)
  · exact k _ (by simp)
  · exact (dgs_rf d hd).1
  · exact (dgs_rf d hd).2
  · exact k _ (by simp)
  · exact k _ (by simp)
  · exact k _ (by simp)
  · exact k _ (by simp)
  · exact k _ (by simp)
  · exact k _ (by simp)
  · exact k _ (by simp)
  · exact k _ (by simp)
  · exact k _ (by simp)
theorem rfB_ok {x : Tx} (h : rfB x = true) : ((∀ c ∈ x, c < 128) ∧ x.length ≤ 130) ∧ ∀ t, pThing 40 x ≠ some (t, []) := by
  unfold rfB at h
  rw [Bool.and_eq_true] at h
  refine ⟨okB_ok h.1, rdB_no ?_⟩
  have := h.2
  cases q : rdB x with
  | false => rfl
  | true => rw [q] at this; cases this
theorem comma_no {t : D} (h : gr 40 t = true) : ∀ u, pThing 40 (W t ++ [44]) ≠ some (u, []) := fun u e => by
  rw [pThing_back 40 t [44] h (fun c hc => by cases hc; decide)] at e
  cases e
theorem gr_mono : ∀ (d : Nat) (t : D) (e : Nat), gr d t = true → d ≤ e → gr e t = true := by
  intro d
  induction d with
  | zero =>
    intro t e h _
    cases t with
    | int i => rw [gr] at h ⊢; exact h
    | str x => rw [gr] at h ⊢; exact h
    | tup xs => unfold gr at h; cases h
    | non => unfold gr at h; cases h
    | bl b => unfold gr at h; cases h
    | ref n => unfold gr at h; cases h
  | succ d ih =>
    intro t e h he
    obtain ⟨e, rfl⟩ : ∃ f, e = f + 1 := ⟨e - 1, by omega⟩
    cases t with
    | int i => rw [gr] at h ⊢; exact h
    | str x => rw [gr] at h ⊢; exact h
    | tup xs =>
      rw [gr] at h ⊢
      induction xs with
      | nil => rw [grs]
      | cons x xs ih2 =>
        rw [grs, Bool.and_eq_true] at h
        rw [grs, ih x e h.1 (by omega), ih2 h.2]; rfl
    | non => unfold gr at h; cases h
    | bl b => unfold gr at h; cases h
    | ref n => unfold gr at h; cases h
end K31

set_option Elab.async false
set_option linter.all false
set_option maxRecDepth 100000
set_option maxHeartbeats 4000000
namespace K31
open EW EW.EN PySem
abbrev Rn (L n f : Nat) (ts : List T) : CR := mrun Qn L n f ts
abbrev rd (o : Bool) (x : Tx) (p : Nat) : T := .ins o 0 [1, 0] [.p (.str x), .p (.int (p : Int))]
/-! ### texts -/
theorem nsl_str {x : Tx} {lo hi : Option Int} (h : x.length ≤ sizeLine) : nsl (.p (.str x)) lo hi = some (.p (.str (cutL x lo hi))) := if_pos h
theorem nix_str {x : Tx} {j : Int} {c : Nat} (h : x.length ≤ sizeLine) (h2 : L2.atI x j = some c) : nix (.p (.str x)) (.p (.int j)) = some (.p (.str [c])) := by
  show (if x.length ≤ sizeLine then (L2.atI x j).map (fun c => T.p (.str [c])) else none) = _
  rw [if_pos h, h2]
  rfl
theorem nlen_str {x : Tx} (h : x.length ≤ sizeLine) : nbi .len [.p (.str x)] = some (.p (.int x.length)) := by
  show (nlen (.p (.str x))).map _ = _
  rw [show nlen (.p (.str x)) = some x.length from if_pos h]
  rfl
theorem nstr_int {i : Int} (h : i.natAbs.log2 < 1920) : nbi .str [.p (.int i)] = some (.p (.str (sInt i))) := if_pos h
theorem nint_str {x : Tx} {n : Int} (h : intText? (strOf x) = some n) (h2 : x.length ≤ 640) : nbi .int [.p (.str x)] = some (.p (.int n)) := by
  show (match intText? (strOf x) with
    | some n => if x.length ≤ 640 then some (T.p (.int n)) else none
    | none => none) = _
  rw [h]
  exact if_pos h2
def okT (x : Tx) : Prop := ∀ c ∈ x, c < 128
theorem qd_str {x : Tx} (h : okT x) : qd (.str x) = true := by
  unfold qd PyData.canLay0 PyData.strOk strOf
  rw [← Array.all_toList]
  exact List.all_eq_true.mpr fun c hc => decide_eq_true (by have := h c hc; omega)
theorem dep_str (x : Tx) : dep (.str x) = 0 := by unfold dep; rfl
theorem eq_str {x y : Tx} (h : okT x) (h2 : okT y) : ncmp .eq (.p (.str x)) (.p (.str y)) = some (decide (x = y)) := by
  show neq (.p (.str x)) (.p (.str y)) = _
  rw [neq_p (qd_str h) (qd_str h2) (by rw [dep_str]; decide) (by rw [dep_str]; decide)]
  congr 1
  exact decide_eq_decide.mpr ⟨fun e => by injection e, fun e => by rw [e]⟩
theorem ne_str {x y : Tx} (h : okT x) (h2 : okT y) : ncmp .ne (.p (.str x)) (.p (.str y)) = some (!decide (x = y)) := by
  show (neq (.p (.str x)) (.p (.str y))).map (!·) = _
  rw [show neq (.p (.str x)) (.p (.str y)) = some (decide (x = y)) from eq_str h h2]
  rfl
theorem cut_mid {α : Type} {x : List α} {a b : Nat} (h : a ≤ x.length) : cutL x (some (a : Int)) (some (b : Int)) = (x.drop a).take (b - a) := by
  unfold cutL
  rw [HT.sIx_nat, HT.sIx_nat, Nat.min_eq_left h]
  by_cases q : b ≤ x.length
  · rw [Nat.min_eq_left q]
  · rw [Nat.min_eq_right (by omega), List.take_of_length_le (by rw [List.length_drop]; omega), List.take_of_length_le (by rw [List.length_drop]; omega)]
theorem cut_from {α : Type} {x : List α} {a : Nat} (h : a ≤ x.length) : cutL x (some (a : Int)) none = x.drop a := by
  unfold cutL
  rw [HT.sIx_nat, HT.sIx_none, Nat.min_eq_left h, List.take_of_length_le (by rw [List.length_drop]; omega)]
theorem okT.drop {x : Tx} (h : okT x) (n : Nat) : okT (x.drop n) := fun c hc => h c (List.mem_of_mem_drop hc)
theorem okT.take {x : Tx} (h : okT x) (n : Nat) : okT (x.take n) := fun c hc => h c (List.mem_of_mem_take hc)
theorem okT.app {x y : Tx} (h : okT x) (h2 : okT y) : okT (x ++ y) := fun c hc => (List.mem_append.mp hc).elim (h c) (h2 c)
/-- the sign at a place -/
theorem at_take {x : Tx} {p c : Nat} : ((x.drop p).take 1 = [c]) ↔ (x.drop p).head? = some c := by
  cases x.drop p with
  | nil => simp
  | cons a r => simp
variable {L n : Nat} {K : T → List T → Prop} {E : Exn → List T → Prop} {x : Tx} {p : Nat} {o : Bool}
def bad : Exn := ⟨1, []⟩
/-! ### the reader -/
theorem peek_c (hp : p ≤ x.length) (hx : x.length ≤ 100000) (h : K (.p (.str ((x.drop p).take 1))) [.hole]) : Wc (Rn L (n + 1) 3 [rd o x p]) K E := by
  refine Wc.run rfl rfl ?_
  conv => whnf
  refine optP_at (nsl_str (Nat.le_trans hx (by decide))) ?_
  conv => whnf
  have e : cutL x (some ((p : Nat) : Int)) (some ((p : Int) + 1)) = (x.drop p).take 1 := by
    rw [show (p : Int) + 1 = ((p + 1 : Nat) : Int) by omega, cut_mid hp, Nat.add_sub_cancel_left]
  rw [e]
  exact h
theorem okT1 {w : Nat} (h : w < 128) : okT [w] := fun c hc => by rw [List.mem_singleton.mp hc]; exact h
theorem sign_c {w : Nat} (hw : w < 128) (ox : okT x) (hp : p ≤ x.length) (hx : x.length ≤ 100000) (h1 : (x.drop p).head? = some w → K (.p .non) [rd true x (p + 1), .hole]) (h2 : (x.drop p).head? ≠ some w → ∀ t, E bad [t, .hole]) : Wc (Rn L (n + 2) 5 [rd true x p, .p (.str [w])]) K E := by
  refine Wc.run rfl rfl ?_
  conv => whnf
  refine ⟨rfl, peek_c (L := L) (n := n) hp hx ?_⟩
  conv => whnf
  refine optP_at (ne_str ((ox.drop p).take 1) (okT1 hw)) ?_
  conv => whnf
  refine ⟨fun hb => ?_, fun hb => ?_⟩
  · conv => whnf
    refine ⟨rfl, ?_⟩
    conv => whnf
    refine h2 (fun e => ?_) _
    rw [decide_eq_true (at_take.mpr e)] at hb
    cases hb
  · conv => whnf
    refine ⟨?_⟩
    conv => whnf
    refine ⟨?_⟩
    conv => whnf
    have hb : decide ((x.drop p).take 1 = [w]) = true := by
      cases q : decide ((x.drop p).take 1 = [w]) with
      | true => rfl
      | false => rw [q] at hb; cases hb
    exact h1 (at_take.mp (of_decide_eq_true hb))
end K31

set_option Elab.async false
set_option linter.all false
set_option maxRecDepth 100000
set_option maxHeartbeats 4000000
namespace K31
open EW EW.EN PySem
variable {L n : Nat} {K : T → List T → Prop} {E : Exn → List T → Prop} {x : Tx} {p : Nat} {o : Bool}
theorem tw_split : ∀ {a b : Tx}, (∀ c ∈ a, isFig c = true) → (∀ c, b.head? = some c → isFig c = false) → (a ++ b).takeWhile isFig = a ∧ (a ++ b).dropWhile isFig = b
  | [], b, _, h => by
    cases b with
    | nil => exact ⟨rfl, rfl⟩
    | cons c b =>
      have := h c rfl
      exact ⟨by rw [List.nil_append, List.takeWhile_cons, this]; rfl, by rw [List.nil_append, List.dropWhile_cons, this]; rfl⟩
  | c :: a, b, ha, h => by
    obtain ⟨h1, h2⟩ := tw_split (a := a) (b := b) (fun d hd => ha d (.tail _ hd)) h
    have := ha c (.head _)
    rw [List.cons_append, List.takeWhile_cons, List.dropWhile_cons, this]
    exact ⟨by rw [if_pos rfl, h1], by rw [if_pos rfl, h2]⟩
theorem fig_mem (c : Nat) : decide (c ∈ [48, 49, 50, 51, 52, 53, 54, 55, 56, 57]) = isFig c := by
  unfold isFig
  by_cases h : 48 ≤ c ∧ c ≤ 57
  · rw [decide_eq_true h.1, decide_eq_true h.2, Bool.and_true]
    refine decide_eq_true ?_
    obtain ⟨h1, h2⟩ := h
    have : c = 48 ∨ c = 49 ∨ c = 50 ∨ c = 51 ∨ c = 52 ∨ c = 53 ∨ c = 54 ∨ c = 55 ∨ c = 56 ∨ c = 57 := by omega
    rcases this with rfl | rfl | rfl | rfl | rfl | rfl | rfl | rfl | rfl | rfl <;> simp
  · have e : (decide (48 ≤ c) && decide (c ≤ 57)) = false := by
      rw [← Bool.not_eq_true, Bool.and_eq_true, decide_eq_true_eq, decide_eq_true_eq]
      exact h
    rw [e]
    refine decide_eq_false fun hm => h ?_
    simp at hm
    omega
theorem drop_succ {x : Tx} {q c : Nat} {r : Tx} (h : x.drop q = c :: r) : q < x.length ∧ x.drop (q + 1) = r := by
  refine ⟨?_, ?_⟩
  · refine Nat.lt_of_not_le fun hq => ?_
    rw [List.drop_eq_nil_of_le hq] at h
    cases h
  · rw [← List.drop_drop, h]
    rfl
def figI (x : Tx) (p : Nat) (m : Nat) (ρ : NEnv) : Prop := ∃ q, p ≤ q ∧ q ≤ x.length ∧ m = x.length - q ∧ (∀ c ∈ (x.drop p).take (q - p), isFig c = true) ∧ ρ = [.val (rd true x q), .val (.p (.int (p : Int))), .non]
theorem WhN.thn {C : Nal} {c : CE} {b : CSs} {k : Nat} {ρ : NEnv} {N N' : NEnv → Prop} {R : T → NEnv → Prop} {E : Exn → NEnv → Prop} (h : WhN C c b k ρ N' R E) (g : ∀ ρ, N' ρ → N ρ) : WhN C c b k ρ N R E := by
  refine ⟨?_⟩
  have := h.go
  revert this
  generalize mwh (mT C c) (fun ρ => msems C b ρ) k ρ = z
  intro h
  cases z with
  | nx r => exact g _ h
  | rt _ _ => exact h
  | ex _ _ => exact h
  | no => exact h
theorem atI_zero {α : Type} (c : α) (r : List α) : L2.atI (c :: r) 0 = some c := by
  have := atI_nat (xs := c :: r) (k := 0) (by simp)
  exact this
theorem okT0 : okT [] := fun _ h => by cases h
theorem ne_nil : ncmp .ne (.p (.str [])) (.p (.str [])) = some false := ne_str okT0 okT0
theorem digits_int {ds : Tx} (h : ∀ c ∈ ds, isFig c = true) (h1 : ds ≠ []) (h2 : ds.length ≤ 640) : nbi .int [.p (.str ds)] = some (.p (.int (NumText.digitsVal ds : Nat))) :=
  nint_str (intText_digits (x := strOf ds) (fig_digits h) h1 (by rw [len_strOf]; omega)) h2
theorem figures_c (hL : x.length < L) (ox : okT x) (hp : p ≤ x.length) (hx : x.length ≤ 100000) (h1 : ∀ m r1 q, pFig (x.drop p) = some (m, r1) → q ≤ x.length → x.drop q = r1 → K (.p (.int (m : Int))) [rd true x q]) (h2 : pFig (x.drop p) = none → ∀ t, E bad [t]) : Wc (Rn L (n + 2) 4 [rd true x p]) K E := by
  refine Wc.run rfl rfl ?_
  conv => whnf
  refine ⟨?_⟩
  refine vSs_env (ρ' := [.val (rd true x p), .val (.p (.int (p : Int))), .non]) rfl ?_
  conv => whnf
  refine WhN.thn (N' := fun ρ => ∃ q, p ≤ q ∧ q ≤ x.length ∧ (∀ c ∈ (x.drop p).take (q - p), isFig c = true) ∧ (∀ c, (x.drop q).head? = some c → isFig c = false) ∧ ρ = [.val (rd true x q), .val (.p (.int (p : Int))), .non]) (WhN.by (figI x p) ?_ L (x.length - p) _ (by omega) ⟨p, Nat.le_refl _, hp, rfl, by rw [Nat.sub_self]; simp, rfl⟩) ?_
  · rintro m ρ ⟨q, hq1, hq2, rfl, hf, rfl⟩
    conv => whnf
    refine ⟨rfl, peek_c (L := L) (n := n) hq2 hx ?_⟩
    cases hr : x.drop q with
    | nil =>
      rw [show (List.take 1 ([] : Tx)) = [] from rfl]
      conv => whnf
      refine optP_at ne_nil ?_
      conv => whnf
      refine ⟨fun hb => Bool.noConfusion hb, fun _ => ?_⟩
      conv => whnf
      refine ⟨fun hb => Bool.noConfusion hb, fun _ => ?_⟩
      exact ⟨q, hq1, hq2, hf, (fun c hc => by rw [hr] at hc; cases hc), rfl⟩
    | cons c r =>
      have hc : c < 128 := ox c (List.mem_of_mem_drop (hr ▸ List.mem_cons_self ..))
      have e1 : (c :: r).take 1 = [c] := rfl
      rw [e1]
      conv => whnf
      refine optP_at (ne_str (okT1 hc) (y := []) (fun _ h => by cases h)) ?_
      conv => whnf
      refine ⟨fun _ => ?_, fun hb => Bool.noConfusion hb⟩
      conv => whnf
      refine ⟨rfl, peek_c (L := L) (n := n) hq2 hx ?_⟩
      rw [hr, e1]
      conv => whnf
      refine ⟨rfl, ?_⟩
      conv => whnf
      rw [fig_mem]
      refine ⟨fun hb => ?_, fun hb => ?_⟩
      · obtain ⟨h3, h4⟩ := drop_succ hr
        conv => whnf
        refine ⟨?_⟩
        refine ⟨x.length - (q + 1), by omega, q + 1, by omega, by omega, rfl, ?_, rfl⟩
        intro d hd
        rw [show q + 1 - p = (q - p) + 1 by omega, List.take_add_one] at hd
        rcases List.mem_append.mp hd with hd | hd
        · exact hf d hd
        · rw [List.getElem?_drop, show p + (q - p) = q by omega] at hd
          have : x[q]? = some c := by
            have := congrArg List.head? hr
            rw [List.head?_drop] at this
            exact this
          rw [this] at hd
          have : d = c := by simpa using hd
          rw [this]
          exact hb
      · exact ⟨q, hq1, hq2, hf, (fun d hd => by rw [hr] at hd; cases hd; exact hb), rfl⟩
  · rintro ρ ⟨q, hq1, hq2, hf, hn, rfl⟩
    have eN : (x.drop p).takeWhile isFig = (x.drop p).take (q - p) ∧ (x.drop p).dropWhile isFig = x.drop q := by
      have e : x.drop p = (x.drop p).take (q - p) ++ x.drop q := by
        have := List.take_append_drop (q - p) (x.drop p)
        rw [List.drop_drop, show p + (q - p) = q by omega] at this
        exact this.symm
      have := tw_split hf hn
      rw [← e] at this
      exact this
    have el : ((x.drop p).take (q - p)).length = q - p := by rw [List.length_take, List.length_drop]; omega
    refine ⟨?_⟩
    conv => whnf
    refine optP_at (nsl_str (Nat.le_trans hx (by decide))) ?_
    rw [cut_mid hp]
    conv => whnf
    refine ⟨?_⟩
    generalize hds : (x.drop p).take (q - p) = ds at *
    have ods : okT ds := hds ▸ (ox.drop p).take _
    refine vSs_env (ρ' := [.val (rd true x q), .val (.p (.int (p : Int))), .val (.p (.str ds))]) rfl ?_
    conv => whnf
    refine optP_at (nlen_str (Nat.le_trans (by rw [el]; omega) (show 100000 ≤ sizeLine by decide))) ?_
    conv => whnf
    have eP : pFig (x.drop p) = if 1 ≤ ds.length ∧ ds.length ≤ 60 ∧ ¬ (1 < ds.length ∧ ds.head? = some 48) then some (NumText.digitsVal ds, x.drop q) else none := by unfold pFig; rw [eN.1, eN.2]
    have hd1 : ds.length ≤ sizeLine := Nat.le_trans (by rw [el]; omega) (show 100000 ≤ sizeLine by decide)
    have fin : 1 ≤ ds.length → ds.length ≤ 60 → ¬ (1 < ds.length ∧ ds.head? = some 48) → nbi .int [.p (.str ds)] = some (.p (.int (NumText.digitsVal ds : Nat))) ∧ K (.p (.int (NumText.digitsVal ds : Nat))) [rd true x q] := fun a b c =>
      ⟨digits_int hf (fun e => by rw [e] at a; simp at a) (by omega), h1 _ _ q (by rw [eP, if_pos ⟨a, b, c⟩]) hq2 rfl⟩
    have bd : ¬ (1 ≤ ds.length ∧ ds.length ≤ 60 ∧ ¬ (1 < ds.length ∧ ds.head? = some 48)) → ∀ t, E bad [t] := fun c => h2 (by rw [eP, if_neg c])
    refine ⟨fun hb => ?_, fun hb => ?_⟩
    · have hb := of_decide_eq_true hb
      conv => whnf
      refine ⟨rfl, ?_⟩
      conv => whnf
      refine ⟨fun hb2 => ?_, fun hb2 => ?_⟩
      · have hb2' : ¬ ds.length ≤ 60 := fun h => by
          rw [decide_eq_true (show ((ds.length : Nat) : Int) ≤ 60 by omega)] at hb2
          cases hb2
        conv => whnf
        refine ⟨fun _ => ?_, fun h => Bool.noConfusion (hb2.symm.trans h)⟩
        conv => whnf
        refine ⟨rfl, ?_⟩
        conv => whnf
        exact bd (fun h => hb2' h.2.1) _
      · have hb2' : ds.length ≤ 60 := by
          refine Nat.le_of_not_lt fun h => ?_
          rw [decide_eq_false (show ¬ ((ds.length : Nat) : Int) ≤ 60 by omega)] at hb2
          cases hb2
        conv => whnf
        refine optP_at (nlen_str hd1) ?_
        conv => whnf
        refine ⟨fun hb3 => ?_, fun hb3 => ?_⟩
        · have hb3' := of_decide_eq_true hb3
          obtain ⟨c, ds', rfl⟩ : ∃ c r, ds = c :: r := by
            cases ds with
            | nil => simp at hb3'
            | cons c r => exact ⟨c, r, rfl⟩
          conv => whnf
          refine optP_at (nix_str (c := c) hd1 (atI_zero c ds')) ?_
          conv => whnf
          refine optP_at (eq_str (okT1 (ods c (.head _))) (okT1 (show 48 < 128 by decide))) ?_
          conv => whnf
          refine ⟨fun hb4 => ?_, fun hb4 => ?_⟩
          · have e4 : c = 48 := by injection of_decide_eq_true hb4
            conv => whnf
            refine ⟨rfl, ?_⟩
            conv => whnf
            exact bd (fun h => h.2.2 ⟨by omega, by rw [e4]; rfl⟩) _
          · have e4 : c ≠ 48 := fun e => of_decide_eq_false hb4 (by rw [e])
            conv => whnf
            refine ⟨?_⟩
            conv => whnf
            obtain ⟨f1, f2⟩ := fin (by simp) hb2' (fun h => e4 (by injection h.2))
            refine optP_at f1 ?_
            exact f2
        · have hb3' := of_decide_eq_false hb3
          conv => whnf
          refine ⟨fun h => Bool.noConfusion (hb3.symm.trans h), fun _ => ?_⟩
          conv => whnf
          refine ⟨?_⟩
          conv => whnf
          obtain ⟨f1, f2⟩ := fin (by omega) hb2' (fun h => hb3' (by omega))
          refine optP_at f1 ?_
          exact f2
    · have hb := of_decide_eq_false hb
      conv => whnf
      refine ⟨fun _ => ?_, fun h => Bool.noConfusion h⟩
      conv => whnf
      refine ⟨fun _ => ?_, fun h => Bool.noConfusion h⟩
      conv => whnf
      refine ⟨rfl, ?_⟩
      conv => whnf
      exact bd (fun h => hb (by have := h.1; omega)) _
end K31

set_option Elab.async false
set_option linter.all false
set_option maxRecDepth 100000
set_option maxHeartbeats 4000000
namespace K31
open EW EW.EN PySem
variable {L n : Nat} {K : T → List T → Prop} {E : Exn → List T → Prop} {x : Tx} {p : Nat} {o : Bool}
theorem log_lt {m : Nat} (h : (TL.numL m).length ≤ 60) : m.log2 < 1920 := by
  have h2 : m < 10 ^ 60 := by
    refine Nat.lt_of_not_le fun hm => ?_
    have : ∀ (k m : Nat), 10 ^ k ≤ m → k < (TL.numL m).length := fun k => by
      induction k with
      | zero => intro m _; exact List.length_pos_iff.mpr (TL.numL_ne _)
      | succ k ih =>
        intro m hm
        rw [TL.numL_step (by have : 0 < 10 ^ k := Nat.pow_pos (by decide); omega), List.length_append]
        have := ih (m / 10) (by omega)
        simp
        omega
    have := this 60 m hm
    omega
  by_cases h0 : m = 0
  · subst h0; decide
  · rw [Nat.log2_lt h0]
    exact Nat.lt_trans h2 (by decide +kernel)
theorem notxt_c (hL : x.length < L) (ox : okT x) (hp : p ≤ x.length) (hx : x.length ≤ 100000) (h1 : ∀ t r1 q, pNT (x.drop p) = some (t, r1) → q ≤ x.length → x.drop q = r1 → K (.p t) [rd true x q]) (h2 : pNT (x.drop p) = none → ∀ t, E bad [t]) : Wc (Rn L (n + 3) 6 [rd true x p]) K E := by
  refine Wc.run rfl rfl ?_
  conv => whnf
  refine ⟨rfl, figures_c (L := L) (n := n) hL ox hp hx (fun m r1 q e hq er => ?_) (fun e t => ?_)⟩
  · have eP : pNT (x.drop p) = if r1.head? = some 58 then (if (TL.numL m).length ≤ 2 ∧ (r1.tail.take m).length = m then some (.str (r1.tail.take m), r1.tail.drop m) else none) else some (.int m, r1) := by
      unfold pNT
      rw [e]
    obtain ⟨e1, e2⟩ := pFig_ok e
    conv => whnf
    refine ⟨?_⟩
    refine vSs_env (ρ' := [.val (rd true x q), .val (.p (.int (m : Int))), .non]) rfl ?_
    conv => whnf
    refine ⟨rfl, peek_c (L := L) (n := n + 1) hq hx ?_⟩
    conv => whnf
    refine optP_at (ne_str ((ox.drop q).take 1) (okT1 (show 58 < 128 by decide))) ?_
    conv => whnf
    refine ⟨fun hb => ?_, fun hb => ?_⟩
    · conv => whnf
      refine h1 _ _ q ?_ hq er
      rw [eP, if_neg]
      intro hc
      rw [← er] at hc
      rw [decide_eq_true (at_take.mpr hc)] at hb
      cases hb
    · have hb : decide ((x.drop q).take 1 = [58]) = true := by
        cases q : decide ((x.drop q).take 1 = [58]) with
        | true => rfl
        | false => rw [q] at hb; cases hb
      have hc := at_take.mp (of_decide_eq_true hb)
      rw [er] at hc
      rw [if_pos hc] at eP
      obtain ⟨h3, h4⟩ := drop_succ (er.trans (head_eq hc))
      conv => whnf
      refine ⟨?_⟩
      conv => whnf
      refine ⟨?_⟩
      refine vSs_env (ρ' := [.val (rd true x (q + 1)), .val (.p (.int (m : Int))), .non]) rfl ?_
      conv => whnf
      refine optP_at (nsl_str (Nat.le_trans hx (by decide))) ?_
      have ec : cutL x (some ((q + 1 : Nat) : Int)) (some (((q + 1 : Nat) : Int) + (m : Int))) = r1.tail.take m := by
        rw [show ((q + 1 : Nat) : Int) + (m : Int) = ((q + 1 + m : Nat) : Int) by omega, cut_mid (by omega), h4, Nat.add_sub_cancel_left]
      rw [ec]
      generalize hf : r1.tail.take m = f at *
      have lf : f.length ≤ sizeLine := by
        rw [← hf, List.length_take, ← h4, List.length_drop]
        exact Nat.le_trans (show _ ≤ 100000 by omega) (by decide)
      conv => whnf
      refine ⟨?_⟩
      refine vSs_env (ρ' := [.val (rd true x (q + 1)), .val (.p (.int (m : Int))), .val (.p (.str f))]) rfl ?_
      conv => whnf
      refine optP_at (nstr_int (show ((m : Int)).natAbs.log2 < 1920 by rw [Int.natAbs_natCast]; exact log_lt e2)) ?_
      rw [sInt_nat]
      conv => whnf
      refine optP_at (nlen_str (Nat.le_trans e2 (by decide))) ?_
      conv => whnf
      refine ⟨rfl, ?_⟩
      conv => whnf
      refine ⟨fun hb2 => ?_, fun hb2 => ?_⟩
      · have hb2' := of_decide_eq_true hb2
        conv => whnf
        refine ⟨fun _ => ?_, fun h => Bool.noConfusion (hb2.symm.trans h)⟩
        conv => whnf
        refine ⟨rfl, ?_⟩
        conv => whnf
        refine h2 ?_ _
        rw [eP, if_neg (fun h => by have := h.1; omega)]
      · have hb2' := of_decide_eq_false hb2
        conv => whnf
        refine optP_at (nlen_str lf) ?_
        conv => whnf
        refine ⟨fun hb3 => ?_, fun hb3 => ?_⟩
        · conv => whnf
          refine ⟨rfl, ?_⟩
          conv => whnf
          refine h2 ?_ _
          rw [eP, if_neg]
          intro h
          rw [decide_eq_true (show ((f.length : Nat) : Int) = (m : Int) by rw [h.2])] at hb3
          cases hb3
        · have hb3 : f.length = m := by
            cases hq : decide (((f.length : Nat) : Int) = (m : Int)) with
            | true => have := of_decide_eq_true hq; omega
            | false => rw [hq] at hb3; cases hb3
          have hl : q + 1 + m ≤ x.length := by
            have : f.length ≤ x.length - (q + 1) := by rw [← hf, List.length_take, ← h4, List.length_drop]; omega
            omega
          conv => whnf
          refine ⟨?_⟩
          conv => whnf
          refine ⟨?_⟩
          conv => whnf
          have hk := h1 _ _ (q + 1 + m) (by rw [eP, if_pos ⟨by omega, hb3⟩]) hl (by rw [← h4, List.drop_drop])
          rw [show rd true x (q + 1 + m) = .ins true 0 [1, 0] [.p (.str x), .p (.int (((q + 1 : Nat) : Int) + (m : Int)))] by
            show T.ins true 0 [1, 0] [.p (.str x), .p (.int ((q + 1 + m : Nat) : Int))] = _
            rw [show ((q + 1 + m : Nat) : Int) = ((q + 1 : Nat) : Int) + (m : Int) by omega]] at hk
          exact hk
  · conv => whnf
    refine h2 ?_ _
    unfold pNT
    rw [e]
end K31

set_option Elab.async false
set_option linter.all false
set_option maxRecDepth 100000
set_option maxHeartbeats 4000000
namespace K31
open EW EW.EN PySem
variable {L n : Nat} {K : T → List T → Prop} {E : Exn → List T → Prop} {x : Tx} {p : Nat} {o : Bool}
theorem W_ne {k : Nat} {t : D} (h : gd k t = true) : 0 < (W t).length := by
  cases t with
  | int i =>
    rw [W]
    unfold sInt
    split
    · simp
    · exact List.length_pos_iff.mpr (TL.numL_ne _)
  | str y => rw [W]; simp only [List.length_append, List.length_cons]; omega
  | tup xs => rw [W]; simp
  | non => cases k <;> simp [gd] at h
  | bl _ => cases k <;> simp [gd] at h
  | ref _ => cases k <;> simp [gd] at h
/-- what reading a thing does, so deep -/
def ThingC (L d lv : Nat) : Prop := ∀ (K : T → List T → Prop) (E : Exn → List T → Prop) (x : Tx) (p : Nat), x.length < L → okT x → p ≤ x.length → x.length ≤ 100000 →
  (∀ t r1 q, pThing d (x.drop p) = some (t, r1) → q ≤ x.length → x.drop q = r1 → K (.p t) [rd true x q, .hole]) → (pThing d (x.drop p) = none → ∀ t, E bad [t, .hole]) → Wc (Rn L lv 8 [rd true x p, .p (.int (d : Int))]) K E
theorem nbm_app {acc : List D} {t : D} (h : acc.length < sizeLine) : nbm .append (.lp true acc) [.p t] = some (.p .non, .lp true (acc ++ [t])) := if_pos h
theorem peek_ne {w : Nat} {r : Tx} {b : Bool} (h : (!decide (r.take 1 = [w])) = b) : (r.head? = some w) ↔ b = false := by
  have : (r.take 1 = [w]) ↔ r.head? = some w := by
    cases r with
    | nil => simp
    | cons a r => simp
  rw [← this]
  cases q : decide (r.take 1 = [w]) with
  | true => rw [q] at h; subst h; simp [of_decide_eq_true q]
  | false => rw [q] at h; subst h; simp [of_decide_eq_false q]
theorem parts_c {d lv : Nat} (TC : ThingC L d (lv + 2)) (hL : x.length < L) (ox : okT x) (hp : p < x.length) (hx : x.length ≤ 100000) (hh : (x.drop p).head? = some 40)
    (h1 : ∀ xs r1 q, pLoop (pThing d) ((x.drop p).length + 1) [] (x.drop p).tail = some (xs, r1) → q ≤ x.length → x.drop q = r1 → K (.p (.tup xs)) [rd true x q, .hole]) (h2 : pLoop (pThing d) ((x.drop p).length + 1) [] (x.drop p).tail = none → ∀ t, E bad [t, .hole]) :
    Wc (Rn L (lv + 3) 7 [rd true x p, .p (.int ((d + 1 : Nat) : Int))]) K E := by
  generalize hA : pLoop (pThing d) ((x.drop p).length + 1) [] (x.drop p).tail = A at h1 h2
  refine Wc.run rfl rfl ?_
  conv => whnf
  have z0 : decide (((d + 1 : Nat) : Int) = 0) = false := decide_eq_false (by omega)
  refine ⟨fun h => Bool.noConfusion (z0.symm.trans h), fun _ => ?_⟩
  conv => whnf
  refine ⟨?_⟩
  conv => whnf
  refine ⟨rfl, sign_c (L := L) (n := lv) (w := 40) (by decide) ox (Nat.le_of_lt hp) hx (fun _ => ?_) (fun h => absurd hh h)⟩
  conv => whnf
  refine ⟨?_⟩
  refine vSs_env (ρ' := [.val (rd true x (p + 1)), .val (.p (.int ((d + 1 : Nat) : Int))), .non]) rfl ?_
  conv => whnf
  refine ⟨?_⟩
  refine vSs_env (ρ' := [.val (rd true x (p + 1)), .val (.p (.int ((d + 1 : Nat) : Int))), .val (.lp true [])]) rfl ?_
  conv => whnf
  refine WhN.thn (N' := fun ρ => ∃ q acc, q ≤ x.length ∧ (x.drop q).head? = some 41 ∧ A = some (acc, (x.drop q).tail) ∧ ρ = [.val (rd true x q), .val (.p (.int ((d + 1 : Nat) : Int))), .val (.lp true acc)])
    (WhN.by (fun m ρ => ∃ q acc k, q ≤ x.length ∧ m = x.length - q ∧ acc.length ≤ q ∧ (x.drop q).length < k ∧ A = pLoop (pThing d) k acc (x.drop q) ∧ ρ = [.val (rd true x q), .val (.p (.int ((d + 1 : Nat) : Int))), .val (.lp true acc)]) ?_ L (x.length - (p + 1)) _ (by omega) ⟨p + 1, [], (x.drop p).length + 1, hp, rfl, by simp, by rw [List.length_drop, List.length_drop]; omega, by rw [← hA, ← List.drop_drop, List.drop_one], rfl⟩) ?_
  · rintro m ρ ⟨q, acc, k, hq, rfl, hacc, hk, hloop, rfl⟩
    obtain ⟨k, rfl⟩ : ∃ j, k = j + 1 := ⟨k - 1, by omega⟩
    conv => whnf
    refine ⟨rfl, peek_c (L := L) (n := lv + 1) hq hx ?_⟩
    conv => whnf
    refine optP_at (ne_str ((ox.drop q).take 1) (okT1 (show 41 < 128 by decide))) ?_
    conv => whnf
    refine ⟨fun hb => ?_, fun hb => ?_⟩
    · have hn : ¬ (x.drop q).head? = some 41 := fun h => by have := (peek_ne hb).mp h; cases this
      rw [pLoop, if_neg hn] at hloop
      conv => whnf
      cases acc with
      | nil =>
        rw [if_pos rfl] at hloop
        dsimp only at hloop
        refine ⟨fun h => Bool.noConfusion h, fun _ => ?_⟩
        conv => whnf
        refine ⟨?_⟩
        conv => whnf
        refine ⟨rfl, ?_⟩
        conv => whnf
        refine ⟨rfl, ?_⟩
        rw [show ((d + 1 : Nat) : Int) - 1 = (d : Int) by omega]
        refine TC _ _ _ _ hL ox hq hx (fun t r2 q2 e2 hq2 er2 => ?_) (fun e2 t => ?_)
        · rw [e2] at hloop
          have hloop : _ = pLoop (pThing d) k ([] ++ [t]) r2 := hloop
          obtain ⟨e3, g3⟩ := pThing_ok d _ _ _ e2
          have hlen : (x.drop q).length = (W t).length + r2.length := by rw [e3, List.length_append]
          have hW := W_ne g3
          have hr2 : r2.length = x.length - q2 := by rw [← er2, List.length_drop]
          rw [List.length_drop] at hlen
          conv => whnf
          refine ⟨?_⟩
          refine ⟨x.length - q2, by omega, q2, [] ++ [t], k, hq2, rfl, by rw [List.length_append]; simp at hacc ⊢; omega, by rw [er2, hr2]; rw [List.length_drop] at hk; omega, by rw [er2]; exact hloop, rfl⟩
        · rw [e2] at hloop
          conv => whnf
          exact h2 hloop _
      | cons a acc =>
        rw [if_neg (by simp)] at hloop
        refine ⟨fun _ => ?_, fun h => Bool.noConfusion h⟩
        conv => whnf
        refine ⟨rfl, sign_c (L := L) (n := lv) (w := 44) (by decide) ox hq hx (fun hc => ?_) (fun hc t => ?_)⟩
        · obtain ⟨h3, h4⟩ := drop_succ (head_eq hc)
          rw [if_pos hc, ← h4] at hloop
          dsimp only at hloop
          conv => whnf
          refine ⟨?_⟩
          conv => whnf
          refine ⟨?_⟩
          conv => whnf
          refine ⟨rfl, ?_⟩
          conv => whnf
          refine ⟨rfl, ?_⟩
          rw [show ((d + 1 : Nat) : Int) - 1 = (d : Int) by omega]
          refine TC _ _ _ _ hL ox h3 hx (fun t r2 q2 e2 hq2 er2 => ?_) (fun e2 t => ?_)
          · rw [e2] at hloop
            have hloop : _ = pLoop (pThing d) k ((a :: acc) ++ [t]) r2 := hloop
            obtain ⟨e3, g3⟩ := pThing_ok d _ _ _ e2
            have hlen : (x.drop (q + 1)).length = (W t).length + r2.length := by rw [e3, List.length_append]
            have hW := W_ne g3
            have hr2 : r2.length = x.length - q2 := by rw [← er2, List.length_drop]
            rw [List.length_drop] at hlen
            conv => whnf
            refine optP_at (nbm_app (Nat.lt_of_le_of_lt (Nat.le_trans hacc hq) (Nat.lt_of_le_of_lt hx (by decide)))) ?_
            conv => whnf
            refine ⟨?_⟩
            refine ⟨x.length - q2, by omega, q2, (a :: acc) ++ [t], k, hq2, rfl, by rw [List.length_append]; simp at hacc ⊢; omega, by rw [er2, hr2]; rw [List.length_drop] at hk; omega, by rw [er2]; exact hloop, rfl⟩
          · rw [e2] at hloop
            conv => whnf
            exact h2 hloop _
        · rw [if_neg hc] at hloop
          conv => whnf
          exact h2 hloop _
    · have hc := (peek_ne hb).mpr rfl
      refine ⟨q, acc, hq, hc, ?_, rfl⟩
      rw [hloop, pLoop, if_pos hc]
  · rintro ρ ⟨q, acc, hq, hc, he, rfl⟩
    refine ⟨?_⟩
    conv => whnf
    refine ⟨rfl, sign_c (L := L) (n := lv) (w := 41) (by decide) ox hq hx (fun _ => ?_) (fun h => absurd hc h)⟩
    obtain ⟨h3, h4⟩ := drop_succ (head_eq hc)
    conv => whnf
    refine ⟨?_⟩
    conv => whnf
    exact h1 acc _ (q + 1) he h3 h4
end K31

set_option Elab.async false
set_option linter.all false
set_option maxRecDepth 100000
set_option maxHeartbeats 4000000
namespace K31
open EW EW.EN PySem
variable {L n : Nat} {K : T → List T → Prop} {E : Exn → List T → Prop} {x : Tx} {p : Nat} {o : Bool}
theorem parts_0 {lv : Nat} (h2 : ∀ t, E bad [t, .hole]) : Wc (Rn L (lv + 1) 7 [rd true x p, .p (.int ((0 : Nat) : Int))]) K E := by
  refine Wc.run rfl rfl ?_
  conv => whnf
  refine ⟨fun _ => ?_, fun h => Bool.noConfusion h⟩
  conv => whnf
  refine ⟨rfl, ?_⟩
  conv => whnf
  exact h2 _
theorem peek_eq {w : Nat} {r : Tx} {b : Bool} (h : decide (r.take 1 = [w]) = b) : (r.head? = some w) ↔ b = true := by
  have := peek_ne (w := w) (r := r) (b := !b) (by rw [h])
  rw [this]
  cases b <;> simp
theorem thing_b {d lv : Nat} (PC : ∀ {K : T → List T → Prop} {E : Exn → List T → Prop} {x : Tx} {p : Nat}, x.length < L → okT x → p < x.length → x.length ≤ 100000 → (x.drop p).head? = some 40 →
    (∀ t r1 q, pThing d (x.drop p) = some (t, r1) → q ≤ x.length → x.drop q = r1 → K (.p t) [rd true x q, .hole]) → (pThing d (x.drop p) = none → ∀ t, E bad [t, .hole]) → Wc (Rn L (lv + 3) 7 [rd true x p, .p (.int (d : Int))]) K E) : ThingC L d (lv + 4) := by
  intro K E x p hL ox hp hx h1 h2
  refine Wc.run rfl rfl ?_
  conv => whnf
  refine ⟨rfl, peek_c (L := L) (n := lv + 2) hp hx ?_⟩
  conv => whnf
  refine optP_at (eq_str ((ox.drop p).take 1) (okT1 (show 40 < 128 by decide))) ?_
  conv => whnf
  refine ⟨fun hb => ?_, fun hb => ?_⟩
  · have hc := (peek_eq hb).mpr rfl
    conv => whnf
    refine ⟨rfl, PC (K := _) (E := _) hL ox (drop_succ (head_eq hc)).1 hx hc (fun t r1 q e hq er => ?_) (fun e t => ?_)⟩
    · conv => whnf
      exact h1 _ _ _ e hq er
    · conv => whnf
      exact h2 e _
  · have hn : ¬ (x.drop p).head? = some 40 := fun h => by have := (peek_eq hb).mp h; cases this
    conv => whnf
    refine ⟨?_⟩
    conv => whnf
    refine ⟨rfl, peek_c (L := L) (n := lv + 2) hp hx ?_⟩
    conv => whnf
    refine optP_at (eq_str ((ox.drop p).take 1) (okT1 (show 45 < 128 by decide))) ?_
    conv => whnf
    refine ⟨fun hb2 => ?_, fun hb2 => ?_⟩
    · have hc := (peek_eq hb2).mpr rfl
      have eP : pThing d (x.drop p) = pNeg (x.drop p).tail := by
        cases d <;> (unfold pThing; rw [if_neg hn, if_pos hc])
      obtain ⟨h3, h4⟩ := drop_succ (head_eq hc)
      conv => whnf
      refine ⟨?_⟩
      refine vSs_env (ρ' := [.val (rd true x (p + 1)), .val (.p (.int (d : Int))), .non]) rfl ?_
      conv => whnf
      refine ⟨rfl, figures_c (L := L) (n := lv + 1) hL ox h3 hx (fun m r1 q e hq er => ?_) (fun e t => ?_)⟩
      · have eN : pThing d (x.drop p) = if m = 0 then none else some (.int (-(m : Int)), r1) := by
          rw [eP]
          unfold pNeg
          rw [← h4, e]
        conv => whnf
        refine ⟨?_⟩
        refine vSs_env (ρ' := [.val (rd true x q), .val (.p (.int (d : Int))), .val (.p (.int (m : Int)))]) rfl ?_
        conv => whnf
        refine ⟨fun hm => ?_, fun hm => ?_⟩
        · have hm := of_decide_eq_true hm
          conv => whnf
          refine ⟨rfl, ?_⟩
          conv => whnf
          exact h2 (by rw [eN, if_pos (by omega)]) _
        · have hm := of_decide_eq_false hm
          conv => whnf
          refine ⟨?_⟩
          conv => whnf
          exact h1 _ _ q (by rw [eN, if_neg (by omega)]) hq er
      · conv => whnf
        refine h2 ?_ _
        rw [eP]
        unfold pNeg
        rw [← h4, e]
    · have hn2 : ¬ (x.drop p).head? = some 45 := fun h => by have := (peek_eq hb2).mp h; cases this
      have eP : pThing d (x.drop p) = pNT (x.drop p) := by
        cases d <;> (unfold pThing; rw [if_neg hn, if_neg hn2])
      conv => whnf
      refine ⟨?_⟩
      conv => whnf
      refine ⟨rfl, notxt_c (L := L) (n := lv) hL ox hp hx (fun t r1 q e hq er => ?_) (fun e t => ?_)⟩
      · conv => whnf
        exact h1 _ _ q (eP.trans e) hq er
      · conv => whnf
        exact h2 (eP.trans e) _
theorem thing_c (L n : Nat) : ∀ d, ThingC L d (n + 2 * d + 4)
  | 0 => thing_b (lv := n + 2 * 0) fun hL ox hp hx hc h1 h2 => parts_0 (h2 (by unfold pThing; rw [if_pos hc]))
  | d + 1 => by
    have TC : ThingC L d (n + 2 * d + 4) := thing_c L n d
    refine thing_b (lv := n + 2 * (d + 1)) fun {K E x p} hL ox hp hx hc h1 h2 => ?_
    have eP : pThing (d + 1) (x.drop p) = match pLoop (pThing d) ((x.drop p).length + 1) [] (x.drop p).tail with
      | none => none
      | some (xs, r1) => some (.tup xs, r1) := by
      rw [pThing, if_pos hc]
      try (cases pLoop (pThing d) ((x.drop p).length + 1) [] (x.drop p).tail <;> rfl)
    refine parts_c (lv := n + 2 * (d + 1)) TC hL ox hp hx hc (fun xs r1 q e hq er => ?_) (fun e t => ?_)
    · exact h1 _ _ q (by rw [eP, e]) hq er
    · exact h2 (by rw [eP, e]) t
theorem init_c (h : K (.p .non) [rd true x 0, .hole]) : Wc (Rn L (n + 1) 2 [.ins true 0 [] [], .p (.str x)]) K E := by
  refine Wc.run rfl rfl ?_
  conv => whnf
  refine ⟨?_⟩
  conv => whnf
  refine ⟨?_⟩
  conv => whnf
  exact h
/-- read -/
theorem read_c (hL : x.length < L) (ox : okT x) (hx : x.length ≤ 100000) (h1 : ∀ t, pThing 40 x = some (t, []) → K (.p t) [.hole]) (h2 : (∀ t, pThing 40 x ≠ some (t, [])) → E bad [.hole]) : Wc (Rn L (n + 85) 9 [.p (.str x)]) K E := by
  refine Wc.run rfl rfl ?_
  conv => whnf
  refine ⟨rfl, ?_⟩
  refine init_c (L := L) (n := n + 83) ?_
  conv => whnf
  refine ⟨rfl, ?_⟩
  conv => whnf
  refine ⟨?_⟩
  refine vSs_env (ρ' := [.val (.p (.str x)), .val (rd true x 0), .non]) rfl ?_
  conv => whnf
  refine ⟨rfl, ?_⟩
  conv => whnf
  refine ⟨rfl, thing_c L n 40 _ _ x 0 hL ox (Nat.zero_le _) hx (fun t r1 q e hq er => ?_) (fun e t => ?_)⟩
  · rw [List.drop_zero] at e
    conv => whnf
    refine ⟨?_⟩
    refine vSs_env (ρ' := [.val (.p (.str x)), .val (rd true x q), .val (.p t)]) rfl ?_
    conv => whnf
    refine optP_at (nlen_str (Nat.le_trans hx (by decide))) ?_
    conv => whnf
    refine ⟨fun hb => ?_, fun hb => ?_⟩
    · conv => whnf
      refine ⟨rfl, ?_⟩
      conv => whnf
      refine h2 (fun t' e' => ?_)
      rw [e] at e'
      injection e' with e'
      injection e' with _ e'
      rw [e'] at er
      have : q = x.length := by
        have := congrArg List.length er
        rw [List.length_drop] at this
        simp at this
        omega
      rw [this, decide_eq_true rfl] at hb
      cases hb
    · conv => whnf
      refine ⟨?_⟩
      conv => whnf
      have : q = x.length := by
        cases hq : decide ((q : Int) = (x.length : Int)) with
        | true => have := of_decide_eq_true hq; omega
        | false => rw [hq] at hb; cases hb
      rw [this, List.drop_length] at er
      subst er
      exact h1 t e
  · rw [List.drop_zero] at e
    conv => whnf
    exact h2 (fun t' e' => by rw [e] at e'; cases e')
end K31

set_option Elab.async false
set_option linter.all false
set_option maxRecDepth 100000
set_option maxHeartbeats 4000000
namespace K31
open EW EW.EN PySem
variable {L n : Nat} {K : T → List T → Prop} {E : Exn → List T → Prop} {x : Tx} {p : Nat} {o : Bool}
theorem isnum_int {i : Int} (h : K (.p (.bl true)) [.hole]) : Wc (Rn L (n + 1) 0 [.p (.int i)]) K E := by
  refine Wc.run rfl rfl ?_
  conv => whnf
  refine ⟨fun _ => ?_, fun h => Bool.noConfusion h⟩
  conv => whnf
  exact h
theorem isnum_str {x : Tx} (h : K (.p (.bl false)) [.hole]) : Wc (Rn L (n + 1) 0 [.p (.str x)]) K E := by
  refine Wc.run rfl rfl ?_
  conv => whnf
  refine ⟨fun h => Bool.noConfusion h, fun _ => ?_⟩
  conv => whnf
  exact h
theorem isnum_tup {xs : List D} (h : K (.p (.bl false)) [.hole]) : Wc (Rn L (n + 1) 0 [.p (.tup xs)]) K E := by
  refine Wc.run rfl rfl ?_
  conv => whnf
  refine ⟨fun h => Bool.noConfusion h, fun _ => ?_⟩
  conv => whnf
  exact h
theorem log_sInt {i : Int} (h : (sInt i).length ≤ 61) : i.natAbs.log2 < 1920 := by
  have h1 : (TL.numL i.natAbs).length ≤ 61 := by
    unfold sInt at h
    split at h
    · simp at h; omega
    · exact h
  have h2 : i.natAbs < 10 ^ 61 := by
    refine Nat.lt_of_not_le fun hm => ?_
    have : ∀ (k m : Nat), 10 ^ k ≤ m → k < (TL.numL m).length := fun k => by
      induction k with
      | zero => intro m _; exact List.length_pos_iff.mpr (TL.numL_ne _)
      | succ k ih =>
        intro m hm
        rw [TL.numL_step (by have : 0 < 10 ^ k := Nat.pow_pos (by decide); omega), List.length_append]
        have := ih (m / 10) (by omega)
        simp
        omega
    have := this 61 _ hm
    omega
  by_cases h0 : i.natAbs = 0
  · rw [h0]; decide
  · rw [Nat.log2_lt h0]
    exact Nat.lt_trans h2 (by decide +kernel)
theorem nfmt_int {i : Int} (h : i.natAbs.log2 < 1920) : nbi .fmt [.p (.int i)] = some (.p (.str (sInt i))) := if_pos h
theorem nfmt_str {x : Tx} (h : x.length ≤ sizeLine) : nbi .fmt [.p (.str x)] = some (.p (.str x)) := if_pos h
theorem nfstr3 {a b c : Tx} (h : (a ++ (b ++ c)).length ≤ sizeLine) : nbi .fstr [.p (.str a), .p (.str b), .p (.str c)] = some (.p (.str (a ++ (b ++ c)))) := by
  have e : [a, b, c].flatten = a ++ (b ++ c) := by simp
  show (if ([a, b, c].flatten).length ≤ sizeLine then some (T.p (.str [a, b, c].flatten)) else none) = _
  rw [e]
  exact if_pos h
theorem write_int {i : Int} (h : (sInt i).length ≤ 61) (hk : K (.p (.str (sInt i))) [.hole]) : Wc (Rn L (n + 2) 1 [.p (.int i)]) K E := by
  refine Wc.run rfl rfl ?_
  conv => whnf
  refine ⟨rfl, isnum_int (L := L) (n := n) ?_⟩
  conv => whnf
  refine ⟨fun _ => ?_, fun h => Bool.noConfusion h⟩
  conv => whnf
  refine optP_at (nstr_int (log_sInt h)) ?_
  conv => whnf
  exact hk
theorem write_str {y : Tx} (h : y.length ≤ 99) (hk : K (.p (.str (W (.str y)))) [.hole]) : Wc (Rn L (n + 2) 1 [.p (.str y)]) K E := by
  have hl : y.length ≤ sizeLine := Nat.le_trans h (by decide)
  refine Wc.run rfl rfl ?_
  conv => whnf
  refine ⟨rfl, isnum_str (L := L) (n := n) ?_⟩
  conv => whnf
  refine ⟨fun h => Bool.noConfusion h, fun _ => ?_⟩
  conv => whnf
  refine ⟨?_⟩
  conv => whnf
  refine ⟨fun _ => ?_, fun h => Bool.noConfusion h⟩
  conv => whnf
  refine optP_at (nlen_str hl) ?_
  conv => whnf
  have hn : ((y.length : Nat) : Int).natAbs.log2 < 1920 := log_sInt (by rw [sInt_nat]; exact Nat.le_trans (TL.numL_len (k := 3) (by decide) (by omega)) (by decide))
  refine optP_at (nfmt_int hn) ?_
  rw [sInt_nat]
  conv => whnf
  refine optP_at (nfmt_str hl) ?_
  conv => whnf
  have hl2 : (TL.numL y.length ++ ([58] ++ y)).length ≤ sizeLine := by
    have : (TL.numL y.length).length ≤ 3 := TL.numL_len (by decide) (by omega)
    simp only [List.length_append, List.length_cons, List.length_nil]
    exact Nat.le_trans (show _ ≤ 103 by omega) (by decide)
  refine optP_at (nfstr3 hl2) ?_
  rw [W] at hk
  exact hk
end K31

set_option Elab.async false
set_option linter.all false
set_option maxRecDepth 100000
set_option maxHeartbeats 4000000
namespace K31
open EW EW.EN PySem
variable {L n : Nat} {K : T → List T → Prop} {E : Exn → List T → Prop} {x : Tx} {p : Nat} {o : Bool}
def wG : T → Option T
  | .p t => some (.p (.str (W t)))
  | _ => none
theorem wG_all : ∀ xs : List D, (xs.map T.p).filterMap wG = (Ws xs).map (fun y => T.p (.str y))
  | [] => by rw [Ws]; rfl
  | x :: xs => by
    rw [Ws, List.map_cons, List.filterMap_cons, List.map_cons]
    show T.p (.str (W x)) :: _ = _
    rw [wG_all xs]
theorem gds_mem : ∀ {k : Nat} {xs : List D} {x : D}, gds k xs = true → x ∈ xs → gd k x = true
  | k, y :: xs, x, h, hm => by
    rw [gds, Bool.and_eq_true] at h
    rcases List.mem_cons.mp hm with rfl | hm
    · exact h.1
    · exact gds_mem h.2 hm
theorem Ws_len : ∀ xs : List D, (Ws xs).length = xs.length
  | [] => by rw [Ws]; rfl
  | x :: xs => by rw [Ws, List.length_cons, Ws_len xs]; rfl
theorem Ws_mem : ∀ {xs : List D} {x : D}, x ∈ xs → W x ∈ Ws xs
  | y :: xs, x, hm => by
    rw [Ws]
    rcases List.mem_cons.mp hm with rfl | hm
    · exact .head _
    · exact .tail _ (Ws_mem hm)
theorem joinL_len : ∀ ys : List Tx, (ys.map (·.length)).sum + ys.length ≤ (TL.joinL [44] ys).length + 1
  | [] => by simp
  | [y] => by simp [TL.joinL]
  | y :: z :: ys => by
    have := joinL_len (z :: ys)
    show y.length + ((z :: ys).map (·.length)).sum + ((z :: ys).length + 1) ≤ (y ++ ([44] ++ TL.joinL [44] (z :: ys))).length + 1
    rw [List.length_append, List.length_append, List.length_cons (a := 44)]
    simp only [List.length_nil]
    omega
theorem mem_len {ys : List Tx} {y : Tx} (h : y ∈ ys) : y.length ≤ (ys.map (·.length)).sum := by
  induction ys with
  | nil => cases h
  | cons z ys ih =>
    rw [List.map_cons, List.sum_cons]
    rcases List.mem_cons.mp h with rfl | h
    · omega
    · have := ih h; omega
theorem omap_txt : ∀ ys : List Tx, omap txtOf (ys.map D.str) = some ys
  | [] => rfl
  | y :: ys => by
    show omap txtOf (D.str y :: ys.map D.str) = _
    unfold omap
    rw [omap_txt ys]
    rfl
theorem njoin {a : Tx} {o : Bool} {ys : List Tx} (h : (ys.map (·.length)).sum + ys.length * a.length ≤ 16777216) : nbm .join (.p (.str a)) [.lp o (ys.map .str)] = some (.p (.str (TL.joinL a ys)), .p (.str a)) := by
  show (match omap txtOf (ys.map D.str) with
    | some ys => if (ys.map (fun z : Tx => z.length)).sum + ys.length * a.length ≤ 16777216 then some (T.p (.str (TL.joinL a ys)), T.p (.str a)) else none
    | none => none) = _
  rw [omap_txt]
  exact if_pos h
theorem njoinM {a : Tx} {ys : List Tx} (h : (ys.map (·.length)).sum + ys.length * a.length ≤ 16777216) : nbm .join (.p (.str a)) [mkLst ([] ++ ys.map (fun y => T.p (.str y)))] = some (.p (.str (TL.joinL a ys)), .p (.str a)) := by
  rw [List.nil_append, show ys.map (fun y => T.p (.str y)) = (ys.map D.str).map T.p by rw [List.map_map]; rfl, mkLst_map]
  exact njoin h
theorem write_tup {k : Nat} {xs : List D} (IH : ∀ t, t ∈ xs → ∀ (K : T → List T → Prop) (E : Exn → List T → Prop), K (.p (.str (W t))) [.hole] → Wc (Rn L (n + k + 2) 1 [.p t]) K E) (hl : (W (.tup xs)).length ≤ 100000) (hk : K (.p (.str (W (.tup xs)))) [.hole]) : Wc (Rn L (n + k + 3) 1 [.p (.tup xs)]) K E := by
  refine Wc.run rfl rfl ?_
  conv => whnf
  refine ⟨rfl, isnum_tup (L := L) (n := n + k + 1) ?_⟩
  conv => whnf
  refine ⟨fun h => Bool.noConfusion h, fun _ => ?_⟩
  conv => whnf
  refine ⟨?_⟩
  conv => whnf
  refine ⟨fun h => Bool.noConfusion h, fun _ => ?_⟩
  conv => whnf
  refine ⟨?_⟩
  conv => whnf
  refine ⟨rfl, ?_⟩
  conv => whnf
  refine ⟨rfl, ?_⟩
  conv => whnf
  refine LcN_env (ρ' := [.val (.p (.tup xs)), .non]) rfl ?_
  refine LcN.map wG ?_ ?_
  · intro y hy
    obtain ⟨t, ht, rfl⟩ := mem_map_p hy
    conv => whnf
    refine ⟨fun _ => ?_, fun h => Bool.noConfusion h⟩
    conv => whnf
    refine ⟨rfl, IH t ht _ _ ?_⟩
    conv => whnf
    exact ⟨rfl, rfl⟩
  · intro ρ' hρ'
    rw [wG_all]
    have hj : (TL.joinL [44] (Ws xs)).length + 2 ≤ 100000 := by
      rw [W] at hl
      simp only [List.length_cons, List.length_append, List.length_nil] at hl
      omega
    have hs := joinL_len (Ws xs)
    conv => whnf
    refine optP_at (njoinM (by show _ + _ * 1 ≤ _; omega)) ?_
    conv => whnf
    refine ⟨by show 1 + _ ≤ sizeLine; exact Nat.le_trans (show _ ≤ 100000 by omega) (by decide), ?_⟩
    conv => whnf
    refine ⟨?_, ?_⟩
    · show (40 :: TL.joinL [44] (Ws xs)).length + 1 ≤ sizeLine
      rw [List.length_cons]
      exact Nat.le_trans (show _ ≤ 100000 by omega) (by decide)
    · rw [W] at hk
      exact hk
theorem part_len {xs : List D} {t : D} (h : t ∈ xs) : (W t).length ≤ (W (.tup xs)).length := by
  have h1 := mem_len (Ws_mem h)
  have h2 := joinL_len (Ws xs)
  have h3 : 0 < (Ws xs).length := List.length_pos_of_mem (Ws_mem h)
  rw [W.eq_def (.tup xs)]
  simp only [List.length_cons, List.length_append, List.length_nil]
  omega
/-- write -/
theorem write_c (L n : Nat) : ∀ (k : Nat) (t : D), gd k t = true → (W t).length ≤ 100000 → ∀ (K : T → List T → Prop) (E : Exn → List T → Prop), K (.p (.str (W t))) [.hole] → Wc (Rn L (n + k + 2) 1 [.p t]) K E
  | k, .int i, h, hl, K, E, hk => write_int (n := n + k) (by rw [gd] at h; exact of_decide_eq_true h) (by rw [W] at hk; exact hk)
  | k, .str y, h, hl, K, E, hk => write_str (n := n + k) (by rw [gd] at h; exact of_decide_eq_true h) hk
  | k + 1, .tup xs, h, hl, K, E, hk => write_tup (n := n) (k := k) (fun t ht K E hk => write_c L n k t (gds_mem (by rw [gd] at h; exact h) ht) (Nat.le_trans (part_len ht) hl) K E hk) hl hk
  | 0, .tup xs, h, hl, K, E, hk => by simp [gd] at h
  | k, .non, h, _, _, _, _ => by cases k <;> simp [gd] at h
  | k, .bl _, h, _, _, _, _ => by cases k <;> simp [gd] at h
  | k, .ref _, h, _, _, _, _ => by cases k <;> simp [gd] at h
end K31

set_option Elab.async false
set_option linter.all false
set_option maxRecDepth 100000
set_option maxHeartbeats 4000000
namespace K31
open EW EW.EN PySem
variable {L n : Nat} {K : T → List T → Prop} {E : Exn → List T → Prop} {x : Tx} {p : Nat} {o : Bool}
/-- _law_try: the thing read, or an empty list -/
theorem try_c (hL : x.length < L) (ox : okT x) (hx : x.length ≤ 100000) (h1 : ∀ t, pThing 40 x = some (t, []) → K (.lp true [t]) [.hole]) (h2 : (∀ t, pThing 40 x ≠ some (t, [])) → K (.lp true []) [.hole]) : Wc (Rn L (n + 86) 12 [.p (.str x)]) K E := by
  refine Wc.run rfl rfl ?_
  conv => whnf
  refine ⟨rfl, ?_⟩
  conv => whnf
  refine ⟨rfl, read_c (L := L) (n := n) hL ox hx (fun t e => ?_) (fun e => ?_)⟩
  · conv => whnf
    exact h1 t e
  · conv => whnf
    refine ⟨rfl, ?_⟩
    conv => whnf
    refine ⟨fun _ => ?_, fun h => Bool.noConfusion h⟩
    conv => whnf
    exact h2 e
end K31

set_option Elab.async false
set_option linter.all false
set_option maxRecDepth 100000
set_option maxHeartbeats 4000000
namespace K31
open EW EW.EN PySem
variable {L n : Nat} {K : T → List T → Prop} {E : Exn → List T → Prop} {cs : List Int} {i b sd : Int}
def tB : Nat → Nat
  | 0 => 16
  | d + 1 => 4 * (tB d + 1) + 2
theorem tB_le : ∀ d, 16 ≤ tB d
  | 0 => Nat.le_refl _
  | d + 1 => by have := tB_le d; show 16 ≤ 4 * (tB d + 1) + 2; omega
/-- a thing drawn -/
def thT (d : Nat) (t : D) : Prop := gr d t = true ∧ okT (W t) ∧ (W t).length ≤ tB d
theorem thing_int {d : Nat} {v : Int} (h0 : 0 ≤ v) (h1 : v < 300) : thT d (.int (v - 90)) := by
  have key : ∀ m : Nat, m < 300 → ((sInt ((m : Int) - 90)).length ≤ 4 ∧ (TL.numL ((m : Int) - 90).natAbs).length ≤ 60) ∧ (sInt ((m : Int) - 90)).all (fun c => decide (c < 128)) = true := by decide +kernel
  obtain ⟨⟨k1, k3⟩, k2⟩ := key v.toNat (by omega)
  rw [Int.toNat_of_nonneg h0] at k1 k2 k3
  refine ⟨by rw [gr]; exact decide_eq_true k3, ?_, ?_⟩
  · rw [W]
    intro c hc
    exact of_decide_eq_true (List.all_eq_true.mp k2 c hc)
  · rw [W]
    have := tB_le d
    omega
theorem sgn_at {S : Tx} (m : Nat) (hS : S.length = m) (h128 : S.all (fun c => decide (c < 128)) = true) {w : Int} (h0 : 0 ≤ w) (h1 : w < m) : ∃ c, L2.atI S w = some c ∧ c < 128 := by
  have h2 : w.toNat < S.length := by omega
  refine ⟨S[w.toNat], ?_, of_decide_eq_true (List.all_eq_true.mp h128 _ (List.getElem_mem h2))⟩
  have := atI_nat (xs := S) (k := w.toNat) h2
  rw [Int.toNat_of_nonneg h0, Int.zero_add] at this
  exact this
theorem joinL_nil : ∀ ys : Tx, TL.joinL [] (ys.map fun c => [c]) = ys
  | [] => rfl
  | [c] => rfl
  | c :: e :: ys => by
    show [c] ++ ([] ++ TL.joinL [] ((e :: ys).map fun c => [c])) = _
    rw [joinL_nil (e :: ys)]
    rfl
theorem njoin1 {ys : Tx} (h : ys.length ≤ 1000) : nbm .join (.p (.str [])) [mkLst (ys.map fun c => T.p (.str [c]))] = some (.p (.str ys), .p (.str [])) := by
  have := njoinM (a := []) (ys := ys.map fun c => [c]) (by
    rw [List.map_map, show ((fun x : Tx => x.length) ∘ fun c : Nat => [c]) = fun _ => 1 from rfl, List.map_const', List.sum_replicate_nat]
    simp
    omega)
  rw [joinL_nil, List.map_map] at this
  exact this
theorem gds_of {e : Nat} : ∀ {ts : List D}, (∀ t ∈ ts, gr e t = true) → grs e ts = true
  | [], _ => by rw [grs]
  | t :: ts, h => by
    rw [grs, h t (List.mem_cons_self ..), gds_of (ts := ts) fun x hx => h x (List.mem_cons_of_mem _ hx)]; rfl
theorem joinW_ok : ∀ {ts : List D}, (∀ t ∈ ts, okT (W t)) → okT (TL.joinL [44] (Ws ts))
  | [], _ => by rw [Ws]; exact okT0
  | [t], h => by rw [Ws, Ws]; exact h t (List.mem_cons_self ..)
  | t :: u :: ts, h => by
    have ih := joinW_ok (ts := u :: ts) fun x hx => h x (List.mem_cons_of_mem _ hx)
    have h1 := h t (List.mem_cons_self ..)
    rw [Ws]
    rw [Ws] at ih ⊢
    show okT (W t ++ ([44] ++ TL.joinL [44] (W u :: Ws ts)))
    exact h1.app ((okT1 (by decide)).app ih)
theorem joinW_le {b : Nat} : ∀ {ts : List D}, (∀ t ∈ ts, (W t).length ≤ b) → (TL.joinL [44] (Ws ts)).length ≤ ts.length * (b + 1)
  | [], _ => by rw [Ws]; exact Nat.zero_le _
  | [t], h => by
    rw [Ws, Ws]
    have := h t (List.mem_cons_self ..)
    show (W t).length ≤ 1 * (b + 1)
    omega
  | t :: u :: ts, h => by
    have ih := joinW_le (ts := u :: ts) fun x hx => h x (List.mem_cons_of_mem _ hx)
    have h1 := h t (List.mem_cons_self ..)
    rw [Ws]
    rw [Ws] at ih ⊢
    show (W t ++ ([44] ++ TL.joinL [44] (W u :: Ws ts))).length ≤ (ts.length + 1 + 1) * (b + 1)
    rw [List.length_append, List.length_append, Nat.succ_mul]
    have ih : (TL.joinL [44] (W u :: Ws ts)).length ≤ (ts.length + 1) * (b + 1) := ih
    rw [show ([44] : Tx).length = 1 from rfl]
    omega
theorem thT_tup {e : Nat} {ts : List D} (h : ∀ t ∈ ts, thT e t) (hl : ts.length ≤ 4) : thT (e + 1) (.tup ts) := by
  refine ⟨?_, ?_, ?_⟩
  · rw [gr]; exact gds_of fun t ht => (h t ht).1
  · rw [W]
    intro c hc
    rcases List.mem_cons.mp hc with rfl | hc
    · decide
    · exact ((joinW_ok fun t ht => (h t ht).2.1).app (okT1 (by decide))) c hc
  · rw [W]
    have h1 := joinW_le (b := tB e) (ts := ts) fun t ht => (h t ht).2.2
    have h2 : ts.length * (tB e + 1) ≤ 4 * (tB e + 1) := Nat.mul_le_mul_right _ hl
    rw [List.length_cons, List.length_append]
    show _ ≤ 4 * (tB e + 1) + 2
    rw [show ([41] : Tx).length = 1 from rfl]
    omega
def ThC (L d lv : Nat) : Prop := ∀ (cs : List Int) (i b sd : Int) (K : T → List T → Prop) (E : Exn → List T → Prop), PotI i b sd → (∀ t i' b' sd', thT d t → PotI i' b' sd' → K (.p t) [potT cs i' b' sd', .hole]) → Wc (Rn L lv 13 [potT cs i b sd, .p (.int (d : Int))]) K E
theorem thing_w {d lv : Nat} (TH : ∀ e, d = e + 1 → ThC L e (lv + 1)) (p : PotI i b sd)
    (h : ∀ t i' b' sd', thT d t → PotI i' b' sd' → K (.p t) [potT cs i' b' sd', .hole]) : Wc (Rn L (lv + 2) 13 [potT cs i b sd, .p (.int (d : Int))]) K E := by
  refine Wc.run rfl rfl ?_
  conv => whnf
  refine ⟨rfl, nx_call (Q := Qn) (L := L) (n := lv) (f := 11) rfl rfl p (by decide) (by decide) fun v i1 b1 sd1 v0 v1 p1 => ?_⟩
  conv => whnf
  refine ⟨?_⟩
  refine vSs_env (ρ' := [.val (potT cs i1 b1 sd1), .val (.p (.int (d : Int))), .val (.p (.int v)), .non]) rfl ?_
  conv => whnf
  have ret : ∀ (K' : T → List T → Prop) (E' : Exn → List T → Prop), (∀ v i' b' sd' : Int, 0 ≤ v → v < 300 → PotI i' b' sd' → K' (.p (.int v)) [potT cs i' b' sd', .hole]) → Wc (mrun Qn L (lv + 1) 11 [potT cs i1 b1 sd1, .p (.int 300)]) K' E' := fun K' E' q => nx_call (Q := Qn) (L := L) (n := lv) (f := 11) rfl rfl p1 (by decide) (by decide) q
  refine ⟨fun hb => ?_, fun hb => ?_⟩
  · conv => whnf
    refine ⟨fun _ => ?_, fun h => Bool.noConfusion (hb.symm.trans h)⟩
    conv => whnf
    refine ⟨rfl, ret _ _ fun v i2 b2 sd2 v0 v1 p2 => ?_⟩
    conv => whnf
    exact h _ _ _ _ (thing_int v0 v1) p2
  · conv => whnf
    refine ⟨fun hd => ?_, fun hd => ?_⟩
    · conv => whnf
      refine ⟨rfl, ret _ _ fun v i2 b2 sd2 v0 v1 p2 => ?_⟩
      conv => whnf
      exact h _ _ _ _ (thing_int v0 v1) p2
    · conv => whnf
      refine ⟨?_⟩
      conv => whnf
      refine ⟨fun hk => ?_, fun hk => ?_⟩
      · conv => whnf
        refine ⟨rfl, ?_⟩
        conv => whnf
        refine ⟨rfl, nx_call (Q := Qn) (L := L) (n := lv) (f := 11) rfl rfl p1 (by decide) (by decide) fun v2 i2 b2 sd2 v0 v1 p2 => ?_⟩
        conv => whnf
        refine ⟨rfl, optP_at (nIt_r1 ⟨by omega, Int.le_trans (show v2 ≤ 13 by omega) (by decide)⟩) ?_⟩
        refine LcN_env (ρ' := [.val (potT cs i2 b2 sd2), .val (.p (.int (d : Int))), .val (.p (.int v)), .non]) rfl ?_
        refine LcN.inv (fun pre acc ρ => ∃ (ys : Tx) (i' b' sd' : Int), ys.length = pre.length ∧ okT ys ∧ acc = ys.map (fun c => T.p (.str [c])) ∧ PotI i' b' sd' ∧ wipeN ρ [3] = [.val (potT cs i' b' sd'), .val (.p (.int (d : Int))), .val (.p (.int v)), .non]) ⟨[], i2, b2, sd2, rfl, okT0, rfl, p2, rfl⟩ ?_ ?_
        · rintro pre x post acc ρ e ⟨ys, i3, b3, sd3, hl, oy, rfl, p3, hρ⟩
          rw [hρ]
          conv => whnf
          refine ⟨fun _ => ?_, fun h => Bool.noConfusion h⟩
          conv => whnf
          refine ⟨rfl, nx_call (Q := Qn) (L := L) (n := lv) (f := 11) rfl rfl p3 (by decide) (by decide) fun w i4 b4 sd4 w0 w1 p4 => ?_⟩
          conv => whnf
          obtain ⟨c, hc, h128⟩ := sgn_at (S := [48, 49, 50, 51, 58, 44, 40, 41, 45, 97, 32]) 11 rfl (by decide) w0 w1
          refine optP_at (nix_str (c := c) (by decide) hc) ?_
          conv => whnf
          exact ⟨ys ++ [c], i4, b4, sd4, by simp [hl], oy.app (okT1 h128), by rw [List.map_append]; rfl, p4, rfl⟩
        · rintro acc ρ ⟨ys, i3, b3, sd3, hl, oy, rfl, p3, hρ⟩
          conv => whnf
          have hy : ys.length ≤ 13 := by rw [hl, List.length_map, List.length_range]; omega
          refine optP_at (njoin1 (by omega)) ?_
          rw [hρ]
          conv => whnf
          refine h _ _ _ _ ⟨by rw [gr]; exact decide_eq_true (by omega), ?_, ?_⟩ p3
          · rw [W]
            refine okT.app (fun c hc => ?_) (fun c hc => ?_)
            · have := TL.numL_digits _ c hc; omega
            · rcases List.mem_cons.mp hc with rfl | hc
              · decide
              · exact oy c hc
          · rw [W]
            have h1 : (TL.numL ys.length).length ≤ 2 := TL.numL_len (by decide) (by omega)
            have h2 := tB_le d
            simp only [List.length_append, List.length_cons]
            omega
      · obtain ⟨e, rfl⟩ : ∃ e, d = e + 1 := ⟨d - 1, by have := of_decide_eq_false hd; omega⟩
        have TC := TH e rfl
        conv => whnf
        refine ⟨?_⟩
        conv => whnf
        refine ⟨rfl, nx_call (Q := Qn) (L := L) (n := lv) (f := 11) rfl rfl p1 (by decide) (by decide) fun v2 i2 b2 sd2 v0 v1 p2 => ?_⟩
        conv => whnf
        refine ⟨rfl, optP_at (nIt_r1 ⟨by omega, Int.le_trans (show v2 ≤ 13 by omega) (by decide)⟩) ?_⟩
        refine LcN_env (ρ' := [.val (potT cs i2 b2 sd2), .val (.p (.int ((e + 1 : Nat) : Int))), .val (.p (.int v)), .non]) rfl ?_
        refine LcN.inv (fun pre acc ρ => ∃ (ts : List D) (i' b' sd' : Int), ts.length = pre.length ∧ (∀ t ∈ ts, thT e t) ∧ acc = ts.map T.p ∧ PotI i' b' sd' ∧ wipeN ρ [3] = [.val (potT cs i' b' sd'), .val (.p (.int ((e + 1 : Nat) : Int))), .val (.p (.int v)), .non]) ⟨[], i2, b2, sd2, rfl, (fun _ h => by cases h), rfl, p2, rfl⟩ ?_ ?_
        · rintro pre x post acc ρ e1 ⟨ts, i3, b3, sd3, hl, ht, rfl, p3, hρ⟩
          rw [hρ]
          conv => whnf
          refine ⟨fun _ => ?_, fun h => Bool.noConfusion h⟩
          conv => whnf
          refine ⟨rfl, ?_⟩
          rw [show ((e + 1 : Nat) : Int) - 1 = (e : Int) by omega]
          refine TC cs _ _ _ _ _ p3 fun t i4 b4 sd4 ht4 p4 => ?_
          conv => whnf
          exact ⟨ts ++ [t], i4, b4, sd4, by simp [hl], (fun z hz => (List.mem_append.mp hz).elim (ht z) (fun q => by rw [List.mem_singleton.mp q]; exact ht4)), by rw [List.map_append]; rfl, p4, rfl⟩
        · rintro acc ρ ⟨ts, i3, b3, sd3, hl, ht, rfl, p3, hρ⟩
          conv => whnf
          refine optP_at (show nbi .tup [mkLst (ts.map T.p)] = some (.p (.tup ts)) by rw [mkLst_map]; rfl) ?_
          rw [hρ]
          exact h _ _ _ _ (thT_tup ht (by rw [hl, List.length_map, List.length_range]; omega)) p3
theorem thing_d {n : Nat} : ∀ d, ThC L d (n + d + 2)
  | 0 => fun cs i b sd K E p h => thing_w (lv := n) (fun e he => absurd he (by omega)) p h
  | d + 1 => fun cs i b sd K E p h => by
    have := thing_w (L := L) (cs := cs) (lv := n + d + 1) (d := d + 1) (K := K) (E := E) (fun e he => by
      obtain rfl : d = e := by omega
      exact thing_d d) p h
    exact this
end K31

set_option Elab.async false
set_option linter.all false
set_option maxRecDepth 100000
set_option maxHeartbeats 4000000
namespace K31
open EW EW.EN PySem
variable {L n : Nat} {K : T → List T → Prop} {E : Exn → List T → Prop} {cs : List Int} {i b sd : Int} {x : Tx}
theorem cut_from' {α : Type} {x : List α} {k : Nat} : cutL x (some (k : Int)) none = x.drop k := by
  by_cases h : k ≤ x.length
  · exact cut_from h
  · unfold cutL
    rw [HT.sIx_nat, HT.sIx_none, Nat.min_eq_right (by omega), List.drop_eq_nil_of_le (Nat.le_refl _), List.drop_eq_nil_of_le (by omega), List.take_nil]
theorem sl_to {x : Tx} {a : Nat} (h : x.length ≤ sizeLine) : nsl (.p (.str x)) none (some (a : Int)) = some (.p (.str (x.take a))) := by
  rw [nsl_str h, cut_to]
theorem sl_from {x : Tx} {j : Int} {a : Nat} (h : x.length ≤ sizeLine) (e : j = (a : Int)) : nsl (.p (.str x)) (some j) none = some (.p (.str (x.drop a))) := by
  rw [e, nsl_str h, cut_from']
theorem sl_mid {x : Tx} {j k : Int} {a b : Nat} (h : x.length ≤ sizeLine) (ha : a ≤ x.length) (e : j = (a : Int)) (e2 : k = (b : Int)) : nsl (.p (.str x)) (some j) (some k) = some (.p (.str ((x.drop a).take (b - a)))) := by
  rw [e, e2, nsl_str h, cut_mid ha]
/-- a text with a place changed -/
theorem changed_c (ox : okT x) (hx : x.length ≤ 90000) (p : PotI i b sd)
    (h : ∀ y i' b' sd', okT y → y.length ≤ x.length + 1 → PotI i' b' sd' → K (.p (.str y)) [potT cs i' b' sd', .hole]) : Wc (Rn L (n + 2) 14 [potT cs i b sd, .p (.str x)]) K E := by
  refine Wc.run rfl rfl ?_
  conv => whnf
  refine optP_at (eq_str ox okT0) ?_
  conv => whnf
  refine ⟨fun hb => ?_, fun hb => ?_⟩
  · conv => whnf
    exact h _ _ _ _ (okT1 (by decide)) (by simp) p
  · have hne : x ≠ [] := of_decide_eq_false hb
    have hpos : 0 < x.length := List.length_pos_iff.mpr hne
    have hz : x.length ≤ sizeLine := Nat.le_trans hx (by decide)
    conv => whnf
    refine ⟨?_⟩
    conv => whnf
    refine optP_at (nlen_str hz) ?_
    conv => whnf
    refine ⟨rfl, nx_call (Q := Qn) (L := L) (n := n) (f := 11) rfl rfl p (by omega) (by omega) fun v i1 b1 sd1 v0 v1 p1 => ?_⟩
    obtain ⟨a, rfl⟩ : ∃ a : Nat, v = (a : Int) := ⟨v.toNat, by omega⟩
    have ha : a < x.length := by omega
    conv => whnf
    refine ⟨?_⟩
    refine vSs_env (ρ' := [.val (potT cs i1 b1 sd1), .val (.p (.str x)), .val (.p (.int (a : Int))), .non]) rfl ?_
    conv => whnf
    refine ⟨rfl, nx_call (Q := Qn) (L := L) (n := n) (f := 11) rfl rfl p1 (by decide) (by decide) fun k i2 b2 sd2 k0 k1 p2 => ?_⟩
    conv => whnf
    refine ⟨?_⟩
    refine vSs_env (ρ' := [.val (potT cs i2 b2 sd2), .val (.p (.str x)), .val (.p (.int (a : Int))), .val (.p (.int k))]) rfl ?_
    have ixa : nix (.p (.str x)) (.p (.int (a : Int))) = some (.p (.str [x[a]])) := nix_str hz (by have := atI_nat (xs := x) (k := a) ha; rw [Int.zero_add] at this; exact this)
    have c1 : x[a] < 128 := ox _ (List.getElem_mem ha)
    conv => whnf
    have t1 : (x.take a).length = a := by rw [List.length_take]; omega
    have d1 : (x.drop (a + 1)).length = x.length - (a + 1) := List.length_drop
    have d2 : (x.drop (a + 2)).length = x.length - (a + 2) := List.length_drop
    have d0 : (x.drop a).length = x.length - a := List.length_drop
    have m1 : ((x.drop (a + 1)).take (a + 2 - (a + 1))).length ≤ 1 := by rw [List.length_take]; omega
    have small : ∀ m : Nat, m ≤ 90001 → m ≤ sizeLine := fun m hm => Nat.le_trans hm (by decide)
    have oA := ox.take a
    have oB := ox.drop (a + 1)
    have oC := ox.drop a
    have oD := ox.drop (a + 2)
    have oM := oB.take (a + 2 - (a + 1))
    refine ⟨fun hk => ?_, fun hk => ?_⟩
    · conv => whnf
      refine optP_at (sl_to hz) ?_
      conv => whnf
      exact h _ _ _ _ oA (by omega) p2
    · conv => whnf
      refine ⟨?_⟩
      conv => whnf
      refine ⟨fun hk => ?_, fun hk => ?_⟩
      · conv => whnf
        refine optP_at (sl_to hz) ?_
        conv => whnf
        refine optP_at (sl_from (a := a + 1) hz (by omega)) ?_
        conv => whnf
        refine ⟨small _ (by omega), ?_⟩
        conv => whnf
        exact h _ _ _ _ (oA.app oB) (by rw [List.length_append]; omega) p2
      · conv => whnf
        refine ⟨?_⟩
        conv => whnf
        refine ⟨fun hk => ?_, fun hk => ?_⟩
        · conv => whnf
          refine optP_at (sl_to hz) ?_
          conv => whnf
          refine optP_at ixa ?_
          conv => whnf
          refine ⟨small _ (by rw [t1]; simp; omega), ?_⟩
          conv => whnf
          refine optP_at (sl_from (a := a) hz rfl) ?_
          conv => whnf
          refine ⟨small _ (by rw [List.length_append]; simp; omega), ?_⟩
          conv => whnf
          exact h _ _ _ _ ((oA.app (okT1 c1)).app oC) (by rw [List.length_append, List.length_append]; simp; omega) p2
        · conv => whnf
          refine ⟨?_⟩
          conv => whnf
          refine ⟨fun hk => ?_, fun hk => ?_⟩
          · conv => whnf
            refine optP_at (sl_to hz) ?_
            conv => whnf
            refine optP_at (sl_mid (a := a + 1) (b := a + 2) hz (by omega) (by omega) (by omega)) ?_
            conv => whnf
            refine ⟨small _ (by omega), ?_⟩
            conv => whnf
            refine optP_at ixa ?_
            conv => whnf
            refine ⟨small _ (by rw [List.length_append]; simp; omega), ?_⟩
            conv => whnf
            refine optP_at (sl_from (a := a + 2) hz (by omega)) ?_
            conv => whnf
            refine ⟨small _ (by rw [List.length_append, List.length_append]; simp; omega), ?_⟩
            conv => whnf
            exact h _ _ _ _ (((oA.app oM).app (okT1 c1)).app oD) (by rw [List.length_append, List.length_append, List.length_append]; simp; omega) p2
          · conv => whnf
            refine ⟨?_⟩
            conv => whnf
            refine optP_at (sl_to hz) ?_
            conv => whnf
            refine ⟨rfl, nx_call (Q := Qn) (L := L) (n := n) (f := 11) rfl rfl p2 (by decide) (by decide) fun w i3 b3 sd3 w0 w1 p3 => ?_⟩
            conv => whnf
            obtain ⟨c, hc, h128⟩ := sgn_at (S := [48, 49, 50, 51, 58, 44, 40, 41, 45, 97, 32]) 11 rfl (by decide) w0 w1
            refine optP_at (nix_str (c := c) (by decide) hc) ?_
            conv => whnf
            refine ⟨small _ (by rw [t1]; simp; omega), ?_⟩
            conv => whnf
            refine optP_at (sl_from (a := a + 1) hz (by omega)) ?_
            conv => whnf
            refine ⟨small _ (by rw [List.length_append]; simp; omega), ?_⟩
            conv => whnf
            exact h _ _ _ _ ((oA.app (okT1 h128)).app oB) (by rw [List.length_append, List.length_append]; simp; omega) p3
end K31

set_option Elab.async false
set_option linter.all false
set_option maxRecDepth 100000
set_option maxHeartbeats 4000000
namespace K31
open EW EW.EN PySem
variable {L n : Nat} {K : T → List T → Prop} {E : Exn → List T → Prop} {xs : List Int}
theorem thingC {cs : List Int} {i b sd : Int} (p : PotI i b sd) (h : ∀ t i' b' sd', thT 4 t → PotI i' b' sd' → K (.p t) [potT cs i' b' sd', .hole]) : Wc (Rn L (n + 99) 13 [potT cs i b sd, .p (.int 4)]) K E :=
  thing_d (L := L) (n := n + 93) 4 cs i b sd K E p h
theorem writeC {t : D} (h1 : gd 40 t = true) (h2 : (W t).length ≤ 100000) (h : K (.p (.str (W t))) [.hole]) : Wc (Rn L (n + 99) 1 [.p t]) K E :=
  write_c L (n + 57) 40 t h1 h2 K E h
theorem tryC {x : Tx} (hL : x.length < L) (ox : okT x) (hx : x.length ≤ 100000) (h1 : ∀ t, pThing 40 x = some (t, []) → K (.lp true [t]) [.hole]) (h2 : (∀ t, pThing 40 x ≠ some (t, [])) → K (.lp true []) [.hole]) : Wc (Rn L (n + 99) 12 [.p (.str x)]) K E :=
  try_c (L := L) (n := n + 13) hL ox hx h1 h2
theorem changedC {cs : List Int} {i b sd : Int} {x : Tx} (ox : okT x) (hx : x.length ≤ 90000) (p : PotI i b sd)
    (h : ∀ y i' b' sd', okT y → y.length ≤ x.length + 1 → PotI i' b' sd' → K (.p (.str y)) [potT cs i' b' sd', .hole]) : Wc (Rn L (n + 99) 14 [potT cs i b sd, .p (.str x)]) K E :=
  changed_c (L := L) (n := n + 97) ox hx p h
theorem eqv_self {xs : List D} (h : qds xs = true) : (PyData.list (pdOfs xs)).eqv (PyData.list (pdOfs xs)) = true := by
  show PyData.eqvAll (pdOfs xs) (pdOfs xs) = true
  rw [eqvs_of xs xs h h, D.beqs_self]
theorem eq_lp {o o' : Bool} {xs : List D} (h : qds xs = true) (d : deps xs ≤ 63) : ncmp .eq (.lp o xs) (.lp o' xs) = some true := (neq_lp h h d d).trans (congrArg some (decide_eq_true rfl))
theorem law_n (hL : 100000 < L) (h : ∀ o, K (.p (.bl true)) o) : Wc (Rn L (n + 100) 15 [.rol (xs.map .int)]) K E := by
  refine Wc.run rfl rfl ?_
  conv => whnf
  refine ⟨rfl, po_call (Q := Qn) (L := L) (n := n + 98) (f := 10) rfl rfl fun sd p0 => ?_⟩
  conv => whnf
  refine ⟨?_⟩
  conv => whnf
  refine ⟨rfl, ?_⟩
  refine thingC (L := L) (n := n) p0 fun t i1 b1 sd1 ht p1 => ?_
  have hg : gr 40 t = true := gr_mono 4 t 40 ht.1 (by decide)
  have hW : (W t).length ≤ 4606 := ht.2.2
  have oW : okT (W t) := ht.2.1
  have small : ∀ m : Nat, m ≤ 90001 → m ≤ sizeLine := fun m hm => Nat.le_trans hm (by decide)
  conv => whnf
  refine ⟨rfl, writeC (L := L) (n := n) (gr_gd _ _ hg) (by omega) ?_⟩
  conv => whnf
  refine ⟨?_⟩
  refine vSs_env (ρ' := [.val (.rol (xs.map .int)), .val (potT xs i1 b1 sd1), .val (.p (.str (W t))), .non, .non, .non, .non, .non, .non, .non, .non]) rfl ?_
  conv => whnf
  refine ⟨rfl, ?_⟩
  conv => whnf
  refine ⟨rfl, nx_call (Q := Qn) (L := L) (n := n + 98) (f := 11) rfl rfl p1 (by decide) (by decide) fun v2 i2 b2 sd2 v0 v1 p2 => ?_⟩
  conv => whnf
  refine ⟨rfl, optP_at (nIt_r1 ⟨by omega, Int.le_trans (show v2 ≤ 13 by omega) (by decide)⟩) ?_⟩
  refine LcN_env (ρ' := [.val (.rol (xs.map .int)), .val (potT xs i2 b2 sd2), .val (.p (.str (W t))), .non, .non, .non, .non, .non, .non, .non, .non]) rfl ?_
  refine LcN.inv (fun pre acc ρ => ∃ (ys : Tx) (i' b' sd' : Int), ys.length = pre.length ∧ okT ys ∧ acc = ys.map (fun c => T.p (.str [c])) ∧ PotI i' b' sd' ∧ wipeN ρ [10] = [.val (.rol (xs.map .int)), .val (potT xs i' b' sd'), .val (.p (.str (W t))), .non, .non, .non, .non, .non, .non, .non, .non]) ⟨[], i2, b2, sd2, rfl, okT0, rfl, p2, rfl⟩ ?_ ?_
  · rintro pre x post acc ρ e ⟨ys, i3, b3, sd3, hl, oy, rfl, p3, hρ⟩
    rw [hρ]
    conv => whnf
    refine ⟨fun _ => ?_, fun h => Bool.noConfusion h⟩
    conv => whnf
    refine ⟨rfl, nx_call (Q := Qn) (L := L) (n := n + 98) (f := 11) rfl rfl p3 (by decide) (by decide) fun w i4 b4 sd4 w0 w1 p4 => ?_⟩
    conv => whnf
    obtain ⟨c, hc, h128⟩ := sgn_at (S := [48, 49, 58, 44, 40, 41, 45, 57]) 8 rfl (by decide) w0 w1
    refine optP_at (nix_str (c := c) (by decide) hc) ?_
    conv => whnf
    exact ⟨ys ++ [c], i4, b4, sd4, by simp [hl], oy.app (okT1 h128), by rw [List.map_append]; rfl, p4, rfl⟩
  · rintro acc ρ ⟨ys, i3, b3, sd3, hl, oy, rfl, p3, hρ⟩
    have hy : ys.length ≤ 13 := by rw [hl, List.length_map, List.length_range]; omega
    conv => whnf
    refine optP_at (njoin1 (by omega)) ?_
    rw [hρ]
    conv => whnf
    refine ⟨?_⟩
    refine vSs_env (ρ' := [.val (.rol (xs.map .int)), .val (potT xs i3 b3 sd3), .val (.p (.str (W t))), .val (.p (.str ys)), .non, .non, .non, .non, .non, .non, .non]) rfl ?_
    conv => whnf
    refine ⟨rfl, changedC (L := L) (n := n) oW (by omega) p3 fun y1 i4 b4 sd4 o1 l1 p4 => ?_⟩
    conv => whnf
    refine ⟨small _ (show (W t).length + 1 ≤ 90001 by omega), ?_⟩
    conv => whnf
    refine ⟨rfl, changedC (L := L) (n := n) (x := W t ++ [48]) (oW.app (okT1 (by decide))) (by rw [List.length_append]; simp; omega) p4 fun y2 i5 b5 sd5 o2 l2 p5 => ?_⟩
    rw [List.length_append] at l2
    have l2 : y2.length ≤ 4608 := by simp at l2; omega
    conv => whnf
    refine ⟨rfl, changedC (L := L) (n := n) (x := y2) o2 (by omega) p5 fun y3 i6 b6 sd6 o3 l3 p6 => ?_⟩
    conv => whnf
    refine ⟨small _ (by omega), ?_⟩
    conv => whnf
    refine ForN_env (ρ' := [.val (.rol (xs.map .int)), .val (potT xs i6 b6 sd6), .val (.p (.str (W t))), .val (.p (.str ys)), .non, .non, .non, .non, .non, .non, .non]) rfl ?_
    refine ForN.inv (fun pre ρ => ∃ z4 z9 : Sl, (z4 = .non ∨ ∃ d, z4 = .val (.p d)) ∧ ρ = [.val (.rol (xs.map .int)), .val (potT xs i6 b6 sd6), .val (.p (.str (W t))), .val (.p (.str ys)), z4, .non, .non, .non, .non, z9, .non]) ⟨.non, .non, .inl rfl, rfl⟩ ?_ ?_
    · rintro pre x post ρ e ⟨z4, z9, hz4, rfl⟩
      obtain ⟨y, ⟨oy', ly⟩, rfl⟩ : ∃ y : Tx, (okT y ∧ y.length ≤ 90000) ∧ T.p (.str y) = x := by
        have hx := pre_mem e
        simp only [List.map_cons, List.map_nil, List.mem_cons, List.not_mem_nil, or_false] at hx
        rcases hx with rfl | rfl | rfl | rfl
        · exact ⟨_, ⟨o1, by omega⟩, rfl⟩
        · exact ⟨_, ⟨oy, by omega⟩, rfl⟩
        · exact ⟨_, ⟨o3, by omega⟩, rfl⟩
        · exact ⟨_, ⟨oy.app oW, by rw [List.length_append]; omega⟩, rfl⟩
      conv => whnf
      refine ⟨rfl, tryC (L := L) (n := n) (by omega) oy' (by omega) (fun u hu => ?_) (fun hu => ?_)⟩
      · obtain ⟨e1, g1⟩ := pThing_ok 40 y u [] hu
        rw [List.append_nil] at e1
        conv => whnf
        refine ⟨?_⟩
        refine vSs_env (ρ' := [.val (.rol (xs.map .int)), .val (potT xs i6 b6 sd6), .val (.p (.str (W t))), .val (.p (.str ys)), .val (.p (.str y)), .non, .non, .non, .non, .val (.lp true [u]), .non]) rfl ?_
        conv => whnf
        refine ⟨fun h => Bool.noConfusion h, fun _ => ?_⟩
        conv => whnf
        refine ⟨fun _ => ?_, fun h => Bool.noConfusion h⟩
        conv => whnf
        refine ⟨rfl, writeC (L := L) (n := n) g1 (by rw [← e1]; omega) ?_⟩
        conv => whnf
        refine optP_at (ne_str (show okT (W u) by rw [← e1]; exact oy') oy') ?_
        rw [decide_eq_true e1.symm]
        conv => whnf
        refine ⟨fun h => Bool.noConfusion h, fun _ => ?_⟩
        conv => whnf
        refine ⟨?_⟩
        exact ⟨_, _, .inr ⟨_, rfl⟩, rfl⟩
      · conv => whnf
        refine ⟨?_⟩
        refine vSs_env (ρ' := [.val (.rol (xs.map .int)), .val (potT xs i6 b6 sd6), .val (.p (.str (W t))), .val (.p (.str ys)), .val (.p (.str y)), .non, .non, .non, .non, .val (.lp true []), .non]) rfl ?_
        conv => whnf
        refine ⟨fun h => Bool.noConfusion h, fun _ => ?_⟩
        conv => whnf
        refine ⟨fun h => absurd h (by decide), fun hz => ?_⟩
        conv => whnf
        refine ⟨fun h => Bool.noConfusion (hz.symm.trans h), fun _ => ?_⟩
        conv => whnf
        refine ⟨?_⟩
        exact ⟨_, _, .inr ⟨_, rfl⟩, rfl⟩
    · rintro ρ ⟨z4, z9, hz4, rfl⟩
      conv => whnf
      refine ⟨?_⟩
      conv => whnf
      refine ⟨rfl, nx_call (Q := Qn) (L := L) (n := n + 98) (f := 11) rfl rfl p6 (by decide) (by decide) fun d i7 b7 sd7 d0 d1 p7 => ?_⟩
      obtain ⟨d, rfl⟩ : ∃ m : Nat, d = (m : Int) := ⟨d.toNat, by omega⟩
      have hd : d < 9 := by omega
      obtain ⟨r1, r2, r3, r4, r5⟩ := dgs_rd d hd
      conv => whnf
      refine optP_at (nstr_int (i := 1 + (d : Int)) ?_) ?_
      · have : (1 + (d : Int)).natAbs < 2 ^ 1920 := Nat.lt_of_lt_of_le (show _ < 16 by omega) (by decide)
        exact (Nat.log2_lt (by omega)).mpr this
      rw [r5]
      have sl : ∀ m : Nat, m ≤ 1000 → m ≤ sizeLine := fun m hm => Nat.le_trans hm (by decide)
      conv => whnf
      refine ⟨⟨by decide, by decide, sl _ (by simp)⟩, ?_⟩
      conv => whnf
      refine ⟨?_⟩
      refine vSs_env (ρ' := [.val (.rol (xs.map .int)), .val (potT xs i7 b7 sd7), .val (.p (.str (W t))), .val (.p (.str ys)), z4, .val (.p (.str (dgs 61 d))), .non, .non, .non, z9, .non]) rfl ?_
      conv => whnf
      refine ⟨⟨by decide, by decide, sl _ (by decide)⟩, ?_⟩
      conv => whnf
      refine ⟨⟨by decide, by decide, sl _ (by decide)⟩, ?_⟩
      conv => whnf
      refine ⟨sl _ (by decide), ?_⟩
      conv => whnf
      refine ⟨?_⟩
      refine vSs_env (ρ' := [.val (.rol (xs.map .int)), .val (potT xs i7 b7 sd7), .val (.p (.str (W t))), .val (.p (.str ys)), z4, .val (.p (.str (dgs 61 d))), .val (.p (.str deepX)), .non, .non, z9, .non]) rfl ?_
      conv => whnf
      refine ⟨⟨by decide, by decide, sl _ (by decide)⟩, ?_⟩
      conv => whnf
      refine ⟨sl _ (by decide), ?_⟩
      conv => whnf
      refine ⟨?_⟩
      refine vSs_env (ρ' := [.val (.rol (xs.map .int)), .val (potT xs i7 b7 sd7), .val (.p (.str (W t))), .val (.p (.str ys)), z4, .val (.p (.str (dgs 61 d))), .val (.p (.str deepX)), .val (.p (.str longX)), .non, z9, .non]) rfl ?_
      conv => whnf
      refine ⟨rfl, nx_call (Q := Qn) (L := L) (n := n + 98) (f := 11) rfl rfl p7 (by decide) (by decide) fun m i8 b8 sd8 m0 m1 p8 => ?_⟩
      obtain ⟨m, rfl⟩ : ∃ k : Nat, m = (k : Int) := ⟨m.toNat, by omega⟩
      have hm : m < 100 := by omega
      have lm : (sInt (m : Int)).length ≤ 2 := by rw [sInt_nat]; exact TL.numL_len (by decide) (by omega)
      conv => whnf
      refine optP_at (nstr_int (i := (m : Int)) ?_) ?_
      · have : ((m : Int)).natAbs < 2 ^ 1920 := Nat.lt_of_lt_of_le (show _ < 128 by omega) (by decide)
        by_cases h0 : m = 0
        · subst h0; decide
        · exact (Nat.log2_lt (by omega)).mpr this
      have ld : (dgs 61 d).length = 61 := by unfold dgs; simp
      conv => whnf
      refine ⟨sl _ (by simp; omega), ?_⟩
      conv => whnf
      refine ⟨sl _ (by rw [ld]; decide), ?_⟩
      conv => whnf
      refine ⟨?_⟩
      refine vSs_env (ρ' := [.val (.rol (xs.map .int)), .val (potT xs i8 b8 sd8), .val (.p (.str (W t))), .val (.p (.str ys)), z4, .val (.p (.str (dgs 61 d))), .val (.p (.str deepX)), .val (.p (.str longX)), .val (.lp true ((badX d m).map .str)), z9, .non]) rfl ?_
      conv => whnf
      refine ⟨rfl, optP_at (a := ((badX d m).map D.str).map T.p) rfl ?_⟩
      refine LcN_env (ρ' := [.non, .non, .non, .non, frzS z4, .non, .non, .non, .val (.lp false ((badX d m).map .str)), .non, .non]) rfl ?_
      refine LcN.map (fun _ => some (.p (.bl true))) ?_ ?_
      · intro x hx
        obtain ⟨e, he, rfl⟩ := mem_map_p hx
        obtain ⟨y, hy, rfl⟩ := List.mem_map.mp he
        obtain ⟨⟨oy', ly⟩, ny⟩ := rfB_ok (bad_rf hd hm y hy)
        conv => whnf
        refine ⟨fun _ => ?_, fun h => Bool.noConfusion h⟩
        conv => whnf
        refine ⟨rfl, tryC (L := L) (n := n) (by omega) oy' (by omega) (fun u hu => absurd hu (ny u)) fun _ => ?_⟩
        conv => whnf
        exact ⟨rfl, rfl⟩
      · intro ρ' hρ'
        conv => whnf
        refine ⟨fun h => absurd h (by decide), fun _ => ?_⟩
        conv => whnf
        refine ⟨?_⟩
        refine vSs_env (ρ' := [.val (.rol (xs.map .int)), .val (potT xs i8 b8 sd8), .val (.p (.str (W t))), .val (.p (.str ys)), z4, .val (.p (.str (dgs 61 d))), .val (.p (.str deepX)), .val (.p (.str longX)), .val (.lp true ((badX d m).map .str)), z9, .non]) rfl ?_
        conv => whnf
        refine ⟨sl _ (by decide), ?_⟩
        conv => whnf
        refine ⟨sl _ (by decide), ?_⟩
        obtain ⟨⟨o5, l5⟩, n5⟩ := rfB_ok long_rf
        conv => whnf
        refine ⟨rfl, ?_⟩
        refine tryC (L := L) (n := n) (x := (cutL longX (some 1) (some 3) ++ cutL longX (some 3) (some 4)) ++ []) (by omega) o5 (by omega) (fun u hu => absurd hu (n5 u)) fun _ => ?_
        conv => whnf
        refine ⟨fun h => absurd h (by decide), fun hz => ?_⟩
        conv => whnf
        obtain ⟨u6, e6⟩ := rdB_yes deep_rd.1
        obtain ⟨o6, l6⟩ := okB_ok deep_rd.2
        refine ⟨rfl, ?_⟩
        refine tryC (L := L) (n := n) (x := cutL deepX (some 1) (some 81)) (by omega) o6 (by omega) (fun u hu => ?_) (fun hu => absurd e6 (hu u6))
        conv => whnf
        refine ⟨fun h => Bool.noConfusion (show false = true from h), fun hz2 => ?_⟩
        conv => whnf
        refine ⟨?_⟩
        conv => whnf
        have e7 : cutL (dgs 61 d) (some 1) none = dgs 60 d := (cut_from' (k := 1)).trans r3
        obtain ⟨o7, l7⟩ := okB_ok r2
        rw [e7]
        refine ⟨rfl, ?_⟩
        refine tryC (L := L) (n := n) (x := dgs 60 d) (by omega) o7 (by omega) (fun u hu => ?_) (fun hu => absurd r1 (hu _))
        rw [r1] at hu
        cases hu
        conv => whnf
        rw [e7]
        have hne : dgs 60 d ≠ [] := fun e => by
          have := congrArg List.length e
          unfold dgs at this
          simp at this
        refine optP_at (digits_int (ds := dgs 60 d) (fun c hc => List.all_eq_true.mp r4 c hc) hne (by omega)) ?_
        have hE := eqv_self (xs := [D.int (NumText.digitsVal (dgs 60 d) : Nat)]) rfl
        conv => whnf
        refine ⟨fun _ => ?_, fun h => Bool.noConfusion (hE.symm.trans h)⟩
        conv => whnf
        refine ⟨⟨by decide, by decide, sl _ (by decide)⟩, ?_⟩
        conv => whnf
        refine ⟨sl _ (by decide), ?_⟩
        obtain ⟨o8, l8⟩ := okB_ok a99_rd.2
        conv => whnf
        refine ⟨rfl, ?_⟩
        refine tryC (L := L) (n := n) (x := [57, 57, 58] ++ longA) (by omega) o8 (by omega) (fun u hu => ?_) (fun hu => absurd a99_rd.1 (hu _))
        rw [a99_rd.1] at hu
        cases hu
        conv => whnf
        refine ⟨⟨by decide, by decide, sl _ (by decide)⟩, ?_⟩
        conv => whnf
        have hE2 : ncmp .eq (.lp true [.str longA]) (.lp true [.str longA]) = some true := by
          have q1 : qds [.str longA] = true := by
            show (qd (.str longA) && true) = true
            rw [qd_str (fun c hc => by
              have : ∀ c ∈ longA, c < 128 := by decide
              exact this c hc)]
            rfl
          have q2 : deps [.str longA] ≤ 63 := by
            unfold deps
            rw [dep_str, deps]
            decide
          exact eq_lp q1 q2
        refine optP_at (a := true) hE2 ?_
        conv => whnf
        refine ⟨fun _ => ?_, fun h => Bool.noConfusion h⟩
        conv => whnf
        refine ⟨small _ (show (W t).length + 1 ≤ 90001 by omega), ?_⟩
        conv => whnf
        refine ⟨rfl, ?_⟩
        refine tryC (L := L) (n := n) (x := W t ++ [44]) (by rw [List.length_append]; simp; omega) (oW.app (okT1 (by decide))) (by rw [List.length_append]; simp; omega) (fun u hu => absurd hu (comma_no hg u)) fun _ => ?_
        conv => whnf
        exact h _
theorem law_ok : EW.LawHolds pd 15 100 100001 := fun xs _ _ => by
  have q : Wc (mrun Qn 100001 100 15 [.rol (xs.map .int)]) (fun t _ => t = .p (.bl true)) (fun _ _ => False) := law_n (L := 100001) (n := 0) (by decide) fun _ => rfl
  have q := q.go
  cases z : mrun Qn 100001 100 15 [.rol (xs.map .int)] with
  | ok t o =>
    rw [z] at q
    have q : t = .p (.bl true) := q
    subst q
    exact law_of_trees (Q := Qn) z
  | exc x o => rw [z] at q; exact q.elim
  | no => rw [z] at q; exact q.elim
end K31

set_option Elab.async false
set_option linter.all false
set_option maxRecDepth 100000
set_option maxHeartbeats 0
namespace K31
open EW PySem PySem.Spec PyProof.Rows L2
abbrev R : PySem.W.OpenRow := PySem.W.OpenLaw.row PySem.Challenge.rw_everyworth_k31_only_written_forms_are_re
abbrev hk : PySem.W.Hook := hookM 5 pd
def ob (s : PySem.W.SharedT) : He.AlD := obsMG 5 pd (HandSHeadRun.getT s)
theorem ob_eq (s : PySem.W.SharedT) : ob s = hk.obs s.abs := obsMG_eq (HandSHeadRun.getT_eq s)
theorem run_ (w : World) : HandSHeadRun.RunEq R (PySem.W.view R.prog [19]) hk ob 4000 ["WorthError", "BadText", "is_number", "FIGURES", "MOST_LENGTH_FIGURES", "MOST_FIGURES", "DEEPEST", "write", "TextReader", "read", "_law_pot", "_law_next", "_law_try", "_law_thing", "_law_changed"] w := by
  intro os
  kernel_rfl
end K31
open PySem PySem.W PySem.Calls PyProof.Rows
theorem PySem.Challenge.cw_everyworth_k31_only_written_forms_are_re_holds : PySem.Challenge.rw_everyworth_k31_only_written_forms_are_re.Holds := by
  w_on; o_law
  refine HandSHeadRun.head_any (r := OpenLaw.row PySem.Challenge.rw_everyworth_k31_only_written_forms_are_re) (q := view (OpenLaw.row PySem.Challenge.rw_everyworth_k31_only_written_forms_are_re).prog [19]) (H := K31.hk) (ob := K31.ob) (M := 4000) (loose := ["WorthError", "BadText", "is_number", "FIGURES", "MOST_LENGTH_FIGURES", "MOST_FIGURES", "DEEPEST", "write", "TextReader", "read", "_law_pot", "_law_next", "_law_try", "_law_thing", "_law_changed"]) (d := HandSHeadRun.topDef (OpenLaw.row PySem.Challenge.rw_everyworth_k31_only_written_forms_are_re).prog 19) (kwd := []) K31.ob_eq
    (by kernel_rfl) (fun s => by kernel_rfl) K31.run_ (by kernel_rfl) (by kernel_rfl) (by kernel_rfl) (by rfl) (by first | assumption | decide +kernel) (by decide +kernel) ⟨rfl, rfl, rfl, rfl, rfl, by decide +kernel⟩ ?hw ?hc
  case hw => w_witness2
  case hc => exact EW.walk_m (x := "_law_script") (f := 15) (n := 100) (L := 100001) rfl (by kernel_rfl) ⟨rfl, by decide, by decide⟩ K31.ok_ (by decide +kernel) (by decide +kernel) K31.law_ok
