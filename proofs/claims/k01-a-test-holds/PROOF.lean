import PyProof.Rows.All
import Wide.All
import OpenK.AllK
import Wide.FinOn
import HandS.ForMost
import HandS.ForExc
import HandS.Style
import HandS.StrMore
import HandS.IsInst
import HandS.TupLen
import HandS.Conv
import HandS.Replace
import HandS.ExcOwn
import HandS.CallSlots
import HandS.Comp
import HandS.Defaults
import HandS.WordsExc
import KE.KStateDown
import HandS.Ends
import HandS.More
import HandS.Head0
import HandS.Head1
import HandS.Head2
import HandS.HeadEnd
import HandS.HeadHook1
import HandS.HeadHook2
import Lean
import PySem.Challenge.RW_anymeaning_k01_a_test_holds
set_option Elab.async false
set_option linter.all false
set_option maxRecDepth 100000
set_option maxHeartbeats 0

namespace FS

/-! ### values -/
inductive D where
  | non
  | bl (b : Bool)
  | int (i : Int)
  | str (s : List Nat)
  | tup (ds : List D)
  | rol (ds : List D)
  | ins (c : Nat) (ds : List D)
  | ref (n : Nat)
  | exc (c : Nat)
  | clo (f : Nat) (ds : List D)
  deriving Inhabited, Repr

mutual
def D.beq : D → D → Bool
  | .non, .non => true
  | .bl x0, .bl y0 => x0 == y0
  | .int x0, .int y0 => x0 == y0
  | .str x0, .str y0 => x0 == y0
  | .tup x0, .tup y0 => D.beqs x0 y0
  | .rol x0, .rol y0 => D.beqs x0 y0
  | .ins x0 x1, .ins y0 y1 => x0 == y0 && D.beqs x1 y1
  | .ref x0, .ref y0 => x0 == y0
  | .exc x0, .exc y0 => x0 == y0
  | .clo x0 x1, .clo y0 y1 => x0 == y0 && D.beqs x1 y1
  | .non, _ | .bl _, _ | .int _, _ | .str _, _ | .tup _, _ | .rol _, _ | .ins _ _, _ | .ref _, _ | .exc _, _ | .clo _ _, _ => false
def D.beqs : List D → List D → Bool
  | [], [] => true
  | a :: r, b :: t => D.beq a b && D.beqs r t
  | [], _ :: _ => false
  | _ :: _, [] => false
end
mutual
theorem D.eq_of_beq : ∀ {a b : D}, D.beq a b = true → a = b
  | .non, .non, _ => rfl
  | .bl x0, .bl y0, h => by simp only [D.beq, beq_iff_eq] at h; rw [h]
  | .int x0, .int y0, h => by simp only [D.beq, beq_iff_eq] at h; rw [h]
  | .str x0, .str y0, h => by simp only [D.beq, beq_iff_eq] at h; rw [h]
  | .tup x0, .tup y0, h => by simp only [D.beq] at h; rw [D.eqs_of_beqs h]
  | .rol x0, .rol y0, h => by simp only [D.beq] at h; rw [D.eqs_of_beqs h]
  | .ins x0 x1, .ins y0 y1, h => by simp only [D.beq, Bool.and_eq_true, beq_iff_eq] at h; rw [h.1, D.eqs_of_beqs h.2]
  | .ref x0, .ref y0, h => by simp only [D.beq, beq_iff_eq] at h; rw [h]
  | .exc x0, .exc y0, h => by simp only [D.beq, beq_iff_eq] at h; rw [h]
  | .clo x0 x1, .clo y0 y1, h => by simp only [D.beq, Bool.and_eq_true, beq_iff_eq] at h; rw [h.1, D.eqs_of_beqs h.2]
  | .non, .bl _, h | .non, .int _, h | .non, .str _, h | .non, .tup _, h | .non, .rol _, h | .non, .ins _ _, h | .non, .ref _, h | .non, .exc _, h | .non, .clo _ _, h => by simp [D.beq] at h
  | .bl _, .non, h | .bl _, .int _, h | .bl _, .str _, h | .bl _, .tup _, h | .bl _, .rol _, h | .bl _, .ins _ _, h | .bl _, .ref _, h | .bl _, .exc _, h | .bl _, .clo _ _, h => by simp [D.beq] at h
  | .int _, .non, h | .int _, .bl _, h | .int _, .str _, h | .int _, .tup _, h | .int _, .rol _, h | .int _, .ins _ _, h | .int _, .ref _, h | .int _, .exc _, h | .int _, .clo _ _, h => by simp [D.beq] at h
  | .str _, .non, h | .str _, .bl _, h | .str _, .int _, h | .str _, .tup _, h | .str _, .rol _, h | .str _, .ins _ _, h | .str _, .ref _, h | .str _, .exc _, h | .str _, .clo _ _, h => by simp [D.beq] at h
  | .tup _, .non, h | .tup _, .bl _, h | .tup _, .int _, h | .tup _, .str _, h | .tup _, .rol _, h | .tup _, .ins _ _, h | .tup _, .ref _, h | .tup _, .exc _, h | .tup _, .clo _ _, h => by simp [D.beq] at h
  | .rol _, .non, h | .rol _, .bl _, h | .rol _, .int _, h | .rol _, .str _, h | .rol _, .tup _, h | .rol _, .ins _ _, h | .rol _, .ref _, h | .rol _, .exc _, h | .rol _, .clo _ _, h => by simp [D.beq] at h
  | .ins _ _, .non, h | .ins _ _, .bl _, h | .ins _ _, .int _, h | .ins _ _, .str _, h | .ins _ _, .tup _, h | .ins _ _, .rol _, h | .ins _ _, .ref _, h | .ins _ _, .exc _, h | .ins _ _, .clo _ _, h => by simp [D.beq] at h
  | .ref _, .non, h | .ref _, .bl _, h | .ref _, .int _, h | .ref _, .str _, h | .ref _, .tup _, h | .ref _, .rol _, h | .ref _, .ins _ _, h | .ref _, .exc _, h | .ref _, .clo _ _, h => by simp [D.beq] at h
  | .exc _, .non, h | .exc _, .bl _, h | .exc _, .int _, h | .exc _, .str _, h | .exc _, .tup _, h | .exc _, .rol _, h | .exc _, .ins _ _, h | .exc _, .ref _, h | .exc _, .clo _ _, h => by simp [D.beq] at h
  | .clo _ _, .non, h | .clo _ _, .bl _, h | .clo _ _, .int _, h | .clo _ _, .str _, h | .clo _ _, .tup _, h | .clo _ _, .rol _, h | .clo _ _, .ins _ _, h | .clo _ _, .ref _, h | .clo _ _, .exc _, h => by simp [D.beq] at h
theorem D.eqs_of_beqs : ∀ {a b : List D}, D.beqs a b = true → a = b
  | [], [], _ => rfl
  | x :: r, y :: t, h => by simp only [D.beqs, Bool.and_eq_true] at h; rw [D.eq_of_beq h.1, D.eqs_of_beqs h.2]
  | [], _ :: _, h => by simp [D.beqs] at h
  | _ :: _, [], h => by simp [D.beqs] at h
end
mutual
theorem D.beq_refl : ∀ a : D, D.beq a a = true
  | .non => by simp [D.beq]
  | .bl x0 => by simp [D.beq]
  | .int x0 => by simp [D.beq]
  | .str x0 => by simp [D.beq]
  | .tup x0 => by simp [D.beq, D.beqs_refl x0]
  | .rol x0 => by simp [D.beq, D.beqs_refl x0]
  | .ins x0 x1 => by simp [D.beq, D.beqs_refl x1]
  | .ref x0 => by simp [D.beq]
  | .exc x0 => by simp [D.beq]
  | .clo x0 x1 => by simp [D.beq, D.beqs_refl x1]
theorem D.beqs_refl : ∀ a : List D, D.beqs a a = true
  | [] => rfl
  | x :: r => by simp [D.beqs, D.beq_refl x, D.beqs_refl r]
end
theorem D.beq_iff {a b : D} : D.beq a b = true ↔ a = b := ⟨D.eq_of_beq, fun h => h ▸ D.beq_refl a⟩
instance : DecidableEq D := fun a b => if h : D.beq a b = true then isTrue (D.eq_of_beq h) else isFalse fun e => h (e ▸ D.beq_refl a)

/-- a mutable object: a list; a dict (t: its keys are tuples; z: locked by a walk); an instance that is changed -/
inductive MO where
  | lst (ds : List D)
  | dct (t z : Bool) (kvs : List (D × D))
  | obj (c : Nat) (fs : List (Nat × D))
  deriving DecidableEq, Inhabited, Repr
abbrev Mem := List MO
abbrev Sto := List (Option D)

inductive Res (α : Type) where
  | ok (a : α) (m : Mem)
  | ex (c : Nat) (m : Mem)
  | no
  deriving Inhabited, Repr
def Res.bind {α β : Type} : Res α → (α → Mem → Res β) → Res β
  | .ok a m, f => f a m
  | .ex c m, _ => .ex c m
  | .no, _ => .no
def Res.map {α β : Type} (f : α → β) : Res α → Res β
  | .ok a m => .ok (f a) m
  | .ex c m => .ex c m
  | .no => .no
inductive SR where
  | nx (σ : Sto) (m : Mem)
  | rt (d : D) (m : Mem)
  | bk (σ : Sto) (m : Mem)
  | ct (σ : Sto) (m : Mem)
  | ex (c : Nat) (σ : Sto) (m : Mem)
  | no
  deriving Inhabited, Repr
def Res.toS {α : Type} (σ : Sto) : Res α → (α → Mem → SR) → SR
  | .ok a m, f => f a m
  | .ex c m, _ => .ex c σ m
  | .no, _ => .no
def SR.seq : SR → (Sto → Mem → SR) → SR
  | .nx σ m, f => f σ m
  | r, _ => r

/-! ### reading the heap -/
def LIM : Nat := 16777216
def rdL (m : Mem) (n : Nat) : Option (List D) := match m[n]? with
  | some (.lst ds) => some ds
  | _ => none
/-- a list's items: a mutable one's, or one that is read only (the script) -/
def seqL (m : Mem) : D → Option (List D)
  | .ref n => rdL m n
  | .rol ds => some ds
  | _ => none
def rdD (m : Mem) (n : Nat) : Option (List (D × D)) := match m[n]? with
  | some (.dct _ _ kvs) => some kvs
  | _ => none

/-! ### data, for == -/
inductive Dat where
  | non | bl (b : Bool) | int (i : Int) | str (s : List Nat) | lst (l : List Dat) | tup (l : List Dat)
  deriving Inhabited
mutual
def Dat.eqv : Dat → Dat → Bool
  | .non, .non => true
  | .bl a, .bl b => a == b
  | .bl a, .int j => (if a then 1 else 0) == j
  | .int i, .bl b => i == (if b then 1 else 0)
  | .int i, .int j => i == j
  | .str x, .str y => x == y
  | .lst xs, .lst ys => Dat.eqvs xs ys
  | .tup xs, .tup ys => Dat.eqvs xs ys
  | .non, _ | .bl _, _ | .int _, _ | .str _, _ | .lst _, _ | .tup _, _ => false
def Dat.eqvs : List Dat → List Dat → Bool
  | [], [] => true
  | x :: xs, y :: ys => Dat.eqv x y && Dat.eqvs xs ys
  | [], _ :: _ => false
  | _ :: _, [] => false
end
def toDat : Nat → Mem → D → Option Dat
  | _, _, .non => some .non
  | _, _, .bl b => some (.bl b)
  | _, _, .int i => some (.int i)
  | _, _, .str s => if s.all (fun c => decide (c < 1114112)) then some (.str s) else none
  | n + 1, m, .tup ds => (ds.mapM fun d => toDat n m d).map Dat.tup
  | n + 1, m, .rol ds => (ds.mapM fun d => toDat n m d).map Dat.lst
  | n + 1, m, .ref k => (rdL m k).bind fun ds => (ds.mapM fun d => toDat n m d).map Dat.lst
  | _, _, _ => none
def scal : D → D → Bool
  | .non, .non | .non, .int _ | .int _, .non | .non, .bl _ | .bl _, .non | .non, .str _ | .str _, .non => true
  | .int _, .int _ | .bl _, .bl _ | .str _, .str _ => true
  | .int _, .str _ | .str _, .int _ | .bl _, .str _ | .str _, .bl _ => true
  | _, _ => false
def eqD (m : Mem) (a b : D) : Option Bool :=
  if scal a b then some (D.beq a b) else match toDat 60 m a, toDat 60 m b with
    | some x, some y => some (Dat.eqv x y)
    | _, _ => none

/-! ### operators -/
inductive O2 where
  | add | sub | mul | fdiv | mod | pow | shl | shr | band | bor | bxor
  deriving DecidableEq, Repr
inductive Cm where
  | eq | ne | lt | le | gt | ge | is | isn | inn | nin
  deriving DecidableEq, Repr
def bNot (x : Int) : Int := -x - 1
def bAnd (x y : Int) : Option Int :=
  if 0 ≤ x then (if 0 ≤ y then some ((x.toNat &&& y.toNat : Nat) : Int) else some (x - ((x.toNat &&& (bNot y).toNat : Nat) : Int)))
  else if 0 ≤ y then some (y - ((y.toNat &&& (bNot x).toNat : Nat) : Int)) else none
def small (i : Int) : Bool := decide (-18446744073709551616 < i) && decide (i < 18446744073709551616)
def op2 : O2 → D → D → Mem → Res D
  | .add, .int a, .int b, m => .ok (.int (a + b)) m
  | .add, .str a, .str b, m => if a.length + b.length ≤ LIM then .ok (.str (a ++ b)) m else .no
  | .add, .ref p, .ref q, m => match rdL m p, rdL m q with
    | some a, some b => if a.length + b.length ≤ LIM then .ok (.ref m.length) (m ++ [.lst (a ++ b)]) else .no
    | _, _ => .no
  | .sub, .int a, .int b, m => .ok (.int (a - b)) m
  | .mul, .int a, .int b, m => if small a || small b then .ok (.int (a * b)) m else .no
  | .mul, .ref p, .int k, m => match rdL m p with
    | some a => if -9223372036854775808 ≤ k ∧ k < 9223372036854775808 ∧ a.length * k.toNat ≤ LIM then .ok (.ref m.length) (m ++ [.lst (List.replicate k.toNat a).flatten]) else .no
    | _ => .no
  | .fdiv, .int a, .int b, m => if 0 < b ∧ b < 1073741824 then .ok (.int (a / b)) m else .no
  | .mod, .int a, .int b, m => if 0 < b then .ok (.int (a % b)) m else .no
  | .pow, .int a, .int b, m => if 0 ≤ b ∧ b ≤ 1000000 ∧ a.natAbs < 18446744073709551616 then .ok (.int (a ^ b.toNat)) m else .no
  | .shl, .int a, .int b, m => if 0 ≤ b ∧ b ≤ 1000000 ∧ a.natAbs < 18446744073709551616 then .ok (.int (a * 2 ^ b.toNat)) m else .no
  | .shr, .int a, .int b, m => if 0 ≤ b then .ok (.int (a / 2 ^ b.toNat)) m else .no
  | .band, .int a, .int b, m => match bAnd a b with
    | some x => .ok (.int x) m
    | none => .no
  | .bor, .int a, .int b, m => if 0 ≤ a ∧ 0 ≤ b then .ok (.int ((a.toNat ||| b.toNat : Nat) : Int)) m else .no
  | .bxor, .int a, .int b, m => if 0 ≤ a ∧ 0 ≤ b then .ok (.int ((a.toNat ^^^ b.toNat : Nat) : Int)) m else .no
  | _, _, _, _ => .no
def dGet (kvs : List (D × D)) (k : D) : Option D := (kvs.find? fun p => D.beq p.1 k).map (·.2)
def isKeyT : D → Bool
  | .int _ => true
  | .str _ => true
  | _ => false
def keyOk (t : Bool) : D → Bool
  | .tup ds => t && ds.all isKeyT
  | d => !t && isKeyT d
def flat : D → Bool
  | .non | .bl _ | .int _ | .str _ => true
  | _ => false
def eqFlat : D → D → Bool
  | .bl a, .int j => (if a then 1 else 0) == j
  | .int i, .bl b => i == (if b then 1 else 0)
  | a, b => D.beq a b
/-- the place at which t stands first in s -/
def findT (t : List Nat) : List Nat → Option Nat
  | [] => if t = [] then some 0 else none
  | x :: r => if t.isPrefixOf (x :: r) then some 0 else (findT t r).map (· + 1)
def inD (m : Mem) : D → D → Option Bool
  | .str t, .str z => some (findT t z).isSome
  | x, .tup ds => if flat x && ds.all flat then some (ds.any fun y => eqFlat y x) else none
  | x, .ref n => match m[n]? with
    | some (.dct t _ kvs) => if keyOk t x then some (dGet kvs x).isSome else none
    | some (.lst ds) => if flat x && ds.all flat then some (ds.any fun y => eqFlat y x) else none
    | _ => none
  | _, _ => none
def cmp2 : Cm → D → D → Mem → Option Bool
  | .eq, a, b, m => eqD m a b
  | .ne, a, b, m => (eqD m a b).map (!·)
  | .lt, .int a, .int b, _ => some (decide (a < b))
  | .le, .int a, .int b, _ => some (decide (a ≤ b))
  | .gt, .int a, .int b, _ => some (decide (b < a))
  | .ge, .int a, .int b, _ => some (decide (b ≤ a))
  | .lt, .str a, .str b, _ => some (decide (a < b))
  | .is, a, .non, _ => some (decide (a = .non))
  | .isn, a, .non, _ => some (!decide (a = .non))
  | .is, .bl a, .bl b, _ => some (decide (a = b))
  | .isn, .bl a, .bl b, _ => some (!decide (a = b))
  | .inn, a, b, m => inD m a b
  | .nin, a, b, m => (inD m a b).map (!·)
  | _, _, _, _ => none
def ofO (m : Mem) : Option Bool → Res D
  | some b => .ok (.bl b) m
  | none => .no

/-! ### subscripts -/
def ixN (n : Nat) (i : Int) : Option Nat := if 0 ≤ i then (if i < n then some i.toNat else none) else if -(n : Int) ≤ i then some (i + n).toNat else none
def atI {α : Type} (xs : List α) (i : Int) : Option α := (ixN xs.length i).bind fun j => xs[j]?
def sIx (n d : Nat) : Option Int → Nat
  | none => d
  | some v => if v < 0 then (v + (n : Int)).toNat else min v.toNat n
def cut {α : Type} (xs : List α) (lo hi : Option Int) : List α := (xs.drop (sIx xs.length 0 lo)).take (sIx xs.length xs.length hi - sIx xs.length 0 lo)
def dPut (kvs : List (D × D)) (k v : D) : List (D × D) := if kvs.any (fun p => D.beq p.1 k) then kvs.map (fun p => if D.beq p.1 k then (p.1, v) else p) else kvs ++ [(k, v)]
def dDrop (kvs : List (D × D)) (k : D) : List (D × D) := kvs.filter fun p => !D.beq p.1 k
def opt (m : Mem) : Option D → Res D
  | some d => .ok d m
  | none => .no
def index : D → D → Mem → Res D
  | .tup ds, .int i, m => opt m (atI ds i)
  | .rol ds, .int i, m => opt m (atI ds i)
  | .str s, .int i, m => if s.length ≤ LIM then opt m ((atI s i).map fun c => .str [c]) else .no
  | .ref n, k, m => match m[n]? with
    | some (.lst ds) => (match k with
      | .int i => opt m (atI ds i)
      | _ => .no)
    | some (.dct t _ kvs) => if keyOk t k then opt m (dGet kvs k) else .no
    | _ => .no
  | _, _, _ => .no
def slice : D → Option Int → Option Int → Mem → Res D
  | .str s, lo, hi, m => if s.length ≤ LIM then .ok (.str (cut s lo hi)) m else .no
  | x, lo, hi, m => match seqL m x with
    | some ds => .ok (.ref m.length) (m ++ [.lst (cut ds lo hi)])
    | none => .no
def putA (f : Nat) (v : D) : List (Nat × D) → List (Nat × D)
  | [] => [(f, v)]
  | (g, x) :: r => if g = f then (g, v) :: r else (g, x) :: putA f v r
def storeI (a i e : D) (m : Mem) : Option Mem := match a with
  | .ref n => match m[n]? with
    | some (.lst ds) => (match i with
      | .int k => (ixN ds.length k).map fun j => m.set n (.lst (ds.set j e))
      | _ => none)
    | some (.dct t false kvs) => if keyOk t i && decide (kvs.length < LIM) then some (m.set n (.dct t false (dPut kvs i e))) else none
    | _ => none
  | _ => none

/-! ### built-in functions and methods -/
inductive Bi where
  | len | list | sorted | all | any | int | abs | sum | min1 | max1 | min2 | max2 | str | dict | rlist | tuple
  deriving DecidableEq, Repr
inductive Bm where
  | append | pop | pop1 | clear | find | index | get | split | partition | join | replace | startswith | extend
  deriving DecidableEq, Repr
def allB : List D → Option (List Bool)
  | [] => some []
  | .bl b :: r => (allB r).map (b :: ·)
  | _ :: _ => none
def allI : List D → Option (List Int)
  | [] => some []
  | .int b :: r => (allI r).map (b :: ·)
  | _ :: _ => none
def allS : List D → Option (List (List Nat))
  | [] => some []
  | .str b :: r => (allS r).map (b :: ·)
  | _ :: _ => none
def lenD (m : Mem) : D → Option Nat
  | .str s => if s.length ≤ LIM then some s.length else none
  | .tup ds => some ds.length
  | .rol ds => some ds.length
  | .ref n => match m[n]? with
    | some (.lst ds) => some ds.length
    | some (.dct false false kvs) => some kvs.length
    | some (.dct true false kvs) => some kvs.length
    | _ => none
  | _ => none
def minI : List Int → Option Int
  | [] => none
  | x :: r => some (r.foldl min x)
def maxI : List Int → Option Int
  | [] => none
  | x :: r => some (r.foldl max x)
/-- the digits of a number that is not below nought -/
def digits : Nat → List Nat
  | n => (Nat.toDigits 10 n).map Char.toNat
def bi (b : Bi) (as : List D) (m : Mem) : Res D := match b, as with
  | .len, [d] => opt m ((lenD m d).map fun (k : Nat) => D.int (k : Int))
  | .list, [.ref n] => (match m[n]? with
    | some (.lst ds) => .ok (.ref m.length) (m ++ [.lst ds])
    | some (.dct false false kvs) => .ok (.ref m.length) (m ++ [.lst (kvs.map (·.1))])
    | _ => .no)
  | .list, [.rol ds] => .ok (.ref m.length) (m ++ [.lst ds])
  | .list, [.tup ds] => .ok (.ref m.length) (m ++ [.lst ds])
  | .all, [.ref n] => opt m (((rdL m n).bind allB).map fun bs => .bl (bs.all id))
  | .any, [.ref n] => opt m (((rdL m n).bind allB).map fun bs => .bl (bs.any id))
  | .sum, [.ref n] => opt m (((rdL m n).bind allI).map fun ns => .int ns.sum)
  | .min1, [.ref n] => opt m ((((rdL m n).bind allI).bind minI).map .int)
  | .max1, [.ref n] => opt m ((((rdL m n).bind allI).bind maxI).map .int)
  | .min2, [.int i, .int j] => .ok (.int (if j < i then j else i)) m
  | .max2, [.int i, .int j] => .ok (.int (if j > i then j else i)) m
  | .abs, [.int i] => .ok (.int (if i < 0 then -i else i)) m
  | .int, [.int i] => .ok (.int i) m
  | .int, [.bl k] => .ok (.int (if k then 1 else 0)) m
  | .str, [.int i] => if 0 ≤ i ∧ i < 1000000 then .ok (.str (digits i.toNat)) m else .no
  | .rlist, [.int i, .int j] => if -4611686018427387904 ≤ i ∧ i ≤ j ∧ j < 4611686018427387904 ∧ (j - i).toNat ≤ LIM then .ok (.ref m.length) (m ++ [.lst ((List.range (j - i).toNat).map fun (k : Nat) => D.int (i + (k : Int)))]) else .no
  | _, _ => .no
/-- text.find -/
def findS (t s : List Nat) : Int := match findT t s with
  | some k => (k : Int)
  | none => -1
def joinS (sep : List Nat) : List (List Nat) → List Nat
  | [] => []
  | [w] => w
  | w :: v :: r => w ++ sep ++ joinS sep (v :: r)
def splitT (fuel : Nat) (t s : List Nat) : List (List Nat) := match fuel with
  | 0 => [s]
  | k + 1 => match findT t s with
    | some j => s.take j :: splitT k t (s.drop (j + t.length))
    | none => [s]
def partT (t s : List Nat) : List Nat × List Nat × List Nat := match findT t s with
  | some j => (s.take j, t, s.drop (j + t.length))
  | none => (s, [], [])
def bm (b : Bm) (d : D) (as : List D) (m : Mem) : Res D := match b, d, as with
  | .append, .ref n, [e] => (match m[n]? with
    | some (.lst ds) => if ds.length < LIM then .ok .non (m.set n (.lst (ds ++ [e]))) else .no
    | _ => .no)
  | .pop, .ref n, [] => (match m[n]? with
    | some (.lst ds) => (match ds.getLast? with
      | some e => .ok e (m.set n (.lst ds.dropLast))
      | none => .no)
    | _ => .no)
  | .pop1, .ref n, [k] => (match m[n]? with
    | some (.lst ds) => (match k with
      | .int i => if -9223372036854775808 ≤ i ∧ i < 9223372036854775808 then (match ixN ds.length i with
        | some j => (match ds[j]? with
          | some e => .ok e (m.set n (.lst (ds.eraseIdx j)))
          | none => .no)
        | none => .no) else .no
      | _ => .no)
    | some (.dct t false kvs) => if !t && keyOk t k then (match dGet kvs k with
      | some v => .ok v (m.set n (.dct t false (dDrop kvs k)))
      | none => .no) else .no
    | _ => .no)
  | .clear, .ref n, [] => (match m[n]? with
    | some (.lst _) => .ok .non (m.set n (.lst []))
    | _ => .no)
  | .find, .str s, [.str t] => .ok (.int (findS t s)) m
  | .index, .str s, [.str t] => (match findT t s with
    | some k => .ok (.int (k : Int)) m
    | none => .no)
  | .index, .ref n, [x] => (match rdL m n with
    | some ds => if flat x && ds.all flat then (match ds.findIdx? (fun y => eqFlat y x) with
      | some j => .ok (.int (j : Int)) m
      | none => .no) else .no
    | none => .no)
  | .get, .ref n, [k, e] => (match m[n]? with
    | some (.dct t _ kvs) => if keyOk t k then .ok ((dGet kvs k).getD e) m else .no
    | _ => .no)
  | .split, .str s, [.str t] => if t ≠ [] ∧ s.length + 2 ≤ LIM then .ok (.ref m.length) (m ++ [.lst ((splitT (s.length + 1) t s).map .str)]) else .no
  | .partition, .str s, [.str t] => if t ≠ [] ∧ s.length ≤ LIM then .ok (.tup [.str (partT t s).1, .str (partT t s).2.1, .str (partT t s).2.2]) m else .no
  | .join, .str s, [.ref n] => (match (rdL m n).bind allS with
    | some ws => if (ws.map List.length).sum + ws.length * s.length ≤ LIM then .ok (.str (joinS s ws)) m else .no
    | none => .no)
  | .startswith, .str s, [.str t] => .ok (.bl (t.isPrefixOf s)) m
  | _, _, _ => .no

/-- the kind of a method's receiver: text, list, dict -/
inductive Bk where
  | s | l | d
  deriving DecidableEq, Repr
def bk (m : Mem) : D → Option Bk
  | .str _ => some .s
  | .ref n => match m[n]? with
    | some (.lst _) => some .l
    | some (.dct _ _ _) => some .d
    | _ => none
  | _ => none

def bmK : Bm → Bk → Bool
  | .append, .l | .pop, .l | .pop1, .l | .clear, .l | .index, .l => true
  | .find, .s | .index, .s | .split, .s | .partition, .s | .join, .s | .replace, .s | .startswith, .s => true
  | .get, .d | .pop1, .d => true
  | _, _ => false
/-! ### isinstance -/
inductive Ty where
  | cls (c : Nat) | int | bool | str | list | tuple | vale
  deriving DecidableEq, Repr
/-- what a value is an instance of -/
inductive Tag where
  | own (c : Nat) | int | bool | str | non | tuple | list
  deriving DecidableEq, Repr
def tagOf (m : Mem) : D → Option Tag
  | .non => some .non
  | .bl _ => some .bool
  | .int _ => some .int
  | .str _ => some .str
  | .tup _ => some .tuple
  | .rol _ => some .list
  | .ins c _ => some (.own c)
  | .ref n => match m[n]? with
    | some (.lst _) => some .list
    | some (.obj c _) => some (.own c)
    | _ => none
  | _ => none
def tagIs (sub : Nat → Nat → Bool) (vale : Nat → Bool) : Tag → Ty → Bool
  | .own c, .cls e => sub c e
  | .own c, .vale => vale c
  | .int, .int => true
  | .bool, .int => true
  | .bool, .bool => true
  | .str, .str => true
  | .tuple, .tuple => true
  | .list, .list => true
  | _, _ => false

/-! ### the inner form -/
inductive Tg where
  | nm (i : Nat)
  | tp (l : List Tg)
  deriving Repr
mutual
inductive E where
  | var (i : Nat)
  | cst (d : D)
  | op (o : O2) (a b : E)
  | cmp (o : Cm) (a b : E)
  | chn (o o' : Cm) (a b c : E)
  | not (a : E)
  | and (a b : E)
  | or (a b : E)
  | ife (c a b : E)
  | neg (a : E)
  | inv (a : E)
  | tup (es : Es)
  | lst (es : Es)
  | dct0 (t : Bool)
  | dct (t : Bool) (l : Kv)
  | idx (a b : E)
  | slc (a : E) (lo hi : Oe)
  | rev (a : E)
  | fld (a : E) (f : Nat)
  | call (f : Nat) (es : Es)
  | make (c : Nat) (es : Es)
  | meth (a : E) (m : Nat) (es : Es)
  | clo (i : Nat) (es : Es)
  | bi (b : Bi) (es : Es)
  | bm (a : E) (m : Bm) (es : Es)
  | isi (a : E) (ts : List Ty)
  | lc (own : List Nat) (it : It) (tg : Tg) (c : Oe) (e : E)
inductive Es where
  | nil
  | cons (e : E) (es : Es)
inductive Oe where
  | none
  | some (e : E)
inductive Kv where
  | nil
  | cons (k v : E) (l : Kv)
inductive It where
  | seq (e : E)
  | rng (lo hi : E)
  | zip2 (a b : E)
  | zip3 (a b c : E)
  | items (e : E)
  | rvs (e : E)
end
mutual
inductive S where
  | set (i : Nat) (e : E)
  | unp (tg : Tg) (e : E)
  | ex (e : E)
  | ret (e : E)
  | retN
  | ifs (c : E) (a b : Ss)
  | whl (c : E) (b : Ss)
  | frs (tg : Tg) (it : It) (b : Ss)
  | brk
  | cnt
  | pss
  | rse (c : Nat)
  | try_ (b : Ss) (c : Nat) (slot : Option Nat) (h : Ss)
  | setI (a i e : E)
  | setF (a : E) (f : Nat) (e : E)
  | ndef (i f : Nat) (cs : List Nat)
inductive Ss where
  | nil
  | cons (s : S) (ss : Ss)
end
/-- a list of inner statements, of inner expressions, in short -/
def ss : List S → Ss
  | [] => .nil
  | s :: r => .cons s (ss r)
def es : List E → Es
  | [] => .nil
  | e :: r => .cons e (es r)

/-! ### what it evaluates to -/
structure Ctx where
  call : Nat → List D → Mem → Res D
  make : Nat → List D → Mem → Res D
  mt : Nat → Nat → Option Nat
  sub : Nat → Nat → Bool
  vale : Nat → Bool
  flds : Nat → List Nat
  fuel : Nat
mutual
def bindT (m : Mem) : Tg → D → Sto → Option Sto
  | .nm i, d, σ => some (σ.set i (some d))
  | .tp l, .tup ds, σ => bindTs m l ds σ
  | .tp _, _, _ => none
def bindTs (m : Mem) : List Tg → List D → Sto → Option Sto
  | [], [], σ => some σ
  | t :: l, d :: ds, σ => (bindT m t d σ).bind fun σ' => bindTs m l ds σ'
  | [], _ :: _, _ => none
  | _ :: _, [], _ => none
end
/-- no exception leaves a comprehension -/
def Res.calm {α : Type} : Res α → Res α
  | .ok a m => .ok a m
  | _ => .no
/-- a comprehension's own names forgotten -/
def wipeD (σ : Sto) : List Nat → Sto
  | [] => σ
  | i :: r => (wipeD σ r).set i none
abbrev Guard := List (Nat × MO)
def gOk (g : Guard) (m : Mem) : Bool := g.all fun p => decide (m[p.1]? = some p.2)
/-- a comprehension's turns: its list stands at n -/
def lcLoop (g : Guard) (n : Nat) (tg : Tg) (c e : Sto → Mem → Res D) (σ : Sto) : List D → Mem → Res D
  | [], m => if gOk g m then .ok (.ref n) m else .no
  | d :: ds, m => if gOk g m then match bindT m tg d σ with
      | some σ' => (c σ' m).calm.bind fun b m1 => match b with
        | .bl true => (e σ' m1).calm.bind fun v m2 => match m2[n]? with
          | some (.lst acc) => if acc.length < LIM then lcLoop g n tg c e σ ds (m2.set n (.lst (acc ++ [v]))) else .no
          | _ => .no
        | .bl false => lcLoop g n tg c e σ ds m1
        | _ => .no
      | none => .no
    else .no
def frLoop (g : Guard) (tg : Tg) (body : Sto → Mem → SR) : List D → Sto → Mem → SR
  | [], σ, m => if gOk g m then .nx σ m else .no
  | d :: ds, σ, m => if gOk g m then match bindT m tg d σ with
      | some σ' => match body σ' m with
        | .nx σ2 m2 => frLoop g tg body ds σ2 m2
        | .ct σ2 m2 => frLoop g tg body ds σ2 m2
        | .bk σ2 m2 => .nx σ2 m2
        | r => r
      | none => .no
    else .no
def whLoop (c : Sto → Mem → Res D) (body : Sto → Mem → SR) : Nat → Sto → Mem → SR
  | 0, _, _ => .no
  | k + 1, σ, m => (c σ m).toS σ fun b m1 => match b with
    | .bl true => (match body σ m1 with
      | .nx σ2 m2 => whLoop c body k σ2 m2
      | .ct σ2 m2 => whLoop c body k σ2 m2
      | .bk σ2 m2 => .nx σ2 m2
      | r => r)
    | .bl false => .nx σ m1
    | _ => .no
def seqOf (m : Mem) : D → Option (List D × Guard)
  | .tup ds => some (ds, [])
  | .rol ds => some (ds, [])
  | .str s => some (s.map fun c => .str [c], [])
  | .ref n => match m[n]? with
    | some (.lst ds) => some (ds, [(n, .lst ds)])
    | _ => none
  | _ => none
def lstOf (m : Mem) : D → Option (List D × Guard)
  | .rol ds => some (ds, [])
  | .ref n => match m[n]? with
    | some (.lst ds) => some (ds, [(n, .lst ds)])
    | _ => none
  | _ => none
/-- a list, or a text sign by sign, for zip -/
def zipOf (m : Mem) : D → Option (List D × Guard)
  | .str s => some (s.map fun c => .str [c], [])
  | d => lstOf m d
def rngOk (lo hi : Int) : Bool := decide (-4611686018427387904 ≤ lo) && decide (lo < 4611686018427387904) && decide (-4611686018427387904 ≤ hi) && decide (hi < 4611686018427387904)
def rngL (lo hi : Int) : List D := (List.range (hi - lo).toNat).map fun (k : Nat) => D.int (lo + (k : Int))
mutual
def evalE (C : Ctx) : E → Sto → Mem → Res D
  | .var i, σ, m => match σ[i]? with
    | some (some d) => .ok d m
    | _ => .no
  | .cst d, _, m => .ok d m
  | .op o a b, σ, m => (evalE C a σ m).bind fun x m1 => (evalE C b σ m1).bind fun y m2 => op2 o x y m2
  | .cmp o a b, σ, m => (evalE C a σ m).bind fun x m1 => (evalE C b σ m1).bind fun y m2 => ofO m2 (cmp2 o x y m2)
  | .chn o o' a b c, σ, m => (evalE C a σ m).bind fun x m1 => (evalE C b σ m1).bind fun y m2 => match cmp2 o x y m2 with
    | some true => (evalE C c σ m2).bind fun z m3 => ofO m3 (cmp2 o' y z m3)
    | some false => .ok (.bl false) m2
    | none => .no
  | .not a, σ, m => (evalE C a σ m).bind fun x m1 => match x with
    | .bl k => .ok (.bl (!k)) m1
    | _ => .no
  | .and a b, σ, m => (evalE C a σ m).bind fun x m1 => match x with
    | .bl true => evalE C b σ m1
    | .bl false => .ok (.bl false) m1
    | _ => .no
  | .or a b, σ, m => (evalE C a σ m).bind fun x m1 => match x with
    | .bl true => .ok (.bl true) m1
    | .bl false => evalE C b σ m1
    | _ => .no
  | .ife c a b, σ, m => (evalE C c σ m).bind fun x m1 => match x with
    | .bl true => evalE C a σ m1
    | .bl false => evalE C b σ m1
    | _ => .no
  | .neg a, σ, m => (evalE C a σ m).bind fun x m1 => match x with
    | .int i => .ok (.int (-i)) m1
    | _ => .no
  | .inv a, σ, m => (evalE C a σ m).bind fun x m1 => match x with
    | .int i => .ok (.int (bNot i)) m1
    | _ => .no
  | .tup l, σ, m => (evalEs C l σ m).bind fun ds m1 => if ds.length ≤ LIM then .ok (.tup ds) m1 else .no
  | .lst l, σ, m => (evalEs C l σ m).bind fun ds m1 => if ds.length ≤ LIM then .ok (.ref m1.length) (m1 ++ [.lst ds]) else .no
  | .dct0 t, _, m => .ok (.ref m.length) (m ++ [.dct t false []])
  | .dct t l, σ, m => (evalKV C l σ (m ++ [.dct t false []])).bind fun kvs m1 => if kvs.all (fun p => keyOk t p.1) && decide (kvs.length ≤ 15) && decide (m1[m.length]? = some (.dct t false [])) then .ok (.ref m.length) (m1.set m.length (.dct t false (kvs.foldl (fun a p => dPut a p.1 p.2) []))) else .no
  | .idx a b, σ, m => (evalE C a σ m).bind fun x m1 => (evalE C b σ m1).bind fun y m2 => index x y m2
  | .slc a lo hi, σ, m => (evalE C a σ m).bind fun x m1 => (evalO C lo σ m1).bind fun l m2 => (evalO C hi σ m2).bind fun h m3 => slice x l h m3
  | .rev a, σ, m => (evalE C a σ m).bind fun x m1 => match x with
    | .ref n => (match rdL m1 n with
      | some ds => .ok (.ref m1.length) (m1 ++ [.lst ds.reverse])
      | none => .no)
    | _ => .no
  | .fld a f, σ, m => (evalE C a σ m).bind fun x m1 => match x with
    | .ins c ds => (match (C.flds c).findIdx? (· == f) with
      | some k => opt m1 ds[k]?
      | none => .no)
    | .ref n => (match m1[n]? with
      | some (.obj _ fs) => opt m1 (fs.lookup f)
      | _ => .no)
    | _ => .no
  | .call f l, σ, m => (evalEs C l σ m).bind fun ds m1 => C.call f ds m1
  | .make c l, σ, m => (evalEs C l σ m).bind fun ds m1 => C.make c ds m1
  | .meth a n l, σ, m => (evalE C a σ m).bind fun x m1 => match x with
    | .ins c _ => (match C.mt c n with
      | some g => (evalEs C l σ m1).bind fun ds m2 => C.call g (x :: ds) m2
      | none => .no)
    | .ref k => (match m1[k]? with
      | some (.obj c _) => (match C.mt c n with
        | some g => (evalEs C l σ m1).bind fun ds m2 => C.call g (x :: ds) m2
        | none => .no)
      | _ => .no)
    | _ => .no
  | .clo i l, σ, m => match σ[i]? with
    | some (some (.clo f cs)) => (evalEs C l σ m).bind fun ds m1 => C.call f (ds ++ cs) m1
    | _ => .no
  | .bi b l, σ, m => (evalEs C l σ m).bind fun ds m1 => bi b ds m1
  | .bm a b l, σ, m => (evalE C a σ m).bind fun x m1 => match bk m1 x with
    | some k => if bmK b k then (evalEs C l σ m1).bind fun ds m2 => if bk m2 x = some k then bm b x ds m2 else .no else .no
    | none => .no
  | .isi a ts, σ, m => (evalE C a σ m).bind fun x m1 => match tagOf m1 x with
    | some g => .ok (.bl (ts.any fun t => tagIs C.sub C.vale g t)) m1
    | none => .no
  | .lc own it tg c e, σ, m => (evalI C it σ m).bind fun p m1 => lcLoop p.2 m1.length tg (evalC C c) (evalE C e) (wipeD σ own) p.1 (m1 ++ [.lst []])
def evalC (C : Ctx) : Oe → Sto → Mem → Res D
  | .none, _, m => .ok (.bl true) m
  | .some e, σ, m => evalE C e σ m
def evalO (C : Ctx) : Oe → Sto → Mem → Res (Option Int)
  | .none, _, m => .ok Option.none m
  | .some e, σ, m => (evalE C e σ m).bind fun x m1 => match x with
    | .int i => .ok (Option.some i) m1
    | _ => .no
def evalEs (C : Ctx) : Es → Sto → Mem → Res (List D)
  | .nil, _, m => .ok [] m
  | .cons e l, σ, m => (evalE C e σ m).bind fun x m1 => (evalEs C l σ m1).bind fun ds m2 => .ok (x :: ds) m2
def evalKV (C : Ctx) : Kv → Sto → Mem → Res (List (D × D))
  | .nil, _, m => .ok [] m
  | .cons k v l, σ, m => (evalE C k σ m).bind fun x m1 => (evalE C v σ m1).bind fun y m2 => (evalKV C l σ m2).bind fun r m3 => .ok ((x, y) :: r) m3
def evalI (C : Ctx) : It → Sto → Mem → Res (List D × Guard)
  | .seq e, σ, m => (evalE C e σ m).bind fun x m1 => match seqOf m1 x with
    | some p => .ok p m1
    | none => .no
  | .rng lo hi, σ, m => (evalE C lo σ m).bind fun x m1 => (evalE C hi σ m1).bind fun y m2 => match x, y with
    | .int i, .int j => if rngOk i j then .ok (rngL i j, []) m2 else .no
    | _, _ => .no
  | .zip2 a b, σ, m => (evalE C a σ m).bind fun x m1 => (evalE C b σ m1).bind fun y m2 => match zipOf m2 x, zipOf m2 y with
    | some p, some q => .ok ((p.1.zip q.1).map fun z => .tup [z.1, z.2], p.2 ++ q.2) m2
    | _, _ => .no
  | .zip3 a b c, σ, m => (evalE C a σ m).bind fun x m1 => (evalE C b σ m1).bind fun y m2 => (evalE C c σ m2).bind fun z m3 => match zipOf m3 x, zipOf m3 y, zipOf m3 z with
    | some p, some q, some r => .ok ((p.1.zip (q.1.zip r.1)).map fun z => .tup [z.1, z.2.1, z.2.2], p.2 ++ q.2 ++ r.2) m3
    | _, _, _ => .no
  | .items e, σ, m => (evalE C e σ m).bind fun x m1 => match x with
    | .ref n => (match m1[n]? with
      | some (.dct t false kvs) => .ok (kvs.map fun p => .tup [p.1, p.2], [(n, .dct t false kvs)]) m1
      | _ => .no)
    | _ => .no
  | .rvs e, σ, m => (evalE C e σ m).bind fun x m1 => match lstOf m1 x with
    | some p => .ok (p.1.reverse, p.2) m1
    | none => .no
end
def start (nl : Nat) (ds : List D) : Sto := ds.map some ++ List.replicate (nl - ds.length) none
mutual
def execS (C : Ctx) : S → Sto → Mem → SR
  | .set i e, σ, m => (evalE C e σ m).toS σ fun d m1 => .nx (σ.set i (some d)) m1
  | .unp t e, σ, m => (evalE C e σ m).toS σ fun d m1 => match bindT m1 t d σ with
    | some σ' => .nx σ' m1
    | none => .no
  | .ex e, σ, m => (evalE C e σ m).toS σ fun _ m1 => .nx σ m1
  | .ret e, σ, m => (evalE C e σ m).toS σ fun d m1 => .rt d m1
  | .retN, _, m => .rt .non m
  | .ifs c a b, σ, m => (evalE C c σ m).toS σ fun d m1 => match d with
    | .bl true => execSs C a σ m1
    | .bl false => execSs C b σ m1
    | _ => .no
  | .whl c b, σ, m => whLoop (evalE C c) (execSs C b) C.fuel σ m
  | .frs tg it b, σ, m => (evalI C it σ m).toS σ fun p m1 => frLoop p.2 tg (execSs C b) p.1 σ m1
  | .brk, σ, m => .bk σ m
  | .cnt, σ, m => .ct σ m
  | .pss, σ, m => .nx σ m
  | .rse c, σ, m => .ex c σ m
  | .try_ b c sl h, σ, m => match execSs C b σ m with
    | .ex e σ1 m1 => if C.sub e c then match sl with
        | none => execSs C h σ1 m1
        | some i => (match execSs C h (σ1.set i (some (.exc e))) m1 with
          | .nx σ2 m2 => .nx (σ2.set i none) m2
          | .bk σ2 m2 => .bk (σ2.set i none) m2
          | .ct σ2 m2 => .ct (σ2.set i none) m2
          | r => r)
      else .ex e σ1 m1
    | r => r
  | .setI a i e, σ, m => (evalE C e σ m).toS σ fun v m1 => (evalE C a σ m1).toS σ fun x m2 => (evalE C i σ m2).toS σ fun k m3 => match storeI x k v m3 with
    | some m4 => .nx σ m4
    | none => .no
  | .setF a f e, σ, m => (evalE C e σ m).toS σ fun v m1 => (evalE C a σ m1).toS σ fun x m2 => match x with
    | .ref n => (match m2[n]? with
      | some (.obj c fs) => if fs.length < 1000 then .nx σ (m2.set n (.obj c (putA f v fs))) else .no
      | _ => .no)
    | _ => .no
  | .ndef i f cs, σ, m => match cs.mapM fun j => (σ[j]?).join with
    | some ds => .nx (σ.set i (some (.clo f ds))) m
    | none => .no
def execSs (C : Ctx) : Ss → Sto → Mem → SR
  | .nil, σ, m => .nx σ m
  | .cons s r, σ, m => (execS C s σ m).seq fun σ' m' => execSs C r σ' m'
end

/-! ### the program -/
inductive Fn where
  | fn (np nl : Nat) (b : Ss)
  /-- the __init__ of a class whose instances are trees: its fields' expressions -/
  | ini (c np nl : Nat) (l : Es)
/-- how a class's instances are made -/
inductive CI where
  | bare | imm (f : Nat) | chg (f : Nat)
  deriving DecidableEq
structure Prog where
  fns : Nat → Option Fn
  cini : Nat → Option CI
  mt : Nat → Nat → Option Nat
  sub : Nat → Nat → Bool
  vale : Nat → Bool
  flds : Nat → List Nat
  fuel : Nat
def fin : SR → Res D
  | .nx _ m => .ok .non m
  | .rt d m => .ok d m
  | .ex c _ m => .ex c m
  | _ => .no
def mk (P : Prog) (call : Nat → List D → Mem → Res D) (c : Nat) (ds : List D) (m : Mem) : Res D := match P.cini c with
  | some .bare => if ds = [] then .ok (.ins c []) m else .no
  | some (.imm f) => (call f ds m).calm
  | some (.chg f) => (call f (.ref m.length :: ds) (m ++ [.obj c []])).calm.bind fun r m1 => if r = .non then .ok (.ref m.length) m1 else .no
  | none => .no
def ctx (P : Prog) (call call' : Nat → List D → Mem → Res D) : Ctx := ⟨call, mk P call', P.mt, P.sub, P.vale, P.flds, P.fuel⟩
def runFn (C : Ctx) (F : Fn) (ds : List D) (m : Mem) : Res D := match F with
  | .fn np nl b => if ds.length = np then fin (execSs C b (start nl ds) m) else .no
  | .ini c np nl l => if ds.length = np then (evalEs C l (none :: start (nl - 1) ds) m).bind fun vs m1 => .ok (.ins c vs) m1 else .no
def call (P : Prog) : Nat → Nat → List D → Mem → Res D
  | 0, _, _, _ => .no
  | 1, f, ds, m => (match P.fns f with
    | some F => runFn (ctx P (fun _ _ _ => .no) (fun _ _ _ => .no)) F ds m
    | none => .no)
  | n + 2, f, ds, m => (match P.fns f with
    | some F => runFn (ctx P (call P (n + 1)) (call P n)) F ds m
    | none => .no)
end FS

namespace FS
open PySem L2

structure Gam where
  cls : Nat → Addr
  fnm : Nat → Str
  kf : Nat → Bool
  flds : Nat → List Nat
  imm : Nat → Bool
  mu : Nat → Bool
  kc : Nat → Bool
  fa : Nat → Addr
  kfn : Nat → Bool
  mn : Nat → Str
  pn : Nat → List Str
def fsOf (G : Gam) (c : Nat) (vs : List V) : List (Str × V) := ((G.flds c).map G.fnm).zip vs
/-- a list that nobody writes: the script -/
def RoL (K : PySem.W.Frag) (as : List Addr) (H : Hp) (p : Addr) (vs : List V) : Prop :=
  (p ∉ as ∧ ∃ o, H p = some (.frz o (.lst vs))) ∨
    ∃ (o : Obj) (its : Array Value) (n : Nat), K.lookup p = some o ∧ o.cls = .type "list" ∧ o.dict = none ∧ o.data = .seq its n ∧ its.size ≤ sizeLine ∧ Vals vs its.toList
theorem RoL.seq {K : PySem.W.Frag} {as : List Addr} {H : Hp} {p : Addr} {vs : List V} (h : RoL K as H p vs) : SqL K H p vs := by
  rcases h with ⟨_, o, h⟩ | h
  · exact .inl (.inr ⟨o, h⟩)
  · exact .inr h
mutual
def Rep (G : Gam) (K : PySem.W.Frag) (as : List Addr) (H : Hp) : D → V → Prop
  | .non, v => v = .non
  | .bl b, v => v = .bl b
  | .int i, v => v = .int i
  | .str s, v => v = .str ⟨s.toArray⟩
  | .tup ds, v => ∃ p vs, v = .ref p ∧ p ∉ as ∧ H p = some (.tup vs) ∧ Reps G K as H ds vs
  | .rol ds, v => ∃ p vs, v = .ref p ∧ RoL K as H p vs ∧ Reps G K as H ds vs
  | .ins c ds, v => ∃ p dx vs, v = .ref p ∧ p ∉ as ∧ G.imm c = true ∧ H p = some (.ins (G.cls c) dx (fsOf G c vs)) ∧ vs.length = (G.flds c).length ∧ Reps G K as H ds vs
  | .ref n, v => ∃ p, v = .ref p ∧ as[n]? = some p
  | .exc _, _ => False
  | .clo _ _, _ => False
def Reps (G : Gam) (K : PySem.W.Frag) (as : List Addr) (H : Hp) : List D → List V → Prop
  | [], vs => vs = []
  | d :: ds, vs => ∃ v r, vs = v :: r ∧ Rep G K as H d v ∧ Reps G K as H ds r
end
section
variable {G : Gam} {K : PySem.W.Frag} {as as' : List Addr} {H H' : Hp}
theorem reps_iff : ∀ {ds : List D} {vs : List V}, Reps G K as H ds vs ↔ vs.length = ds.length ∧ ∀ (i : Nat) (d : D) (v : V), ds[i]? = some d → vs[i]? = some v → Rep G K as H d v
  | [], vs => by
    simp only [Reps]
    constructor
    · rintro rfl
      exact ⟨rfl, fun i d v h => by simp at h⟩
    · rintro ⟨h, _⟩
      simpa using h
  | d :: ds, vs => by
    simp only [Reps]
    constructor
    · rintro ⟨v, r, rfl, h1, h2⟩
      obtain ⟨hl, h2⟩ := reps_iff.mp h2
      refine ⟨by simp [hl], fun i e u he hu => ?_⟩
      cases i with
      | zero => simp at he hu; subst he; subst hu; exact h1
      | succ i => exact h2 i e u (by simpa using he) (by simpa using hu)
    · rintro ⟨hl, h⟩
      cases vs with
      | nil => simp at hl
      | cons v r => exact ⟨v, r, rfl, h 0 d v rfl rfl, reps_iff.mpr ⟨by simpa using hl, fun i e u he hu => h (i + 1) e u (by simpa using he) (by simpa using hu)⟩⟩
theorem Reps.len {ds : List D} {vs : List V} (h : Reps G K as H ds vs) : vs.length = ds.length := (reps_iff.mp h).1
theorem Reps.get {ds : List D} {vs : List V} (h : Reps G K as H ds vs) {i : Nat} {d : D} (e : ds[i]? = some d) : ∃ v, vs[i]? = some v ∧ Rep G K as H d v := by
  obtain ⟨hl, h⟩ := reps_iff.mp h
  have hi : i < vs.length := by rw [hl]; exact (List.getElem?_eq_some_iff.mp e).1
  exact ⟨vs[i], List.getElem?_eq_getElem hi, h i d _ e (List.getElem?_eq_getElem hi)⟩
theorem reps_nil : Reps G K as H [] [] := rfl
theorem reps_cons {d : D} {ds : List D} {v : V} {vs : List V} (h1 : Rep G K as H d v) (h2 : Reps G K as H ds vs) : Reps G K as H (d :: ds) (v :: vs) := ⟨v, vs, rfl, h1, h2⟩
theorem reps_app {ds es : List D} {vs us : List V} (h1 : Reps G K as H ds vs) (h2 : Reps G K as H es us) : Reps G K as H (ds ++ es) (vs ++ us) := by
  induction ds generalizing vs with
  | nil => simp only [Reps] at h1; subst h1; exact h2
  | cons d ds ih =>
    obtain ⟨v, r, rfl, h1, h3⟩ := h1
    exact ⟨v, r ++ us, rfl, h1, ih h3⟩
theorem reps_one {d : D} {v : V} (h : Rep G K as H d v) : Reps G K as H [d] [v] := reps_cons h reps_nil
theorem reps_idx {ds es : List D} {vs us : List V} (h : Reps G K as H ds vs) (hl : us.length = es.length) (hi : ∀ (i : Nat) (d : D), es[i]? = some d → ∃ j : Nat, ds[j]? = some d ∧ vs[j]? = us[i]?) : Reps G K as H es us := by
  obtain ⟨_, h⟩ := reps_iff.mp h
  refine reps_iff.mpr ⟨hl, fun i d v e1 e2 => ?_⟩
  obtain ⟨j, e3, e4⟩ := hi i d e1
  exact h j d v e3 (e4.trans e2)
theorem reps_drop {ds : List D} {vs : List V} (n : Nat) (h : Reps G K as H ds vs) : Reps G K as H (ds.drop n) (vs.drop n) :=
  reps_idx h (by simp [h.len]) fun i d e => ⟨n + i, by simpa using e, by simp⟩
theorem reps_take {ds : List D} {vs : List V} (n : Nat) (h : Reps G K as H ds vs) : Reps G K as H (ds.take n) (vs.take n) :=
  reps_idx h (by simp [h.len]) fun i d e => by
    have hi : i < n := by
      have := (List.getElem?_eq_some_iff.mp e).1
      simp at this
      omega
    exact ⟨i, by rwa [List.getElem?_take_of_lt hi] at e, by rw [List.getElem?_take_of_lt hi]⟩
theorem reps_set {ds : List D} {vs : List V} {n : Nat} {d : D} {v : V} (h : Reps G K as H ds vs) (hd : Rep G K as H d v) : Reps G K as H (ds.set n d) (vs.set n v) := by
  obtain ⟨hl, h⟩ := reps_iff.mp h
  refine reps_iff.mpr ⟨by simp [hl], fun i e u h1 h2 => ?_⟩
  by_cases q : n = i
  · subst q
    have a1 : n < ds.length := by
      have := (List.getElem?_eq_some_iff.mp h1).1
      simpa using this
    rw [List.getElem?_set_self a1] at h1
    rw [List.getElem?_set_self (by omega)] at h2
    cases h1; cases h2
    exact hd
  · rw [List.getElem?_set_ne q] at h1 h2
    exact h i e u h1 h2
theorem reps_rev {ds : List D} {vs : List V} (h : Reps G K as H ds vs) : Reps G K as H ds.reverse vs.reverse := by
  induction ds generalizing vs with
  | nil => simp only [Reps] at h; subst h; exact reps_nil
  | cons d ds ih =>
    obtain ⟨v, r, rfl, h1, h3⟩ := h
    rw [List.reverse_cons, List.reverse_cons]
    exact reps_app (ih h3) (reps_one h1)

/-- new objects may come, what is no mutable object of ours stays -/
structure Grow (as : List Addr) (H : Hp) (as' : List Addr) (H' : Hp) : Prop where
  pre : ∃ t, as' = as ++ t
  new : ∀ p, p ∈ as' → p ∈ as ∨ H p = none
  keep : ∀ p o, H p = some o → p ∉ as → H' p = some o
theorem Grow.refl : Grow as H as H := ⟨⟨[], by simp⟩, fun _ h => .inl h, fun _ _ h _ => h⟩
theorem Grow.trans {as2 : List Addr} {H2 : Hp} (a : Grow as H as' H') (b : Grow as' H' as2 H2) : Grow as H as2 H2 where
  pre := by
    obtain ⟨t, e⟩ := a.pre
    obtain ⟨u, e'⟩ := b.pre
    exact ⟨t ++ u, by rw [e', e, List.append_assoc]⟩
  new := fun p hp => by
    rcases b.new p hp with h | h
    · exact a.new p h
    · cases e : H p with
      | none => exact .inr rfl
      | some o =>
        by_cases hm : p ∈ as
        · exact .inl hm
        · rw [a.keep p o e hm] at h; cases h
  keep := fun p o e hn => by
    refine b.keep p o (a.keep p o e hn) fun hm => ?_
    rcases a.new p hm with h | h
    · exact hn h
    · rw [e] at h; cases h
theorem Grow.notin (g : Grow as H as' H') {p : Addr} {o : HO} (e : H p = some o) (hn : p ∉ as) : p ∉ as' := fun hm => by
  rcases g.new p hm with h | h
  · exact hn h
  · rw [e] at h; cases h
theorem Grow.ix (g : Grow as H as' H') {n : Nat} {p : Addr} (e : as[n]? = some p) : as'[n]? = some p := by
  obtain ⟨t, rfl⟩ := g.pre
  rw [List.getElem?_append_left (List.getElem?_eq_some_iff.mp e).1]
  exact e
theorem RoL.grow {p : Addr} {vs : List V} (h : RoL K as H p vs) (g : Grow as H as' H') : RoL K as' H' p vs := by
  rcases h with ⟨hn, o, h⟩ | h
  · exact .inl ⟨g.notin h hn, o, g.keep _ _ h hn⟩
  · exact .inr h
mutual
theorem Rep.grow (g : Grow as H as' H') : ∀ {d : D} {v : V}, Rep G K as H d v → Rep G K as' H' d v
  | .non, _, h => by simp only [Rep] at h ⊢; exact h
  | .bl _, _, h => by simp only [Rep] at h ⊢; exact h
  | .int _, _, h => by simp only [Rep] at h ⊢; exact h
  | .str _, _, h => by simp only [Rep] at h ⊢; exact h
  | .tup ds, _, h => by
    simp only [Rep] at h ⊢
    obtain ⟨p, vs, e, hn, hp, r⟩ := h
    exact ⟨p, vs, e, g.notin hp hn, g.keep _ _ hp hn, Reps.grow g r⟩
  | .rol ds, _, h => by
    simp only [Rep] at h ⊢
    obtain ⟨p, vs, e, hp, r⟩ := h
    exact ⟨p, vs, e, hp.grow g, Reps.grow g r⟩
  | .ins c ds, _, h => by
    simp only [Rep] at h ⊢
    obtain ⟨p, dx, vs, e, hn, hc, hp, hl, r⟩ := h
    exact ⟨p, dx, vs, e, g.notin hp hn, hc, g.keep _ _ hp hn, hl, Reps.grow g r⟩
  | .ref n, _, h => by
    simp only [Rep] at h ⊢
    obtain ⟨p, e, hp⟩ := h
    exact ⟨p, e, g.ix hp⟩
  | .exc _, _, h => by simp only [Rep] at h
  | .clo _ _, _, h => by simp only [Rep] at h
theorem Reps.grow (g : Grow as H as' H') : ∀ {ds : List D} {vs : List V}, Reps G K as H ds vs → Reps G K as' H' ds vs
  | [], _, h => by simp only [Reps] at h ⊢; exact h
  | d :: ds, _, h => by
    simp only [Reps] at h ⊢
    obtain ⟨v, r, e, h1, h2⟩ := h
    exact ⟨v, r, e, Rep.grow g h1, Reps.grow g h2⟩
end

/-! ### the mutable objects -/
def keyV : D → Option Key
  | .int i => some (.inl i)
  | .str s => some (.inr ⟨s.toArray⟩)
  | _ => none
def keyT : D → Option (List Key)
  | .tup ds => ds.mapM keyV
  | _ => none
def KvsK (G : Gam) (K : PySem.W.Frag) (as : List Addr) (H : Hp) : List (D × D) → List (Key × V) → Prop
  | [], ks => ks = []
  | p :: r, ks => ∃ k v t, ks = (k, v) :: t ∧ keyV p.1 = some k ∧ Rep G K as H p.2 v ∧ KvsK G K as H r t
def KvsT (G : Gam) (K : PySem.W.Frag) (as : List Addr) (H : Hp) : List (D × D) → List (List Key × V) → Prop
  | [], ks => ks = []
  | p :: r, ks => ∃ k v t, ks = (k, v) :: t ∧ keyT p.1 = some k ∧ Rep G K as H p.2 v ∧ KvsT G K as H r t
def Flds (G : Gam) (K : PySem.W.Frag) (as : List Addr) (H : Hp) : List (Nat × D) → List (Str × V) → Prop
  | [], ks => ks = []
  | p :: r, ks => ∃ v t, ks = (G.fnm p.1, v) :: t ∧ G.kf p.1 = true ∧ Rep G K as H p.2 v ∧ Flds G K as H r t
theorem KvsK.grow (g : Grow as H as' H') : ∀ {l : List (D × D)} {ks : List (Key × V)}, KvsK G K as H l ks → KvsK G K as' H' l ks
  | [], _, h => h
  | _ :: _, _, ⟨k, v, t, e, h1, h2, h3⟩ => ⟨k, v, t, e, h1, h2.grow g, KvsK.grow g h3⟩
theorem KvsT.grow (g : Grow as H as' H') : ∀ {l : List (D × D)} {ks : List (List Key × V)}, KvsT G K as H l ks → KvsT G K as' H' l ks
  | [], _, h => h
  | _ :: _, _, ⟨k, v, t, e, h1, h2, h3⟩ => ⟨k, v, t, e, h1, h2.grow g, KvsT.grow g h3⟩
theorem Flds.grow (g : Grow as H as' H') : ∀ {l : List (Nat × D)} {ks : List (Str × V)}, Flds G K as H l ks → Flds G K as' H' l ks
  | [], _, h => h
  | _ :: _, _, ⟨v, t, e, hk, h1, h2⟩ => ⟨v, t, e, hk, h1.grow g, Flds.grow g h2⟩
def MRep (G : Gam) (K : PySem.W.Frag) (as : List Addr) (H : Hp) (p : Addr) : MO → Prop
  | .lst ds => ∃ vs, H p = some (.lst vs) ∧ Reps G K as H ds vs
  | .dct false false kvs => ∃ ks, H p = some (.dK ks) ∧ KvsK G K as H kvs ks
  | .dct true false kvs => ∃ ks, H p = some (.dT ks) ∧ KvsT G K as H kvs ks
  | .dct false true kvs => ∃ ks o, H p = some (.frz o (.dK ks)) ∧ KvsK G K as H kvs ks
  | .dct true true kvs => ∃ ks o, H p = some (.frz o (.dT ks)) ∧ KvsT G K as H kvs ks
  | .obj c fs => ∃ dx vs, G.mu c = true ∧ H p = some (.ins (G.cls c) dx vs) ∧ Flds G K as H fs vs
theorem MRep.some {p : Addr} {mo : MO} (h : MRep G K as H p mo) : ∃ o, H p = some o := by
  cases mo with
  | lst ds => obtain ⟨vs, e, _⟩ := h; exact ⟨_, e⟩
  | obj c fs => obtain ⟨dx, vs, _, e, _⟩ := h; exact ⟨_, e⟩
  | dct t z kvs =>
    cases t <;> cases z
    · obtain ⟨ks, e, _⟩ := h; exact ⟨_, e⟩
    · obtain ⟨ks, o, e, _⟩ := h; exact ⟨_, e⟩
    · obtain ⟨ks, e, _⟩ := h; exact ⟨_, e⟩
    · obtain ⟨ks, o, e, _⟩ := h; exact ⟨_, e⟩
theorem MRep.grow {p : Addr} {mo : MO} (h : MRep G K as H p mo) (g : Grow as H as' H') (e : H' p = H p) : MRep G K as' H' p mo := by
  cases mo with
  | lst ds => obtain ⟨vs, e1, r⟩ := h; exact ⟨vs, e.trans e1, r.grow g⟩
  | obj c fs => obtain ⟨dx, vs, hc, e1, r⟩ := h; exact ⟨dx, vs, hc, e.trans e1, r.grow g⟩
  | dct t z kvs =>
    cases t <;> cases z
    · obtain ⟨ks, e1, r⟩ := h; exact ⟨ks, e.trans e1, r.grow g⟩
    · obtain ⟨ks, o, e1, r⟩ := h; exact ⟨ks, o, e.trans e1, r.grow g⟩
    · obtain ⟨ks, e1, r⟩ := h; exact ⟨ks, e.trans e1, r.grow g⟩
    · obtain ⟨ks, o, e1, r⟩ := h; exact ⟨ks, o, e.trans e1, r.grow g⟩
/-- the functional heap stands for the abstract one -/
structure Rel (G : Gam) (K : PySem.W.Frag) (as : List Addr) (m : Mem) (H : Hp) : Prop where
  len : as.length = m.length
  nd : as.Nodup
  at_ : ∀ (i : Nat) (p : Addr) (mo : MO), as[i]? = some p → m[i]? = some mo → MRep G K as H p mo
variable {m : Mem}
theorem Rel.cell (R : Rel G K as m H) {n : Nat} {mo : MO} (e : m[n]? = some mo) : ∃ p, as[n]? = some p ∧ MRep G K as H p mo := by
  have hn : n < as.length := by rw [R.len]; exact (List.getElem?_eq_some_iff.mp e).1
  exact ⟨as[n], List.getElem?_eq_getElem hn, R.at_ n _ mo (List.getElem?_eq_getElem hn) e⟩
theorem Rel.tracked (R : Rel G K as m H) {p : Addr} (h : p ∈ as) : ∃ o, H p = some o := by
  obtain ⟨i, hi⟩ := List.mem_iff_getElem?.mp h
  have hn : i < m.length := by rw [← R.len]; exact (List.getElem?_eq_some_iff.mp hi).1
  exact (R.at_ i p _ hi (List.getElem?_eq_getElem hn)).some
theorem Rel.fresh (R : Rel G K as m H) {p : Addr} (h : H p = none) : p ∉ as := fun hm => by
  obtain ⟨o, e⟩ := R.tracked hm
  rw [h] at e; cases e
/-- a new object that nobody will change -/
theorem Rel.newI (R : Rel G K as m H) {p : Addr} (h : H p = none) (o : HO) : Grow as H as (upd H p o) ∧ Rel G K as m (upd H p o) ∧ p ∉ as := by
  have g : Grow as H as (upd H p o) := ⟨⟨[], by simp⟩, fun _ h => .inl h, fun q u e _ => by rw [upd_ne (ne_of_none e h)]; exact e⟩
  refine ⟨g, ⟨R.len, R.nd, fun i q mo e1 e2 => ?_⟩, R.fresh h⟩
  have r := R.at_ i q mo e1 e2
  obtain ⟨u, hu⟩ := r.some
  exact r.grow g (upd_ne (ne_of_none hu h))
/-- a new mutable object -/
theorem Rel.newM (R : Rel G K as m H) {p : Addr} (h : H p = none) {o : HO} {mo : MO} (hm : Grow as H (as ++ [p]) (upd H p o) → MRep G K (as ++ [p]) (upd H p o) p mo) :
    Grow as H (as ++ [p]) (upd H p o) ∧ Rel G K (as ++ [p]) (m ++ [mo]) (upd H p o) ∧ (as ++ [p])[m.length]? = some p := by
  have g : Grow as H (as ++ [p]) (upd H p o) := ⟨⟨[p], rfl⟩, fun q hq => by
    rcases List.mem_append.mp hq with h1 | h1
    · exact .inl h1
    · rw [List.mem_singleton.mp h1]; exact .inr h, fun q u e _ => by rw [upd_ne (ne_of_none e h)]; exact e⟩
  have hl : (as ++ [p])[m.length]? = some p := by rw [← R.len, List.getElem?_append_right (Nat.le_refl _)]; simp
  refine ⟨g, ⟨by simp [R.len], ?_, fun i q mo' e1 e2 => ?_⟩, hl⟩
  · rw [List.nodup_append]
    refine ⟨R.nd, by simp, fun a ha b hb => ?_⟩
    rw [List.mem_singleton.mp hb]
    rintro rfl
    exact R.fresh h ha
  · by_cases hi : i < m.length
    · rw [List.getElem?_append_left (by rw [R.len]; exact hi)] at e1
      rw [List.getElem?_append_left hi] at e2
      have r := R.at_ i q mo' e1 e2
      obtain ⟨u, hu⟩ := r.some
      exact r.grow g (upd_ne (ne_of_none hu h))
    · have e : i = m.length := by
        have := (List.getElem?_eq_some_iff.mp e2).1
        simp at this
        omega
      subst e
      rw [hl] at e1
      rw [List.getElem?_append_right (Nat.le_refl _)] at e2
      simp at e2
      cases e1
      subst e2
      exact hm g
/-- a mutable object is changed -/
theorem Rel.put (R : Rel G K as m H) {n : Nat} {p : Addr} (h : as[n]? = some p) {o : HO} {mo : MO} (hm : Grow as H as (upd H p o) → MRep G K as (upd H p o) p mo) :
    Grow as H as (upd H p o) ∧ Rel G K as (m.set n mo) (upd H p o) := by
  have hp : p ∈ as := List.mem_of_getElem? h
  have g : Grow as H as (upd H p o) := ⟨⟨[], by simp⟩, fun _ h => .inl h, fun q u e hn => by rw [upd_ne (fun z : q = p => hn (by rw [z]; exact hp))]; exact e⟩
  refine ⟨g, ⟨by simp [R.len], R.nd, fun i q mo' e1 e2 => ?_⟩⟩
  by_cases hi : i = n
  · subst hi
    rw [h] at e1
    cases e1
    have hl : i < m.length := by rw [← R.len]; exact (List.getElem?_eq_some_iff.mp h).1
    rw [List.getElem?_set_self hl] at e2
    cases e2
    exact hm g
  · rw [List.getElem?_set_ne (Ne.symm hi)] at e2
    have hq : q ≠ p := fun z => by
      subst z
      exact hi (nd_ix R.nd e1 h)
    exact (R.at_ i q mo' e1 e2).grow g (upd_ne hq)

/-! ### what comes of a run -/
def Out (G : Gam) (K : PySem.W.Frag) (Ex : Nat → Hp → Prop) (as : List Addr) (H : Hp) {α : Type} (r : Res α) (k : α → List Addr → Mem → Hp → Prop) : Prop := match r with
  | .ok a m => ∀ as' H', Rel G K as' m H' → Grow as H as' H' → k a as' m H'
  | .ex c m => ∀ as' H', Rel G K as' m H' → Grow as H as' H' → Ex c H'
  | .no => False
variable {Ex : Nat → Hp → Prop} {α β : Type}
theorem Out.bind {r : Res α} {f : α → Mem → Res β} {k : β → List Addr → Mem → Hp → Prop} (h : Out G K Ex as H (r.bind f) k) :
    Out G K Ex as H r fun a as' m' H' => Out G K Ex as' H' (f a m') k := by
  cases r with
  | ok a m1 =>
    intro as1 H1 R1 g1
    have h : Out G K Ex as H (f a m1) k := h
    show Out G K Ex as1 H1 (f a m1) k
    cases e : f a m1 with
    | ok b m2 => rw [e] at h; exact fun as2 H2 R2 g2 => h as2 H2 R2 (g1.trans g2)
    | ex c m2 => rw [e] at h; exact fun as2 H2 R2 g2 => h as2 H2 R2 (g1.trans g2)
    | no => rw [e] at h; exact h
  | ex c m1 => exact h
  | no => exact h
theorem Out.imp {r : Res α} {k k' : α → List Addr → Mem → Hp → Prop} (h : Out G K Ex as H r k) (hk : ∀ a as' m' H', Rel G K as' m' H' → Grow as H as' H' → k a as' m' H' → k' a as' m' H') : Out G K Ex as H r k' := by
  cases r with
  | ok a m1 => exact fun as1 H1 R1 g1 => hk _ _ _ _ R1 g1 (h as1 H1 R1 g1)
  | ex c m1 => exact h
  | no => exact h
theorem Out.impE {r : Res α} {k k' : α → List Addr → Mem → Hp → Prop} (h : Out G K Ex as H r k) (hk : ∀ a as' m' H', r = .ok a m' → Rel G K as' m' H' → Grow as H as' H' → k a as' m' H' → k' a as' m' H') : Out G K Ex as H r k' := by
  cases r with
  | ok a m1 => exact fun as1 H1 R1 g1 => hk _ _ _ _ rfl R1 g1 (h as1 H1 R1 g1)
  | ex c m1 => exact h
  | no => exact h
/-- told from a later state -/
theorem Out.later {r : Res α} {k : α → List Addr → Mem → Hp → Prop} (h : Out G K Ex as H r k) (g : Grow as H as' H') : Out G K Ex as' H' r k := by
  cases r with
  | ok a m1 => exact fun as1 H1 R1 g1 => h as1 H1 R1 (g.trans g1)
  | ex c m1 => exact fun as1 H1 R1 g1 => h as1 H1 R1 (g.trans g1)
  | no => exact h
theorem Out.here {a : α} {k : α → List Addr → Mem → Hp → Prop} (R : Rel G K as m H) (h : Out G K Ex as H (.ok a m) k) : k a as m H := h as H R Grow.refl
/-- the names' values -/
structure St2 (G : Gam) (K : PySem.W.Frag) (as : List Addr) (H : Hp) (δ : Sto) (σ : L2.St) : Prop where
  len : δ.length = σ.length
  at_ : ∀ (i : Nat) (d : D), δ[i]? = some (some d) → ∃ v, σ[i]? = some (some v) ∧ Rep G K as H d v
theorem St2.grow {δ : Sto} {σ : L2.St} (h : St2 G K as H δ σ) (g : Grow as H as' H') : St2 G K as' H' δ σ := ⟨h.len, fun i d e => by
  obtain ⟨v, h1, h2⟩ := h.at_ i d e
  exact ⟨v, h1, h2.grow g⟩⟩
theorem St2.set {δ : Sto} {σ : L2.St} (h : St2 G K as H δ σ) (i : Nat) {d : D} {v : V} (r : Rep G K as H d v) : St2 G K as H (δ.set i (some d)) (σ.set i (some v)) := ⟨by simp [h.len], fun j e hj => by
  by_cases q : i = j
  · subst q
    have hl : i < δ.length := by
      have := (List.getElem?_eq_some_iff.mp hj).1
      simpa using this
    rw [List.getElem?_set_self hl] at hj
    cases hj
    exact ⟨v, List.getElem?_set_self (by rw [← h.len]; exact hl), r⟩
  · rw [List.getElem?_set_ne q] at hj
    obtain ⟨u, h1, h2⟩ := h.at_ j e hj
    exact ⟨u, by rw [List.getElem?_set_ne q]; exact h1, h2⟩⟩
theorem St2.unset {δ : Sto} {σ : L2.St} (h : St2 G K as H δ σ) (i : Nat) (o : Option V) : St2 G K as H (δ.set i none) (σ.set i o) := ⟨by simp [h.len], fun j e hj => by
  by_cases q : i = j
  · subst q
    have hl : i < δ.length := by
      have := (List.getElem?_eq_some_iff.mp hj).1
      simpa using this
    rw [List.getElem?_set_self hl] at hj
    cases hj
  · rw [List.getElem?_set_ne q] at hj
    obtain ⟨u, h1, h2⟩ := h.at_ j e hj
    exact ⟨u, by rw [List.getElem?_set_ne q]; exact h1, h2⟩⟩
end
end FS

namespace FS
open PySem L2

/-- an expression's reading by what it evaluates to -/
def rdE (G : Gam) (K : PySem.W.Frag) (W : WX) (f : Sto → Mem → Res D) : TE := fun σ H Q => ∃ as m δ, Rel G K as m H ∧ St2 G K as H δ σ ∧
  Out G K (fun c H' => W (.ref (G.cls c)) none σ H') as H (f δ m) fun d as' m' H' => ∀ v, Rep G K as' H' d v → Q v H'
def rdA (G : Gam) (K : PySem.W.Frag) (W : WX) (f : Sto → Mem → Res (List D)) : TA := fun σ H Q => ∃ as m δ, Rel G K as m H ∧ St2 G K as H δ σ ∧
  Out G K (fun c H' => W (.ref (G.cls c)) none σ H') as H (f δ m) fun ds as' m' H' => ∀ vs, Reps G K as' H' ds vs → Q vs H'
/-- a test's -/
def rdT (G : Gam) (K : PySem.W.Frag) (W : WX) (f : Sto → Mem → Res D) : TT := fun σ H Q => ∃ as m δ, Rel G K as m H ∧ St2 G K as H δ σ ∧
  Out G K (fun c H' => W (.ref (G.cls c)) none σ H') as H (f δ m) fun d as' m' H' => ∃ b, d = .bl b ∧ Q b H'
theorem pe_imp {X : Cx} {e : Expr} {t t' : TE} (h : PE X e t) (hi : ∀ σ H Q, t' σ H Q → t σ H Q) : PE X e t' := ⟨fun pins s σ H Q I q => h.run pins s σ H Q I (hi σ H Q q)⟩
theorem pt_imp {X : Cx} {e : Expr} {t t' : TT} (h : PT X e t) (hi : ∀ σ H Q, t' σ H Q → t σ H Q) : PT X e t' := ⟨fun pins s σ H Q I q => h.run pins s σ H Q I (hi σ H Q q)⟩
theorem pw_imp {X : Cx} {e : Expr} {t t' : TT} (h : PW X e t) (hi : ∀ σ H Q, t' σ H Q → t σ H Q) : PW X e t' := ⟨fun wh pins s σ H Q I q => h.run wh pins s σ H Q I (hi σ H Q q)⟩
theorem pa_imp {X : Cx} {e : List Expr} {t t' : TA} (h : PA X e t) (hi : ∀ σ H Q, t' σ H Q → t σ H Q) : PA X e t' := ⟨fun pos pins s σ H Q I q => h.run pos pins s σ H Q I (hi σ H Q q)⟩
theorem ps_imp {X : Cx} {e : Stmt} {t t' : TS} (h : PS X e t) (hi : ∀ D σ H, t' D σ H → t D σ H) : PS X e t' := ⟨fun pins s σ H D I q => h.run pins s σ H D I (hi D σ H q)⟩
theorem pss_imp {X : Cx} {e : List Stmt} {t t' : TS} (h : PSs X e t) (hi : ∀ D σ H, t' D σ H → t D σ H) : PSs X e t' := ⟨fun pins s σ H D I q => h.run pins s σ H D I (hi D σ H q)⟩
theorem pe_orr {X : Cx} {e : Expr} {t t' : TE} (h : PE X e t) (h' : PE X e t') : PE X e (fun σ H Q => t σ H Q ∨ t' σ H Q) := ⟨fun pins s σ H Q I q => q.elim (h.run pins s σ H Q I) (h'.run pins s σ H Q I)⟩
section
variable {G : Gam} {X : Cx} {W : WX} {e a b c : Expr} {pos : Pos} {f g h : Sto → Mem → Res D} {fs : Sto → Mem → Res (List D)} {m : Mem} {as : List Addr} {H : Hp} {σ : L2.St} {δ : Sto}
/-- from one part to the next -/
theorem rdE.to {Q : VK} {k : D → Mem → Res D} (q : rdE G X.K W (fun δ m => (f δ m).bind fun x m1 => k x m1) σ H Q) :
    rdE G X.K W f σ H fun v H1 => ∃ as m d, Rel G X.K as m H1 ∧ Rep G X.K as H1 d v ∧ Out G X.K (fun c H' => W (.ref (G.cls c)) none σ H') as H1 (k d m) fun d as' m' H' => ∀ v, Rep G X.K as' H' d v → Q v H' := by
  obtain ⟨as, m, δ, R, S, o⟩ := q
  exact ⟨as, m, δ, R, S, o.bind.imp fun d as' m' H' R' g' o' v r => ⟨as', m', d, R', r, o'⟩⟩
theorem rdE.two {Q : VK} {k : D → D → Mem → Res D} (q : rdE G X.K W (fun δ m => (f δ m).bind fun x m1 => (g δ m1).bind fun y m2 => k x y m2) σ H Q) :
    rdE G X.K W f σ H fun v H1 => rdE G X.K W g σ H1 fun u H2 => ∃ as m d d', Rel G X.K as m H2 ∧ Rep G X.K as H2 d v ∧ Rep G X.K as H2 d' u ∧
      Out G X.K (fun c H' => W (.ref (G.cls c)) none σ H') as H2 (k d d' m) fun d as' m' H' => ∀ v, Rep G X.K as' H' d v → Q v H' := by
  obtain ⟨as, m, δ, R, S, o⟩ := q
  refine ⟨as, m, δ, R, S, o.bind.imp fun d as' m' H' R' g' o' v r => ⟨as', m', δ, R', S.grow g', o'.bind.imp fun d2 as2 m2 H2 R2 g2 o2 u r2 => ⟨as2, m2, d, d2, R2, r.grow g2, r2, o2⟩⟩⟩
theorem rdE.args {Q : VK} {k : List D → Mem → Res D} (q : rdE G X.K W (fun δ m => (fs δ m).bind fun x m1 => k x m1) σ H Q) :
    rdA G X.K W fs σ H fun vs H1 => ∃ as m ds, Rel G X.K as m H1 ∧ Reps G X.K as H1 ds vs ∧ Out G X.K (fun c H' => W (.ref (G.cls c)) none σ H') as H1 (k ds m) fun d as' m' H' => ∀ v, Rep G X.K as' H' d v → Q v H' := by
  obtain ⟨as, m, δ, R, S, o⟩ := q
  exact ⟨as, m, δ, R, S, o.bind.imp fun d as' m' H' R' g' o' v r => ⟨as', m', d, R', r, o'⟩⟩

/-! ### names, constants -/
theorem es_var (i : Nat) {x : Str} {pos : Pos} (hN : X.N[i]? = some x := by rfl) (hv : Vis X.env.scope x := by first | exact Or.inl rfl | exact Or.inr (Or.inl rfl) | exact Or.inr (Or.inr rfl)) (hd : (x == ("__debug__" : Str)) = false := by decide)
    (hcd : (x == ("__classdict__" : Str)) = false := by decide) {C : Ctx} : PE X (.Name x pos) (rdE G X.K W (evalE C (.var i))) :=
  pe_imp (pe_var hN hv hd hcd) fun σ H Q ⟨as, m, δ, R, S, o⟩ => by
    simp only [evalE] at o
    cases e : δ[i]? with
    | none => rw [e] at o; exact o.elim
    | some u =>
      rw [e] at o
      cases u with
      | none => exact o.elim
      | some d =>
        obtain ⟨v, h1, h2⟩ := S.at_ i d e
        exact ⟨v, h1, Out.here R o v h2⟩
theorem cst_of {C : Ctx} {d : D} {v : V} (h : PE X e (tC v)) (hr : ∀ as H, Rep G X.K as H d v) : PE X e (rdE G X.K W (evalE C (.cst d))) :=
  pe_imp h fun σ H Q ⟨as, m, δ, R, S, o⟩ => Out.here R o v (hr as H)
variable {C : Ctx}
theorem es_int {i : Int} {j : Nat} : PE X (.Constant (.int i) j pos) (rdE G X.K W (evalE C (.cst (.int i)))) := cst_of pe_int fun _ _ => rfl
theorem es_bl {k : Bool} {j : Nat} : PE X (.Constant (.bool k) j pos) (rdE G X.K W (evalE C (.cst (.bl k)))) := cst_of pe_bl fun _ _ => rfl
theorem es_non {j : Nat} : PE X (.Constant .none j pos) (rdE G X.K W (evalE C (.cst .non))) := cst_of pe_non fun _ _ => rfl
theorem es_str {x : Str} {l : List Nat} {j : Nat} (h : x = ⟨l.toArray⟩) : PE X (.Constant (.str x) j pos) (rdE G X.K W (evalE C (.cst (.str l)))) := cst_of pe_str fun _ _ => by simp only [Rep]; rw [h]
theorem es_gstr {x z : Str} {l : List Nat} (hg : Gl X x) (hm : ∃ t, X.mg x = some (.str z t)) (h : z = ⟨l.toArray⟩) (hd : (x == ("__debug__" : Str)) = false := by decide) : PE X (.Name x pos) (rdE G X.K W (evalE C (.cst (.str l)))) := by
  obtain ⟨t, hm⟩ := hm
  exact cst_of (pe_glob (v := .str z) hg hm ⟨t, rfl⟩ hd) fun _ _ => by simp only [Rep]; rw [h]
theorem es_gint {x : Str} {i : Int} (hg : Gl X x) (hm : ∃ t, X.mg x = some (.int i t)) (hd : (x == ("__debug__" : Str)) = false := by decide) : PE X (.Name x pos) (rdE G X.K W (evalE C (.cst (.int i)))) := by
  obtain ⟨t, hm⟩ := hm
  exact cst_of (pe_glob (v := .int i) hg hm ⟨t, rfl⟩ hd) fun _ _ => rfl

/-! ### operators -/
theorem line_eq : sizeLine = LIM := sizeLine_eq
/-- what a rule of an operator must take -/
def OpOk (G : Gam) (K : PySem.W.Frag) (op : D → D → Mem → Res D) (r : R2) : Prop := ∀ (Ex : Nat → Hp → Prop) (as : List Addr) (m : Mem) (H : Hp) (d d' : D) (x y : V) (Q : VK), Rel G K as m H → Rep G K as H d x → Rep G K as H d' y →
  Out G K Ex as H (op d d' m) (fun d as' m' H' => ∀ v, Rep G K as' H' d v → Q v H') → r x y H Q
theorem es_op2 {o : O2} {op : Operator} {r : R2} (hop : OpR X (binaryOp op) r) (hr : OpOk G X.K (op2 o) r) {ea eb : E} (ha : PE X a (rdE G X.K W (evalE C ea))) (hb : PE X b (rdE G X.K W (evalE C eb))) :
    PE X (.BinOp a op b pos) (rdE G X.K W (evalE C (.op o ea eb))) :=
  pe_imp (pe_op hop ha hb) fun σ H Q q => by
    obtain ⟨as, m, δ, R, S, o⟩ := rdE.two q
    exact ⟨as, m, δ, R, S, o.imp fun d as' m' H' R' g' k v r => by
      obtain ⟨as2, m2, δ2, R2, S2, o2⟩ := k v r
      exact ⟨as2, m2, δ2, R2, S2, o2.imp fun d2 as3 m3 H3 R3 g3 k2 u r2 => by
        obtain ⟨as4, m4, d4, d5, R4, r4, r5, o4⟩ := k2 u r2
        exact hr _ as4 m4 H3 d4 d5 v u Q R4 r4 r5 o4⟩⟩
end
end FS

namespace FS
open PySem L2
theorem str_app (s t : List Nat) : ((⟨s.toArray⟩ : Str) ++ (⟨t.toArray⟩ : Str)) = ⟨(s ++ t).toArray⟩ := by
  show Str.mk _ = _
  simp
theorem str_len (s : List Nat) : (⟨s.toArray⟩ : Str).length = s.length := by
  show Array.size _ = _
  simp
theorem str_inj {s t : List Nat} (h : (⟨s.toArray⟩ : Str) = ⟨t.toArray⟩) : s = t := by
  injection h with h
  simpa using h
section
variable {G : Gam} {X : Cx} {W : WX} {e a b c : Expr} {pos : Pos} {f g h : Sto → Mem → Res D} {fs : Sto → Mem → Res (List D)} {m : Mem} {as : List Addr} {H : Hp} {σ : L2.St} {δ : Sto} {K : PySem.W.Frag} {C : Ctx}
theorem rdE.imp {Q Q' : VK} (q : rdE G K W f σ H Q) (k : ∀ v H', Q v H' → Q' v H') : rdE G K W f σ H Q' := by
  obtain ⟨as, m, δ, R, S, o⟩ := q
  exact ⟨as, m, δ, R, S, o.imp fun d as' m' H' R' g' o' v r => k _ _ (o' v r)⟩
theorem rdA.imp {Q Q' : List V → Hp → Prop} (q : rdA G K W fs σ H Q) (k : ∀ v H', Q v H' → Q' v H') : rdA G K W fs σ H Q' := by
  obtain ⟨as, m, δ, R, S, o⟩ := q
  exact ⟨as, m, δ, R, S, o.imp fun d as' m' H' R' g' o' v r => k _ _ (o' v r)⟩
/-- what an int, a text, .. stands for -/
theorem rep_int {i : Int} {v : V} (h : Rep G K as H (.int i) v) : v = .int i := by simpa only [Rep] using h
theorem rep_bl {i : Bool} {v : V} (h : Rep G K as H (.bl i) v) : v = .bl i := by simpa only [Rep] using h
theorem rep_non {v : V} (h : Rep G K as H .non v) : v = .non := by simpa only [Rep] using h
theorem rep_str {s : List Nat} {v : V} (h : Rep G K as H (.str s) v) : v = .str ⟨s.toArray⟩ := by simpa only [Rep] using h
theorem rep_ref {n : Nat} {v : V} (h : Rep G K as H (.ref n) v) : ∃ p, v = .ref p ∧ as[n]? = some p := by simpa only [Rep] using h
theorem rep_tup {ds : List D} {v : V} (h : Rep G K as H (.tup ds) v) : ∃ p vs, v = .ref p ∧ p ∉ as ∧ H p = some (.tup vs) ∧ Reps G K as H ds vs := by simpa only [Rep] using h
theorem rep_rol {ds : List D} {v : V} (h : Rep G K as H (.rol ds) v) : ∃ p vs, v = .ref p ∧ RoL K as H p vs ∧ Reps G K as H ds vs := by simpa only [Rep] using h
theorem rep_ins {c : Nat} {ds : List D} {v : V} (h : Rep G K as H (.ins c ds) v) : ∃ p dx vs, v = .ref p ∧ p ∉ as ∧ G.imm c = true ∧ H p = some (.ins (G.cls c) dx (fsOf G c vs)) ∧ vs.length = (G.flds c).length ∧ Reps G K as H ds vs := by simpa only [Rep] using h
theorem Rel.lst (R : Rel G K as m H) {n : Nat} {p : Addr} {ds : List D} (hp : as[n]? = some p) (h : m[n]? = some (.lst ds)) : ∃ vs, H p = some (.lst vs) ∧ Reps G K as H ds vs := R.at_ n p _ hp h
theorem rdL_some {n : Nat} {ds : List D} (h : rdL m n = some ds) : m[n]? = some (.lst ds) := by
  unfold rdL at h
  split at h
  · rename_i e; cases h; exact e
  · cases h
/-- a list's items, whatever list it is -/
theorem seq_of (R : Rel G K as m H) {d : D} {ds : List D} {v : V} (r : Rep G K as H d v) (h : seqL m d = some ds) : ∃ p vs, v = .ref p ∧ SqL K H p vs ∧ Reps G K as H ds vs := by
  cases d with
  | ref n =>
    obtain ⟨p, rfl, hp⟩ := rep_ref r
    obtain ⟨vs, h1, h2⟩ := R.lst hp (rdL_some h)
    exact ⟨p, vs, rfl, SqL.of h1, h2⟩
  | rol l =>
    obtain ⟨p, vs, rfl, h1, h2⟩ := rep_rol r
    cases h
    exact ⟨p, vs, rfl, h1.seq, h2⟩
  | _ => cases h
variable {Ex : Nat → Hp → Prop} {Q : VK}
/-- the end of a rule whose answer is flat -/
theorem fin_d {d : D} {v : V} (R : Rel G K as m H) (o : Out G K Ex as H (.ok d m) fun d as' m' H' => ∀ v, Rep G K as' H' d v → Q v H') (r : Rep G K as H d v) : Q v H := Out.here R o v r
/-- .. is a new list -/
theorem fin_l {ds : List D} {vs : List V} (R : Rel G K as m H) (o : Out G K Ex as H (.ok (.ref m.length) (m ++ [.lst ds])) fun d as' m' H' => ∀ v, Rep G K as' H' d v → Q v H') (r : Reps G K as H ds vs) :
    ∀ p, H p = none → Q (.ref p) (upd H p (.lst vs)) := fun p hp => by
  obtain ⟨g, R', hi⟩ := R.newM (mo := .lst ds) hp (fun g => ⟨vs, upd_same, r.grow g⟩)
  exact o _ _ R' g _ (by simp only [Rep]; exact ⟨p, rfl, hi⟩)
/-- .. is a new tuple -/
theorem fin_t {ds : List D} {vs : List V} (R : Rel G K as m H) (o : Out G K Ex as H (.ok (.tup ds) m) fun d as' m' H' => ∀ v, Rep G K as' H' d v → Q v H') (r : Reps G K as H ds vs) :
    ∀ p, H p = none → Q (.ref p) (upd H p (.tup vs)) := fun p hp => by
  obtain ⟨g, R', hn⟩ := R.newI hp (.tup vs)
  exact o _ _ R' g _ (by simp only [Rep]; exact ⟨p, vs, rfl, hn, upd_same, r.grow g⟩)

/-! ### two places, by values -/
theorem ok_int {o : D → D → Mem → Res D} {Cc : Int → Int → Prop} {gI : Int → Int → Int} (ho : ∀ i j m d, d = .int (gI i j) → (o (.int i) (.int j) m = .ok d m ∧ Cc i j) ∨ o (.int i) (.int j) m = .no) (hn : ∀ d d' m, (∀ i j, ¬ (d = .int i ∧ d' = .int j)) → o d d' m = .no) :
    OpOk G K o (rI Cc fun i j => .int (gI i j)) := by
  intro Ex as m H d d' x y Q R r1 r2 q
  by_cases hh : ∃ i j, d = .int i ∧ d' = .int j
  · obtain ⟨i, j, rfl, rfl⟩ := hh
    cases rep_int r1
    cases rep_int r2
    rcases ho i j m _ rfl with ⟨e, hc⟩ | e
    · rw [e] at q
      exact ⟨i, j, rfl, rfl, hc, fin_d R q (by simp only [Rep])⟩
    · rw [e] at q; exact q.elim
  · rw [hn d d' m fun i j z => hh ⟨i, j, z⟩] at q
    exact q.elim
theorem no2 (o : O2) (hn : o ≠ .add) (hm : o ≠ .mul) (d d' : D) (m : Mem) (h : ∀ i j, ¬ (d = .int i ∧ d' = .int j)) : op2 o d d' m = .no := by
  cases o <;> first | exact absurd rfl hn | exact absurd rfl hm | (cases d <;> cases d' <;> first | rfl | exact absurd ⟨rfl, rfl⟩ (h _ _))
theorem ok_sub : OpOk G K (op2 .sub) (rI (fun _ _ => True) fun i j => .int (i - j)) := ok_int (fun i j m d e => .inl ⟨by subst e; rfl, trivial⟩) (no2 .sub (by decide) (by decide))
theorem ok_fdiv : OpOk G K (op2 .fdiv) (rI CDiv fun i j => .int (i / j)) := ok_int (fun i j m d e => by
  subst e
  by_cases h : 0 < j ∧ j < 1073741824
  · exact .inl ⟨by simp [op2, h], h⟩
  · exact .inr (by simp [op2, h])) (no2 .fdiv (by decide) (by decide))
theorem ok_mod : OpOk G K (op2 .mod) (rI (fun _ j => 0 < j) fun i j => .int (i % j)) := ok_int (fun i j m d e => by
  subst e
  by_cases h : 0 < j
  · exact .inl ⟨by simp [op2, h], h⟩
  · exact .inr (by simp [op2, h])) (no2 .mod (by decide) (by decide))
theorem ok_pow : OpOk G K (op2 .pow) (rI CPow fun i j => .int (i ^ j.toNat)) := ok_int (fun i j m d e => by
  subst e
  by_cases h : 0 ≤ j ∧ j ≤ 1000000 ∧ i.natAbs < 18446744073709551616
  · exact .inl ⟨by simp [op2, h], h⟩
  · exact .inr (by simp [op2, h])) (no2 .pow (by decide) (by decide))
theorem ok_shl : OpOk G K (op2 .shl) (rI CPow fun i j => .int (i * 2 ^ j.toNat)) := ok_int (fun i j m d e => by
  subst e
  by_cases h : 0 ≤ j ∧ j ≤ 1000000 ∧ i.natAbs < 18446744073709551616
  · exact .inl ⟨by simp [op2, h], h⟩
  · exact .inr (by simp [op2, h])) (no2 .shl (by decide) (by decide))
theorem ok_shr : OpOk G K (op2 .shr) (rI (fun _ j => 0 ≤ j) fun i j => .int (i / 2 ^ j.toNat)) := ok_int (fun i j m d e => by
  subst e
  by_cases h : 0 ≤ j
  · exact .inl ⟨by simp [op2, h], h⟩
  · exact .inr (by simp [op2, h])) (no2 .shr (by decide) (by decide))
theorem bAnd_eq {x y z : Int} (h : bAnd x y = some z) : Builtin.bitAnd x y = z := by
  unfold bAnd at h
  unfold Builtin.bitAnd
  by_cases hx : 0 ≤ x <;> by_cases hy : 0 ≤ y <;> simp only [hx, hy, if_true, if_false, decide_true, decide_false, Option.some.injEq, reduceCtorEq] at h ⊢ <;> exact h
theorem ok_band : OpOk G K (op2 .band) (rI (fun i j => ∃ z, bAnd i j = some z) fun i j => .int (Builtin.bitAnd i j)) := ok_int (fun i j m d e => by
  subst e
  cases h : bAnd i j with
  | none => exact .inr (by simp [op2, h])
  | some z => exact .inl ⟨by simp [op2, h, bAnd_eq h], z, rfl⟩) (no2 .band (by decide) (by decide))
theorem ok_bor : OpOk G K (op2 .bor) (rI (fun i j => 0 ≤ i ∧ 0 ≤ j) fun i j => .int (Builtin.bitOr i j)) := ok_int (fun i j m d e => by
  subst e
  by_cases h : 0 ≤ i ∧ 0 ≤ j
  · exact .inl ⟨by simp [op2, h, Bits.bitOr_pp h.1 h.2], h⟩
  · exact .inr (by simp [op2, h])) (no2 .bor (by decide) (by decide))
theorem ok_bxor : OpOk G K (op2 .bxor) (rI (fun i j => 0 ≤ i ∧ 0 ≤ j) fun i j => .int (Builtin.bitXor i j)) := ok_int (fun i j m d e => by
  subst e
  by_cases h : 0 ≤ i ∧ 0 ≤ j
  · exact .inl ⟨by simp [op2, h, Bits.bitXor_pp h.1 h.2], h⟩
  · exact .inr (by simp [op2, h])) (no2 .bxor (by decide) (by decide))
/-- a rule under more conditions -/
theorem opr_imp {X : Cx} {f : Value → Value → Sem Value} {r r' : R2} (h : OpR X f r) (hi : ∀ x y H Q, r' x y H Q → r x y H Q) : OpR X f r' := fun pins s σ H x y v u Q I rx ry q => h pins s σ H x y v u Q I rx ry (hi _ _ _ _ q)
theorem opr_I0 {X : Cx} {f : Value → Value → Sem Value} {g : Int → Int → V} {Cc : Int → Int → Prop} (h : OpR X f (rI0 g)) : OpR X f (rI Cc g) := opr_imp h fun x y H Q ⟨i, j, e1, e2, _, q⟩ => ⟨i, j, e1, e2, q⟩
theorem ok_add : OpOk G K (op2 .add) (fun x y H Q => rI0 (fun i j => .int (i + j)) x y H Q ∨ (∃ i j, x = .str i ∧ y = .str j ∧ i.length + j.length ≤ sizeLine ∧ Q (.str (i ++ j)) H) ∨ rCat x y H Q) := by
  intro Ex as m H d d' x y Q R r1 r2 q
  cases d <;> cases d' <;> first
    | exact (show False from q).elim
    | skip
  · cases rep_int r1
    cases rep_int r2
    exact .inl ⟨_, _, rfl, rfl, fin_d R q (by simp only [Rep])⟩
  · rename_i s t
    cases rep_str r1
    cases rep_str r2
    by_cases h : s.length + t.length ≤ LIM
    · simp only [op2, h, if_true] at q
      refine .inr (.inl ⟨_, _, rfl, rfl, by rw [str_len, str_len, line_eq]; exact h, fin_d R q (by simp only [Rep]; rw [str_app])⟩)
    · simp only [op2, h, if_false] at q
      exact q.elim
  · rename_i n k
    obtain ⟨p, rfl, hp⟩ := rep_ref r1
    obtain ⟨p', rfl, hp'⟩ := rep_ref r2
    simp only [op2] at q
    cases e1 : rdL m n with
    | none => rw [e1] at q; exact q.elim
    | some ds =>
      cases e2 : rdL m k with
      | none => rw [e1, e2] at q; exact q.elim
      | some es =>
        rw [e1, e2] at q
        simp only at q
        obtain ⟨vs, h1, h2⟩ := R.lst hp (rdL_some e1)
        obtain ⟨us, h3, h4⟩ := R.lst hp' (rdL_some e2)
        by_cases h : ds.length + es.length ≤ LIM
        · rw [if_pos h] at q
          exact .inr (.inr ⟨p, p', vs, us, rfl, rfl, h1, h3, by rw [h2.len, h4.len, line_eq]; exact h, fin_l R q (reps_app h2 h4)⟩)
        · rw [if_neg h] at q; exact q.elim
theorem flat_len {α : Type} (k : Nat) (l : List α) : (List.replicate k l).flatten.length = k * l.length := by simp
theorem reps_rep {ds : List D} {vs : List V} (k : Nat) (h : Reps G K as H ds vs) : Reps G K as H (List.replicate k ds).flatten (List.replicate k vs).flatten := by
  induction k with
  | zero => exact reps_nil
  | succ k ih => rw [List.replicate_succ, List.replicate_succ, List.flatten_cons, List.flatten_cons]; exact reps_app h ih
theorem small_of {i : Int} (h : small i = true) : -(2 ^ 64) < i ∧ i < 2 ^ 64 := by
  unfold small at h
  simp only [Bool.and_eq_true, decide_eq_true_eq] at h
  exact ⟨by have := h.1; omega, by have := h.2; omega⟩
theorem ok_mul : OpOk G K (op2 .mul) (fun x y H Q => rI CMul (fun i j => .int (i * j)) x y H Q ∨ rRep x y H Q) := by
  intro Ex as m H d d' x y Q R r1 r2 q
  cases d <;> cases d' <;> first
    | exact (show False from q).elim
    | skip
  · rename_i i j
    cases rep_int r1
    cases rep_int r2
    simp only [op2] at q
    by_cases h : (small i || small j) = true
    · rw [if_pos h] at q
      refine .inl ⟨_, _, rfl, rfl, ?_, fin_d R q (by simp only [Rep])⟩
      rcases Bool.or_eq_true_iff.mp h with h | h
      · exact .inl (small_of h)
      · exact .inr (small_of h)
    · rw [if_neg h] at q; exact q.elim
  · rename_i n k
    obtain ⟨p, rfl, hp⟩ := rep_ref r1
    cases rep_int r2
    simp only [op2] at q
    cases e1 : rdL m n with
    | none => rw [e1] at q; exact q.elim
    | some ds =>
      rw [e1] at q
      simp only at q
      obtain ⟨vs, h1, h2⟩ := R.lst hp (rdL_some e1)
      by_cases h : -9223372036854775808 ≤ k ∧ k < 9223372036854775808 ∧ ds.length * k.toNat ≤ LIM
      · rw [if_pos h] at q
        exact .inr (⟨p, k, vs, rfl, rfl, h1, by have := h.1; omega, by have := h.2.1; omega, by rw [h2.len, line_eq]; exact h.2.2, fin_l R q (reps_rep _ h2)⟩)
      · rw [if_neg h] at q; exact q.elim
section
variable {ea eb ec : E} (ha : PE X a (rdE G X.K W (evalE C ea))) (hb : PE X b (rdE G X.K W (evalE C eb)))
include ha hb
theorem es_add : PE X (.BinOp a .Add b pos) (rdE G X.K W (evalE C (.op .add ea eb))) := es_op2 (op_add.or (op_add_str.or op_cat)) ok_add ha hb
theorem es_sub : PE X (.BinOp a .Sub b pos) (rdE G X.K W (evalE C (.op .sub ea eb))) := es_op2 (opr_I0 op_sub) ok_sub ha hb
theorem es_mul : PE X (.BinOp a .Mult b pos) (rdE G X.K W (evalE C (.op .mul ea eb))) := es_op2 (op_mul.or op_rep) ok_mul ha hb
theorem es_fdiv : PE X (.BinOp a .FloorDiv b pos) (rdE G X.K W (evalE C (.op .fdiv ea eb))) := es_op2 op_fdiv ok_fdiv ha hb
theorem es_mod : PE X (.BinOp a .Mod b pos) (rdE G X.K W (evalE C (.op .mod ea eb))) := es_op2 op_mod ok_mod ha hb
theorem es_pow : PE X (.BinOp a .Pow b pos) (rdE G X.K W (evalE C (.op .pow ea eb))) := es_op2 op_pow ok_pow ha hb
theorem es_shl : PE X (.BinOp a .LShift b pos) (rdE G X.K W (evalE C (.op .shl ea eb))) := es_op2 op_shl ok_shl ha hb
theorem es_shr : PE X (.BinOp a .RShift b pos) (rdE G X.K W (evalE C (.op .shr ea eb))) := es_op2 op_shr ok_shr ha hb
theorem es_band : PE X (.BinOp a .BitAnd b pos) (rdE G X.K W (evalE C (.op .band ea eb))) := es_op2 (opr_I0 op_and) ok_band ha hb
theorem es_bor : PE X (.BinOp a .BitOr b pos) (rdE G X.K W (evalE C (.op .bor ea eb))) := es_op2 (opr_I0 op_or) ok_bor ha hb
theorem es_bxor : PE X (.BinOp a .BitXor b pos) (rdE G X.K W (evalE C (.op .bxor ea eb))) := es_op2 (opr_I0 op_xor) ok_bxor ha hb
end
end
end FS

namespace FS
open PySem L2
mutual
def pyOf : Dat → PyData
  | .non => .none
  | .bl b => .bool b
  | .int i => .int i
  | .str s => .str ⟨s.toArray⟩
  | .lst l => .list (pysOf l)
  | .tup l => .tuple (pysOf l)
def pysOf : List Dat → List PyData
  | [] => []
  | d :: l => pyOf d :: pysOf l
end
theorem beq_str (s t : List Nat) : ((⟨s.toArray⟩ : Str) == ⟨t.toArray⟩) = (s == t) := by
  rw [Bool.eq_iff_iff]
  simp
mutual
theorem py_eqv : ∀ x y : Dat, PyData.eqv (pyOf x) (pyOf y) = Dat.eqv x y
  | .non, y => by cases y <;> simp [pyOf, PyData.eqv, Dat.eqv]
  | .bl _, y => by cases y <;> simp [pyOf, PyData.eqv, Dat.eqv]
  | .int _, y => by cases y <;> simp [pyOf, PyData.eqv, Dat.eqv]
  | .str _, y => by cases y <;> simp [pyOf, PyData.eqv, Dat.eqv, beq_str]
  | .lst l, y => by
    cases y <;> simp only [pyOf, PyData.eqv, Dat.eqv]
    exact pys_eqv l _
  | .tup l, y => by
    cases y <;> simp only [pyOf, PyData.eqv, Dat.eqv]
    exact pys_eqv l _
theorem pys_eqv : ∀ x y : List Dat, PyData.eqvAll (pysOf x) (pysOf y) = Dat.eqvs x y
  | [], [] => by simp [pysOf, PyData.eqvAll, Dat.eqvs]
  | [], _ :: _ => by simp [pysOf, PyData.eqvAll, Dat.eqvs]
  | _ :: _, [] => by simp [pysOf, PyData.eqvAll, Dat.eqvs]
  | x :: xs, y :: ys => by simp only [pysOf, PyData.eqvAll, Dat.eqvs, py_eqv x y, pys_eqv xs ys]
end
section
variable {G : Gam} {X : Cx} {W : WX} {e a b c : Expr} {pos : Pos} {f g h : Sto → Mem → Res D} {fs : Sto → Mem → Res (List D)} {m : Mem} {as : List Addr} {H : Hp} {σ : L2.St} {δ : Sto} {K : PySem.W.Frag} {C : Ctx}
theorem strOk_of {s : List Nat} (h : s.all (fun c => decide (c < 1114112)) = true) : PyData.strOk (⟨s.toArray⟩ : Str) = true := by
  unfold PyData.strOk
  simpa [Array.all_eq_true, List.all_eq_true] using h
theorem mapM_some {α β : Type} {f : α → Option β} : ∀ {l : List α} {r : List β}, l.mapM f = some r → Paired (fun a b => f a = some b) l r
  | [], r, h => by simp at h; subst h; exact .nil
  | a :: l, r, h => by
    rw [List.mapM_cons] at h
    cases e : f a with
    | none => rw [e] at h; cases h
    | some b =>
      rw [e] at h
      cases e2 : l.mapM f with
      | none => simp [e2] at h
      | some r2 =>
        simp [e2] at h
        subst h
        exact .cons e (mapM_some e2)
theorem dat_list {n : Nat} (ih : ∀ {d : D} {x : Dat} {v : V}, toDat n m d = some x → Rep G K as H d v → Dp K H v (pyOf x) ∧ (pyOf x).depth ≤ n ∧ (pyOf x).canLay0 = true) :
    ∀ {ds : List D} {l : List Dat} {vs : List V}, Paired (fun d x => toDat n m d = some x) ds l → Reps G K as H ds vs → DpAll K H vs (pysOf l) ∧ PyData.depthAll (pysOf l) ≤ n ∧ PyData.canLayAll0 (pysOf l) = true
  | _, _, _, .nil, r => by
    simp only [Reps] at r
    subst r
    exact ⟨.nil, by simp [pysOf, PyData.depthAll], by simp [pysOf, PyData.canLayAll0]⟩
  | _, _, _, .cons h t, r => by
    simp only [Reps] at r
    obtain ⟨v, vs, rfl, r1, r2⟩ := r
    obtain ⟨a1, a2, a3⟩ := ih h r1
    obtain ⟨b1, b2, b3⟩ := dat_list ih t r2
    exact ⟨.cons a1 b1, by simp only [pysOf, PyData.depthAll]; omega, by simp only [pysOf, PyData.canLayAll0, a3, b3, Bool.and_self]⟩
theorem dat_of (R : Rel G K as m H) : ∀ (n : Nat) {d : D} {x : Dat} {v : V}, toDat n m d = some x → Rep G K as H d v → Dp K H v (pyOf x) ∧ (pyOf x).depth ≤ n ∧ (pyOf x).canLay0 = true := by
  intro n
  induction n with
  | zero =>
    intro d x v h r
    cases d <;> simp only [toDat, Option.some.injEq, reduceCtorEq] at h
    · subst h; cases rep_non r; exact ⟨.non, by simp [pyOf, PyData.depth], by simp [pyOf, PyData.canLay0]⟩
    · subst h; cases rep_bl r; exact ⟨.bl _, by simp [pyOf, PyData.depth], by simp [pyOf, PyData.canLay0]⟩
    · subst h; cases rep_int r; exact ⟨.int _, by simp [pyOf, PyData.depth], by simp [pyOf, PyData.canLay0]⟩
    · split at h
      · rename_i hs
        cases h; cases rep_str r; exact ⟨.str _, by simp [pyOf, PyData.depth], by simp only [pyOf, PyData.canLay0]; exact strOk_of hs⟩
      · cases h
  | succ n ih =>
    intro d x v h r
    cases d with
    | non => simp only [toDat, Option.some.injEq] at h; subst h; cases rep_non r; exact ⟨.non, by simp [pyOf, PyData.depth], by simp [pyOf, PyData.canLay0]⟩
    | bl k => simp only [toDat, Option.some.injEq] at h; subst h; cases rep_bl r; exact ⟨.bl _, by simp [pyOf, PyData.depth], by simp [pyOf, PyData.canLay0]⟩
    | int k => simp only [toDat, Option.some.injEq] at h; subst h; cases rep_int r; exact ⟨.int _, by simp [pyOf, PyData.depth], by simp [pyOf, PyData.canLay0]⟩
    | str s =>
      simp only [toDat] at h
      split at h
      · rename_i hs
        cases h; cases rep_str r; exact ⟨.str _, by simp [pyOf, PyData.depth], by simp only [pyOf, PyData.canLay0]; exact strOk_of hs⟩
      · cases h
    | tup ds =>
      simp only [toDat] at h
      obtain ⟨l, hl, rfl⟩ := Option.map_eq_some_iff.mp h
      obtain ⟨p, vs, rfl, _, hp, rs⟩ := rep_tup r
      obtain ⟨a1, a2, a3⟩ := dat_list (fun h r => ih h r) (mapM_some hl) rs
      exact ⟨.tup (SqT.of hp) a1, by simp only [pyOf, PyData.depth]; omega, by simp only [pyOf, PyData.canLay0]; exact a3⟩
    | rol ds =>
      simp only [toDat] at h
      obtain ⟨l, hl, rfl⟩ := Option.map_eq_some_iff.mp h
      obtain ⟨p, vs, rfl, hp, rs⟩ := rep_rol r
      obtain ⟨a1, a2, a3⟩ := dat_list (fun h r => ih h r) (mapM_some hl) rs
      exact ⟨.lst hp.seq a1, by simp only [pyOf, PyData.depth]; omega, by simp only [pyOf, PyData.canLay0]; exact a3⟩
    | ref k =>
      simp only [toDat] at h
      obtain ⟨ds, hd, h⟩ := Option.bind_eq_some_iff.mp h
      obtain ⟨l, hl, rfl⟩ := Option.map_eq_some_iff.mp h
      obtain ⟨p, rfl, hp⟩ := rep_ref r
      obtain ⟨vs, h1, rs⟩ := R.lst hp (rdL_some hd)
      obtain ⟨a1, a2, a3⟩ := dat_list (fun h r => ih h r) (mapM_some hl) rs
      exact ⟨.lst (SqL.of h1) a1, by simp only [pyOf, PyData.depth]; omega, by simp only [pyOf, PyData.canLay0]; exact a3⟩
    | _ => simp only [toDat, reduceCtorEq] at h
theorem scal_ok {d d' : D} {x y : V} (h : scal d d' = true) (r1 : Rep G K as H d x) (r2 : Rep G K as H d' y) : L2.scal x y = true ∧ decide (x = y) = D.beq d d' := by
  cases d <;> cases d' <;> first
    | exact absurd (show false = true from h) Bool.false_ne_true
    | skip
  all_goals first
    | (cases rep_non r1; cases rep_non r2; exact ⟨rfl, rfl⟩)
    | (cases rep_non r1; (first | cases rep_bl r2 | cases rep_int r2 | cases rep_str r2); exact ⟨rfl, by simp [D.beq]⟩)
    | (cases rep_non r2; (first | cases rep_bl r1 | cases rep_int r1 | cases rep_str r1); exact ⟨rfl, by simp [D.beq]⟩)
    | (cases rep_int r1; cases rep_int r2; exact ⟨rfl, by simp only [D.beq]; exact dec_int⟩)
    | (cases rep_bl r1; cases rep_bl r2; exact ⟨rfl, by simp only [D.beq]; exact dec_bl⟩)
    | (cases rep_str r1; cases rep_str r2; exact ⟨rfl, by simp only [D.beq]; rw [dec_str, beq_str]⟩)
    | (cases rep_int r1; cases rep_str r2; exact ⟨rfl, by simp [D.beq]⟩)
    | (cases rep_str r1; cases rep_int r2; exact ⟨rfl, by simp [D.beq]⟩)
    | (cases rep_bl r1; cases rep_str r2; exact ⟨rfl, by simp [D.beq]⟩)
    | (cases rep_str r1; cases rep_bl r2; exact ⟨rfl, by simp [D.beq]⟩)
/-- a comparison's rule by values -/
def CmOk (G : Gam) (K : PySem.W.Frag) (o : Cm) (r : R2) : Prop := OpOk G K (fun d d' m => ofO m (cmp2 o d d' m)) r
theorem of_bl {Ex : Nat → Hp → Prop} {Q : VK} {o : Option Bool} (R : Rel G K as m H) (q : Out G K Ex as H (ofO m o) fun d as' m' H' => ∀ v, Rep G K as' H' d v → Q v H') : ∃ k, o = some k ∧ Q (.bl k) H := by
  cases o with
  | none => exact q.elim
  | some k => exact ⟨k, rfl, fin_d R q (by simp only [Rep])⟩
theorem eq_core {Ex : Nat → Hp → Prop} {Q : Bool → Prop} {d d' : D} {x y : V} {k : Bool} (R : Rel G K as m H) (r1 : Rep G K as H d x) (r2 : Rep G K as H d' y) (h : eqD m d d' = some k) (q : Q k) :
    (L2.scal x y = true ∧ Q (decide (x = y))) ∨ ∃ p p', Dp K H x p ∧ Dp K H y p' ∧ SeqAt.shaped p = true ∧ SeqAt.shaped p' = true ∧ Q (PyData.eqv p p') := by
  unfold eqD at h
  split at h
  · rename_i hs
    obtain ⟨h1, h2⟩ := scal_ok hs r1 r2
    cases h
    exact .inl ⟨h1, by rw [h2]; exact q⟩
  · split at h
    · rename_i x' y' e1 e2
      cases h
      obtain ⟨a1, a2, a3⟩ := dat_of R 60 e1 r1
      obtain ⟨b1, b2, b3⟩ := dat_of R 60 e2 r2
      exact .inr ⟨_, _, a1, b1, by unfold SeqAt.shaped; rw [a3, decide_eq_true (by omega)]; rfl, by unfold SeqAt.shaped; rw [b3, decide_eq_true (by omega)]; rfl, by rw [py_eqv]; exact q⟩
    · cases h
theorem cm_eq : CmOk G K .eq (fun x y H Q => rEq x y H Q ∨ rEqD K x y H Q) := by
  intro Ex as m H d d' x y Q R r1 r2 q
  obtain ⟨k, e, q⟩ := of_bl R q
  rcases eq_core (Q := fun k => Q (.bl k) H) (Ex := Ex) R r1 r2 e q with h | ⟨p, p', h1, h2, h3, h4, h5⟩
  · exact .inl h
  · exact .inr ⟨p, p', h1, h2, h3, h4, h5⟩
theorem cm_ne : CmOk G K .ne (fun x y H Q => rNe x y H Q ∨ rNeD K x y H Q) := by
  intro Ex as m H d d' x y Q R r1 r2 q
  obtain ⟨k, e, q⟩ := of_bl R q
  obtain ⟨k', e', rfl⟩ := Option.map_eq_some_iff.mp e
  rcases eq_core (Q := fun k => Q (.bl (!k)) H) (Ex := Ex) R r1 r2 e' q with h | ⟨p, p', h1, h2, h3, h4, h5⟩
  · exact .inl h
  · exact .inr ⟨p, p', h1, h2, h3, h4, h5⟩
theorem cm_int {o : Cm} {gI : Int → Int → Bool} (ho : ∀ i j m, cmp2 o (.int i) (.int j) m = some (gI i j)) (hn : ∀ d d' m, (∀ i j, ¬ (d = .int i ∧ d' = .int j)) → cmp2 o d d' m = none) : CmOk G K o (rI0 fun i j => .bl (gI i j)) := by
  intro Ex as m H d d' x y Q R r1 r2 q
  obtain ⟨k, e, q⟩ := of_bl R q
  by_cases hh : ∃ i j, d = .int i ∧ d' = .int j
  · obtain ⟨i, j, rfl, rfl⟩ := hh
    cases rep_int r1
    cases rep_int r2
    rw [ho] at e
    cases e
    exact ⟨i, j, rfl, rfl, q⟩
  · rw [hn d d' m fun i j z => hh ⟨i, j, z⟩] at e
    cases e
theorem cm_le : CmOk G K .le (rI0 fun i j => .bl (decide (i ≤ j))) := cm_int (fun _ _ _ => rfl) fun d d' m h => by cases d <;> cases d' <;> first | rfl | exact absurd ⟨rfl, rfl⟩ (h _ _)
theorem cm_gt : CmOk G K .gt (rI0 fun i j => .bl (decide (j < i))) := cm_int (fun _ _ _ => rfl) fun d d' m h => by cases d <;> cases d' <;> first | rfl | exact absurd ⟨rfl, rfl⟩ (h _ _)
theorem cm_ge : CmOk G K .ge (rI0 fun i j => .bl (decide (j ≤ i))) := cm_int (fun _ _ _ => rfl) fun d d' m h => by cases d <;> cases d' <;> first | rfl | exact absurd ⟨rfl, rfl⟩ (h _ _)
theorem cm_lt : CmOk G K .lt (fun x y H Q => rI0 (fun i j => .bl (decide (i < j))) x y H Q ∨ ∃ i j, x = .str i ∧ y = .str j ∧ Q (.bl (decide (i.cps.toList < j.cps.toList))) H) := by
  intro Ex as m H d d' x y Q R r1 r2 q
  obtain ⟨k, e, q⟩ := of_bl R q
  cases d <;> cases d' <;> first
    | exact nomatch (show (none : Option Bool) = some k from e)
    | skip
  · cases rep_int r1
    cases rep_int r2
    cases e
    exact .inl ⟨_, _, rfl, rfl, q⟩
  · cases rep_str r1
    cases rep_str r2
    cases e
    exact .inr ⟨_, _, rfl, rfl, q⟩
theorem rep_isnon {d : D} {v : V} (r : Rep G K as H d v) : decide (v = .non) = decide (d = .non) := by
  cases d with
  | non => cases rep_non r; rfl
  | bl _ => cases rep_bl r; rfl
  | int _ => cases rep_int r; rfl
  | str _ => cases rep_str r; rfl
  | tup _ => obtain ⟨p, vs, rfl, _⟩ := rep_tup r; rfl
  | rol _ => obtain ⟨p, vs, rfl, _⟩ := rep_rol r; rfl
  | ins _ _ => obtain ⟨p, dx, vs, rfl, _⟩ := rep_ins r; rfl
  | ref _ => obtain ⟨p, rfl, _⟩ := rep_ref r; rfl
  | exc _ => simp only [Rep] at r
  | clo _ _ => simp only [Rep] at r
theorem cm_is : CmOk G K .is (fun x y H Q => (y = .non ∧ Q (.bl (decide (x = .non))) H) ∨ rIsB x y H Q) := by
  intro Ex as m H d d' x y Q R r1 r2 q
  obtain ⟨k, e, q⟩ := of_bl R q
  cases d' with
  | non =>
    cases rep_non r2
    refine .inl ⟨rfl, ?_⟩
    rw [rep_isnon r1]
    have : cmp2 .is d .non m = some (decide (d = .non)) := by cases d <;> rfl
    rw [this] at e
    cases e
    exact q
  | bl b' =>
    cases d <;> first
      | exact nomatch (show (none : Option Bool) = some k from e)
      | skip
    cases rep_bl r1
    cases rep_bl r2
    cases e
    exact .inr ⟨_, _, rfl, rfl, q⟩
  | _ => cases d <;> exact nomatch (show (none : Option Bool) = some k from e)
theorem cm_isn : CmOk G K .isn (fun x y H Q => (y = .non ∧ Q (.bl (!decide (x = .non))) H) ∨ rNotB x y H Q) := by
  intro Ex as m H d d' x y Q R r1 r2 q
  obtain ⟨k, e, q⟩ := of_bl R q
  cases d' with
  | non =>
    cases rep_non r2
    refine .inl ⟨rfl, ?_⟩
    rw [rep_isnon r1]
    have : cmp2 .isn d .non m = some (!decide (d = .non)) := by cases d <;> rfl
    rw [this] at e
    cases e
    exact q
  | bl b' =>
    cases d <;> first
      | exact nomatch (show (none : Option Bool) = some k from e)
      | skip
    cases rep_bl r1
    cases rep_bl r2
    cases e
    exact .inr ⟨_, _, rfl, rfl, q⟩
  | _ => cases d <;> exact nomatch (show (none : Option Bool) = some k from e)
/-- a comparison as a value, as a test -/
theorem es_cmp {o : Cm} {op : CmpOp} {r : R2} (hop : OpR X (compareOp op) r) (hm : behindInMarks op b = false) (hr : CmOk G X.K o r) {ea eb : E} (ha : PE X a (rdE G X.K W (evalE C ea))) (hb : PE X b (rdE G X.K W (evalE C eb))) :
    PE X (.Compare a [op] [b] pos) (rdE G X.K W (evalE C (.cmp o ea eb))) :=
  pe_imp (pe_cmpR hop ha hb hm) fun σ H Q q => (rdE.two q).imp fun v H1 q1 => q1.imp fun u H2 ⟨as, m, d, d', R, r1, r2, o⟩ => hr _ as m H2 d d' v u Q R r1 r2 o
theorem rdT.toE {Q : Bool → Hp → Prop} (q : rdT G K W f σ H Q) : rdE G K W f σ H fun v H' => ∃ b, v = .bl b ∧ Q b H' := by
  obtain ⟨as, m, δ, R, S, o⟩ := q
  exact ⟨as, m, δ, R, S, o.imp fun d as' m' H' R' g' ⟨b, e, q⟩ v r => by subst e; exact ⟨b, rep_bl r, q⟩⟩
theorem ts_cmp {o : Cm} {op : CmpOp} {r : R2} (hop : OpR X (compareOp op) r) (hm : behindInMarks op b = false) (hr : CmOk G X.K o r) {ea eb : E} (ha : PE X a (rdE G X.K W (evalE C ea))) (hb : PE X b (rdE G X.K W (evalE C eb))) :
    PT X (.Compare a [op] [b] pos) (rdT G X.K W (evalE C (.cmp o ea eb))) :=
  pt_imp (pt_cmpR hop ha hb hm) fun σ H Q q => (rdE.two (rdT.toE q)).imp fun v H1 q1 => q1.imp fun u H2 ⟨as, m, d, d', R, r1, r2, o⟩ => hr _ as m H2 d d' v u _ R r1 r2 o
/-- an expression that gives True or False, as a test -/
theorem ts_val {ea : E} (ha : PE X a (rdE G X.K W (evalE C ea))) (he : ∀ whole, isTrue a X.env whole = (do let v ← whole; standAt a.pos; holding [v] (truthy v)) := by intro _; rfl) : PT X a (rdT G X.K W (evalE C ea)) :=
  pt_imp (pt_val ha he) fun σ H Q q => rdT.toE q
end
end FS

namespace FS
open PySem L2
section
variable {G : Gam} {X : Cx} {W : WX} {e a b c : Expr} {pos p2 : Pos} {f g h : Sto → Mem → Res D} {fs : Sto → Mem → Res (List D)} {m : Mem} {as : List Addr} {H : Hp} {σ : L2.St} {δ : Sto} {K : PySem.W.Frag} {C : Ctx} {rest : List Expr}
variable {ea eb ec : E}
theorem es_not (ha : PE X a (rdE G X.K W (evalE C ea))) : PE X (.UnaryOp .Not a pos) (rdE G X.K W (evalE C (.not ea))) :=
  pe_imp (pe_not ha) fun σ H Q q => (rdE.to q).imp fun v H1 ⟨as, m, d, R, r, o⟩ => by
    cases d <;> first
      | exact (show False from o).elim
      | skip
    cases rep_bl r
    exact ⟨_, rfl, fin_d R o (by simp only [Rep])⟩
theorem es_and (ha : PE X a (rdE G X.K W (evalE C ea))) (hb : PE X (.BoolOp .And (b :: rest) pos) (rdE G X.K W (evalE C eb))) : PE X (.BoolOp .And (a :: b :: rest) pos) (rdE G X.K W (evalE C (.and ea eb))) :=
  pe_imp (pe_and ha hb) fun σ H Q ⟨as, m, δ, R, S, o⟩ => ⟨as, m, δ, R, S, o.bind.imp fun d as' m' H' R' g' o' v r => by
    cases d <;> first
      | exact (show False from o').elim
      | skip
    rename_i k
    cases rep_bl r
    cases k with
    | true => exact ⟨true, rfl, as', m', δ, R', S.grow g', o'⟩
    | false => exact ⟨false, rfl, fin_d R' o' (by simp only [Rep])⟩⟩
theorem es_or (ha : PE X a (rdE G X.K W (evalE C ea))) (hb : PE X (.BoolOp .Or (b :: rest) pos) (rdE G X.K W (evalE C eb))) : PE X (.BoolOp .Or (a :: b :: rest) pos) (rdE G X.K W (evalE C (.or ea eb))) :=
  pe_imp (pe_or ha hb) fun σ H Q ⟨as, m, δ, R, S, o⟩ => ⟨as, m, δ, R, S, o.bind.imp fun d as' m' H' R' g' o' v r => by
    cases d <;> first
      | exact (show False from o').elim
      | skip
    rename_i k
    cases rep_bl r
    cases k with
    | true => exact ⟨true, rfl, fin_d R' o' (by simp only [Rep])⟩
    | false => exact ⟨false, rfl, as', m', δ, R', S.grow g', o'⟩⟩
theorem es_one {op : BoolOp} (ha : PE X a (rdE G X.K W (evalE C ea))) : PE X (.BoolOp op [a] pos) (rdE G X.K W (evalE C ea)) := pe_one ha
theorem ts_not (ha : PT X a (rdT G X.K W (evalE C ea))) : PT X (.UnaryOp .Not a pos) (rdT G X.K W (evalE C (.not ea))) :=
  pt_imp (pt_not ha) fun σ H Q ⟨as, m, δ, R, S, o⟩ => ⟨as, m, δ, R, S, o.bind.imp fun d as' m' H' R' g' o' => by
    cases d <;> first
      | exact (show False from o').elim
      | skip
    obtain ⟨k, e, q⟩ := Out.here R' o'
    cases e
    exact ⟨_, rfl, q⟩⟩
theorem ws_and (ha : PT X a (rdT G X.K W (evalE C ea))) (hb : PW X (.BoolOp .And (b :: rest) pos) (rdT G X.K W (evalE C eb))) : PW X (.BoolOp .And (a :: b :: rest) pos) (rdT G X.K W (evalE C (.and ea eb))) :=
  pw_imp (pw_and ha hb) fun σ H Q ⟨as, m, δ, R, S, o⟩ => ⟨as, m, δ, R, S, o.bind.imp fun d as' m' H' R' g' o' => by
    cases d <;> first
      | exact (show False from o').elim
      | skip
    rename_i k
    cases k with
    | true => exact ⟨true, rfl, as', m', δ, R', S.grow g', o'⟩
    | false =>
      obtain ⟨k, e, q⟩ := Out.here R' o'
      cases e
      exact ⟨false, rfl, q⟩⟩
theorem ws_or (ha : PT X a (rdT G X.K W (evalE C ea))) (hb : PW X (.BoolOp .Or (b :: rest) pos) (rdT G X.K W (evalE C eb))) : PW X (.BoolOp .Or (a :: b :: rest) pos) (rdT G X.K W (evalE C (.or ea eb))) :=
  pw_imp (pw_or ha hb) fun σ H Q ⟨as, m, δ, R, S, o⟩ => ⟨as, m, δ, R, S, o.bind.imp fun d as' m' H' R' g' o' => by
    cases d <;> first
      | exact (show False from o').elim
      | skip
    rename_i k
    cases k with
    | false => exact ⟨false, rfl, as', m', δ, R', S.grow g', o'⟩
    | true =>
      obtain ⟨k, e, q⟩ := Out.here R' o'
      cases e
      exact ⟨true, rfl, q⟩⟩
theorem ws_and1 (ha : PT X a (rdT G X.K W (evalE C ea))) : PW X (.BoolOp .And [a] pos) (rdT G X.K W (evalE C ea)) := pw_and1 ha
theorem ws_or1 (ha : PT X a (rdT G X.K W (evalE C ea))) : PW X (.BoolOp .Or [a] pos) (rdT G X.K W (evalE C ea)) := pw_or1 ha
theorem es_ife (hc : PT X c (rdT G X.K W (evalE C ec))) (ha : PE X a (rdE G X.K W (evalE C ea))) (hb : PE X b (rdE G X.K W (evalE C eb))) : PE X (.IfExp c a b pos) (rdE G X.K W (evalE C (.ife ec ea eb))) :=
  pe_imp (pe_ifExp hc ha hb) fun σ H Q ⟨as, m, δ, R, S, o⟩ => ⟨as, m, δ, R, S, o.bind.imp fun d as' m' H' R' g' o' => by
    cases d <;> first
      | exact (show False from o').elim
      | skip
    rename_i k
    cases k with
    | true => exact ⟨true, rfl, as', m', δ, R', S.grow g', o'⟩
    | false => exact ⟨false, rfl, as', m', δ, R', S.grow g', o'⟩⟩
theorem es_neg (ha : PE X a (rdE G X.K W (evalE C ea))) : PE X (.UnaryOp .USub a pos) (rdE G X.K W (evalE C (.neg ea))) :=
  pe_imp (pe_un un_neg ha) fun σ H Q q => (rdE.to q).imp fun v H1 ⟨as, m, d, R, r, o⟩ => by
    cases d <;> first
      | exact (show False from o).elim
      | skip
    cases rep_int r
    exact ⟨_, rfl, fin_d R o (by simp only [Rep])⟩
theorem es_inv (ha : PE X a (rdE G X.K W (evalE C ea))) : PE X (.UnaryOp .Invert a pos) (rdE G X.K W (evalE C (.inv ea))) :=
  pe_imp (pe_un un_inv ha) fun σ H Q q => (rdE.to q).imp fun v H1 ⟨as, m, d, R, r, o⟩ => by
    cases d <;> first
      | exact (show False from o).elim
      | skip
    cases rep_int r
    exact ⟨_, rfl, fin_d R o (by simp only [Rep]; rfl)⟩

/-! ### chains -/
theorem es_chn {o o' : Cm} {op op' : CmpOp} {r r' : R2} (hop : OpR X (compareOp op) r) (hop' : OpR X (compareOp op') r') (hr : CmOk G X.K o r) (hr' : CmOk G X.K o' r') (ha : PE X a (rdE G X.K W (evalE C ea))) (hb : PE X b (rdE G X.K W (evalE C eb)))
    (hc : PE X c (rdE G X.K W (evalE C ec))) (hm : lastMarks [op, op'] [b, c] = false := by with_unfolding_all rfl) : PE X (.Compare a [op, op'] [b, c] pos) (rdE G X.K W (evalE C (.chn o o' ea eb ec))) :=
  pe_imp (pe_chain hop hop' ha hb hc hm) fun σ H Q ⟨as, m, δ, R, S, q⟩ => ⟨as, m, δ, R, S, q.bind.imp fun d as1 m1 H1 R1 g1 q1 v r1 => ⟨as1, m1, δ, R1, S.grow g1, q1.bind.imp fun d2 as2 m2 H2 R2 g2 q2 u r2 => by
    cases ek : cmp2 o d d2 m2 with
    | none => rw [ek] at q2; exact q2.elim
    | some k =>
      rw [ek] at q2
      refine hr (fun c H' => W (.ref (G.cls c)) none σ H') as2 m2 H2 d d2 v u _ R2 (r1.grow g2) r2 ?_
      show Out _ _ _ _ _ (ofO m2 (cmp2 o d d2 m2)) _
      rw [ek]
      refine fun as3 H3 R3 g3 w rw_ => ?_
      cases rep_bl rw_
      cases k with
      | true =>
        refine ⟨true, rfl, as3, m2, δ, R3, ((S.grow g1).grow g2).grow g3, ?_⟩
        have q3 : Out G X.K (fun c H' => W (.ref (G.cls c)) none σ H') as2 H2 ((evalE C ec δ m2).bind fun z m3 => ofO m3 (cmp2 o' d2 z m3)) _ := q2
        exact (q3.later g3).bind.imp fun d4 as4 m4 H4 R4 g4 q4 z r4 => hr' _ as4 m4 H4 d2 d4 u z Q R4 ((r2.grow g3).grow g4) r4 q4
      | false =>
        refine ⟨false, rfl, ?_⟩
        exact q2 as3 H3 R3 g3 _ (by simp only [Rep])⟩⟩
theorem ts_chn {o o' : Cm} {op op' : CmpOp} {r r' : R2} (hop : OpR X (compareOp op) r) (hop' : OpR X (compareOp op') r') (hr : CmOk G X.K o r) (hr' : CmOk G X.K o' r') (ha : PE X a (rdE G X.K W (evalE C ea))) (hb : PE X b (rdE G X.K W (evalE C eb)))
    (hc : PE X c (rdE G X.K W (evalE C ec))) (hm : lastMarks [op, op'] [b, c] = false := by with_unfolding_all rfl) : PT X (.Compare a [op, op'] [b, c] pos) (rdT G X.K W (evalE C (.chn o o' ea eb ec))) :=
  pt_imp (pt_chain hop hop' ha hb hc hm) fun σ H Q q => by
    have q2 := rdT.toE q
    obtain ⟨as, m, δ, R, S, q⟩ := q2
    refine ⟨as, m, δ, R, S, q.bind.imp fun d as1 m1 H1 R1 g1 q1 v r1 => ⟨as1, m1, δ, R1, S.grow g1, q1.bind.imp fun d2 as2 m2 H2 R2 g2 q2 u r2 => ?_⟩⟩
    cases ek : cmp2 o d d2 m2 with
    | none => rw [ek] at q2; exact q2.elim
    | some k =>
      rw [ek] at q2
      refine hr (fun c H' => W (.ref (G.cls c)) none σ H') as2 m2 H2 d d2 v u _ R2 (r1.grow g2) r2 ?_
      show Out _ _ _ _ _ (ofO m2 (cmp2 o d d2 m2)) _
      rw [ek]
      refine fun as3 H3 R3 g3 w rw_ => ?_
      cases rep_bl rw_
      cases k with
      | true =>
        refine ⟨true, rfl, as3, m2, δ, R3, ((S.grow g1).grow g2).grow g3, ?_⟩
        have q3 : Out G X.K (fun c H' => W (.ref (G.cls c)) none σ H') as2 H2 ((evalE C ec δ m2).bind fun z m3 => ofO m3 (cmp2 o' d2 z m3)) _ := q2
        exact (q3.later g3).bind.imp fun d4 as4 m4 H4 R4 g4 q4 z r4 => hr' _ as4 m4 H4 d2 d4 u z _ R4 ((r2.grow g3).grow g4) r4 q4
      | false =>
        refine ⟨false, rfl, ?_⟩
        exact q2 as3 H3 R3 g3 _ (by simp only [Rep])

/-! ### argument lists, displays -/
theorem ea_nil : PA X [] (rdA G X.K W (evalEs C .nil)) := pa_imp pa_nil fun σ H Q ⟨as, m, δ, R, S, o⟩ => Out.here R o [] reps_nil
theorem ea_cons {es : List Expr} {el : Es} (ha : PE X e (rdE G X.K W (evalE C ea))) (hr : PA X es (rdA G X.K W (evalEs C el))) (hs : starEach (e :: es) X.env = (false, eval e X.env) :: starEach es X.env := by rfl) :
    PA X (e :: es) (rdA G X.K W (evalEs C (.cons ea el))) :=
  pa_imp (pa_cons ha hr hs) fun σ H Q ⟨as, m, δ, R, S, o⟩ => ⟨as, m, δ, R, S, o.bind.imp fun d as1 m1 H1 R1 g1 q1 v r1 => ⟨as1, m1, δ, R1, S.grow g1, q1.bind.imp fun ds as2 m2 H2 R2 g2 q2 vs rs =>
    Out.here R2 q2 (v :: vs) (reps_cons (r1.grow g2) rs)⟩⟩
theorem es_tup {es : List Expr} {el : Es} {x1} (h : PA X es (rdA G X.K W (evalEs C el))) : PE X (.Tuple es x1 pos) (rdE G X.K W (evalE C (.tup el))) :=
  pe_imp (pe_tup h) fun σ H Q q => (rdE.args q).imp fun vs H1 ⟨as, m, ds, R, r, o⟩ => by
    by_cases hl : ds.length ≤ LIM
    · rw [if_pos hl] at o
      exact ⟨by rw [r.len, line_eq]; exact hl, fin_t R o r⟩
    · rw [if_neg hl] at o; exact o.elim
theorem es_lst {es : List Expr} {el : Es} (h : PA X es (rdA G X.K W (evalEs C el))) : PE X (.List es pos) (rdE G X.K W (evalE C (.lst el))) :=
  pe_imp (pe_lst h) fun σ H Q q => (rdE.args q).imp fun vs H1 ⟨as, m, ds, R, r, o⟩ => by
    by_cases hl : ds.length ≤ LIM
    · rw [if_pos hl] at o
      exact ⟨by rw [r.len, line_eq]; exact hl, fin_l R o r⟩
    · rw [if_neg hl] at o; exact o.elim

/-! ### subscripts -/
theorem ixN_eq (n : Nat) (i : Int) : L2.ixN n i = FS.ixN n i := rfl
theorem atI_ix {α : Type} {xs : List α} {i : Int} {x : α} (h : FS.atI xs i = some x) : ∃ j, FS.ixN xs.length i = some j ∧ xs[j]? = some x := Option.bind_eq_some_iff.mp h
theorem at_rep {ds : List D} {vs : List V} {i : Int} {d : D} (r : Reps G K as H ds vs) (h : FS.atI ds i = some d) : ∃ v, L2.atI vs i = some v ∧ Rep G K as H d v := by
  obtain ⟨j, h1, h2⟩ := atI_ix h
  obtain ⟨v, h3, h4⟩ := r.get h2
  exact ⟨v, by unfold L2.atI; rw [r.len, ixN_eq, h1]; exact h3, h4⟩
theorem opt_ok {Ex : Nat → Hp → Prop} {Q : VK} {o : Option D} (q : Out G K Ex as H (opt m o) fun d as' m' H' => ∀ v, Rep G K as' H' d v → Q v H') : ∃ d, o = some d ∧ Out G K Ex as H (.ok d m) fun d as' m' H' => ∀ v, Rep G K as' H' d v → Q v H' := by
  cases o with
  | none => exact q.elim
  | some d => exact ⟨d, rfl, q⟩
/-! ### dicts -/
theorem keyV_inj : ∀ {a b : D} {k k' : Key}, keyV a = some k → keyV b = some k' → D.beq a b = decide (k = k')
  | .int i, .int j, _, _, h1, h2 => by
    cases h1; cases h2
    rw [key_ll]
    simp only [D.beq]
  | .str s, .str t, _, _, h1, h2 => by
    cases h1; cases h2
    rw [key_rr]
    simp only [D.beq]
    rw [Bool.eq_iff_iff]
    simp
  | .int i, .str s, _, _, h1, h2 => by
    cases h1; cases h2
    rw [key_lr]
    simp [D.beq]
  | .str s, .int i, _, _, h1, h2 => by
    cases h1; cases h2
    rw [key_rl]
    simp [D.beq]
  | .non, _, _, _, h1, _ | .bl _, _, _, _, h1, _ | .tup _, _, _, _, h1, _ | .rol _, _, _, _, h1, _ | .ins _ _, _, _, _, h1, _ | .ref _, _, _, _, h1, _ | .exc _, _, _, _, h1, _ | .clo _ _, _, _, _, h1, _ => by cases h1
  | .int _, .non, _, _, _, h2 | .int _, .bl _, _, _, _, h2 | .int _, .tup _, _, _, _, h2 | .int _, .rol _, _, _, _, h2 | .int _, .ins _ _, _, _, _, h2 | .int _, .ref _, _, _, _, h2 | .int _, .exc _, _, _, _, h2 | .int _, .clo _ _, _, _, _, h2 => by cases h2
  | .str _, .non, _, _, _, h2 | .str _, .bl _, _, _, _, h2 | .str _, .tup _, _, _, _, h2 | .str _, .rol _, _, _, _, h2 | .str _, .ins _ _, _, _, _, h2 | .str _, .ref _, _, _, _, h2 | .str _, .exc _, _, _, _, h2 | .str _, .clo _ _, _, _, _, h2 => by cases h2
theorem keyVs_inj : ∀ {a b : List D} {k k' : List Key}, a.mapM keyV = some k → b.mapM keyV = some k' → D.beqs a b = decide (k = k')
  | [], [], _, _, h1, h2 => by
    simp at h1 h2
    subst h1; subst h2
    simp [D.beqs]
  | [], b :: bs, k, k', h1, h2 => by
    simp at h1
    subst h1
    have := mapM_some h2
    cases this
    simp [D.beqs]
  | a :: as, [], k, k', h1, h2 => by
    simp at h2
    subst h2
    have := mapM_some h1
    cases this
    simp [D.beqs]
  | a :: as, b :: bs, k, k', h1, h2 => by
    rw [List.mapM_cons] at h1 h2
    obtain ⟨x, hx, h1⟩ := Option.bind_eq_some_iff.mp h1
    obtain ⟨xs, hxs, h1⟩ := Option.bind_eq_some_iff.mp h1
    obtain ⟨y, hy, h2⟩ := Option.bind_eq_some_iff.mp h2
    obtain ⟨ys, hys, h2⟩ := Option.bind_eq_some_iff.mp h2
    cases h1; cases h2
    simp only [D.beqs]
    rw [keyV_inj hx hy, keyVs_inj hxs hys, Bool.eq_iff_iff]
    simp
theorem keyT_inj {a b : D} {k k' : List Key} (h1 : keyT a = some k) (h2 : keyT b = some k') : D.beq a b = decide (k = k') := by
  cases a <;> first
    | exact nomatch (show (none : Option (List Key)) = some k from h1)
    | skip
  cases b <;> first
    | exact nomatch (show (none : Option (List Key)) = some k' from h2)
    | skip
  simp only [D.beq]
  exact keyVs_inj h1 h2
/-- a key that the dict's kind takes -/
theorem keyOk_f {d : D} (h : keyOk false d = true) : ∃ k, keyV d = some k := by
  cases d <;> first
    | exact absurd (show false = true from h) Bool.false_ne_true
    | exact ⟨_, rfl⟩
theorem keyV_of : ∀ {ds : List D}, ds.all isKeyT = true → ∃ k, ds.mapM keyV = some k
  | [], _ => ⟨[], rfl⟩
  | d :: ds, h => by
    rw [List.all_cons, Bool.and_eq_true] at h
    obtain ⟨k, hk⟩ := keyV_of h.2
    have hd : ∃ x, keyV d = some x := by
      have h1 := h.1
      cases d <;> first
        | exact absurd (show false = true from h1) Bool.false_ne_true
        | exact ⟨_, rfl⟩
    obtain ⟨x, hx⟩ := hd
    exact ⟨x :: k, by rw [List.mapM_cons, hx, hk]; rfl⟩
theorem keyOk_t {d : D} (h : keyOk true d = true) : ∃ k, keyT d = some k := by
  cases d <;> first
    | exact absurd (show false = true from h) Bool.false_ne_true
    | exact keyV_of (by simpa [keyOk] using h)
theorem rep_key {d : D} {v : V} {k : Key} (r : Rep G K as H d v) (h : keyV d = some k) : v = kV k := by
  cases d <;> first
    | exact nomatch (show (none : Option Key) = some k from h)
    | skip
  · cases rep_int r; cases h; rfl
  · cases rep_str r; cases h; rfl
theorem reps_key : ∀ {ds : List D} {vs : List V} {k : List Key}, Reps G K as H ds vs → ds.mapM keyV = some k → vs = k.map kV
  | [], vs, k, r, h => by
    simp only [Reps] at r
    simp at h
    subst r; subst h; rfl
  | d :: ds, vs, k, r, h => by
    simp only [Reps] at r
    obtain ⟨v, t, rfl, r1, r2⟩ := r
    rw [List.mapM_cons] at h
    obtain ⟨x, hx, h⟩ := Option.bind_eq_some_iff.mp h
    obtain ⟨xs, hxs, h⟩ := Option.bind_eq_some_iff.mp h
    cases h
    rw [rep_key r1 hx, reps_key r2 hxs, List.map_cons]
theorem rep_keyT {d : D} {v : V} {k : List Key} (r : Rep G K as H d v) (h : keyT d = some k) : ∃ p, v = .ref p ∧ p ∉ as ∧ H p = some (.tup (k.map kV)) := by
  cases d <;> first
    | exact nomatch (show (none : Option (List Key)) = some k from h)
    | skip
  obtain ⟨p, vs, rfl, hn, hp, rs⟩ := rep_tup r
  exact ⟨p, rfl, hn, by rw [hp, reps_key rs h]⟩
theorem kvsK_get {y : D} {k : Key} (hk : keyV y = some k) : ∀ {kvs : List (D × D)} {ks : List (Key × V)}, KvsK G K as H kvs ks → (∀ d, dGet kvs y = some d → ∃ v, valV ks k = some v ∧ Rep G K as H d v) ∧ (dGet kvs y = none → valV ks k = none)
  | [], _, h => by
    have h : _ = _ := h
    subst h
    exact ⟨fun d e => (nomatch e), fun _ => rfl⟩
  | p :: r, _, ⟨k1, v1, t, e, h1, h2, h3⟩ => by
    subst e
    have ih := kvsK_get hk h3
    have hb := keyV_inj h1 hk
    unfold dGet
    rw [List.find?_cons]
    by_cases q : k1 = k
    · rw [decide_eq_true q] at hb
      rw [hb]
      exact ⟨fun d e => ⟨v1, valV_pos q, by cases e; exact h2⟩, fun e => nomatch e⟩
    · rw [decide_eq_false q] at hb
      rw [hb, valV_neg q]
      exact ih
theorem kvsT_get {y : D} {k : List Key} (hk : keyT y = some k) : ∀ {kvs : List (D × D)} {ks : List (List Key × V)}, KvsT G K as H kvs ks → (∀ d, dGet kvs y = some d → ∃ v, valV ks k = some v ∧ Rep G K as H d v) ∧ (dGet kvs y = none → valV ks k = none)
  | [], _, h => by
    have h : _ = _ := h
    subst h
    exact ⟨fun d e => (nomatch e), fun _ => rfl⟩
  | p :: r, _, ⟨k1, v1, t, e, h1, h2, h3⟩ => by
    subst e
    have ih := kvsT_get hk h3
    have hb := keyT_inj h1 hk
    unfold dGet
    rw [List.find?_cons]
    by_cases q : k1 = k
    · rw [decide_eq_true q] at hb
      rw [hb]
      exact ⟨fun d e => ⟨v1, valV_pos q, by cases e; exact h2⟩, fun e => nomatch e⟩
    · rw [decide_eq_false q] at hb
      rw [hb, valV_neg q]
      exact ih
/-- a look into a dict, locked or not -/
theorem get_ok {t z : Bool} {kvs : List (D × D)} {p : Addr} {y : D} {u : V} (hm : MRep G K as H p (.dct t z kvs)) (hk : keyOk t y = true) (r : Rep G K as H y u) :
    ∃ o : Option V, DGet H p u o ∧ (∀ d, dGet kvs y = some d → ∃ v, o = some v ∧ Rep G K as H d v) ∧ (dGet kvs y = none → o = none) := by
  cases t with
  | false =>
    obtain ⟨k, hk⟩ := keyOk_f hk
    cases z with
    | false =>
      obtain ⟨ks, hp, hs⟩ := hm
      exact ⟨valV ks k, .inl ⟨ks, k, .inl hp, rep_key r hk, rfl⟩, (kvsK_get hk hs).1, (kvsK_get hk hs).2⟩
    | true =>
      obtain ⟨ks, o, hp, hs⟩ := hm
      exact ⟨valV ks k, .inl ⟨ks, k, .inr ⟨o, hp⟩, rep_key r hk, rfl⟩, (kvsK_get hk hs).1, (kvsK_get hk hs).2⟩
  | true =>
    obtain ⟨k, hk⟩ := keyOk_t hk
    obtain ⟨b, rfl, _, hb⟩ := rep_keyT r hk
    cases z with
    | false =>
      obtain ⟨ks, hp, hs⟩ := hm
      exact ⟨valV ks k, .inr ⟨ks, k, b, .inl hp, rfl, hb, rfl⟩, (kvsT_get hk hs).1, (kvsT_get hk hs).2⟩
    | true =>
      obtain ⟨ks, o, hp, hs⟩ := hm
      exact ⟨valV ks k, .inr ⟨ks, k, b, .inr ⟨o, hp⟩, rfl, hb, rfl⟩, (kvsT_get hk hs).1, (kvsT_get hk hs).2⟩
theorem ok_ix : OpOk G K index (fun x y H Q => rIxL K x y H Q ∨ rIxT K x y H Q ∨ rIxS x y H Q ∨ ∃ a v, x = .ref a ∧ DGet H a y (some v) ∧ Q v H) := by
  intro Ex as m H d d' x y Q R r1 r2 q
  cases d with
  | tup ds =>
    cases d' <;> first
      | exact (show False from q).elim
      | skip
    obtain ⟨p, vs, rfl, _, hp, rs⟩ := rep_tup r1
    cases rep_int r2
    obtain ⟨d, e, q⟩ := opt_ok q
    obtain ⟨v, h1, h2⟩ := at_rep rs e
    exact .inr (.inl ⟨p, vs, _, v, rfl, rfl, SqT.of hp, h1, fin_d R q h2⟩)
  | rol ds =>
    cases d' <;> first
      | exact (show False from q).elim
      | skip
    obtain ⟨p, vs, rfl, hp, rs⟩ := rep_rol r1
    cases rep_int r2
    obtain ⟨d, e, q⟩ := opt_ok q
    obtain ⟨v, h1, h2⟩ := at_rep rs e
    exact .inl ⟨p, vs, _, v, rfl, rfl, hp.seq, h1, fin_d R q h2⟩
  | str s =>
    cases d' <;> first
      | exact (show False from q).elim
      | skip
    cases rep_str r1
    cases rep_int r2
    simp only [index] at q
    split at q
    · rename_i hl
      obtain ⟨d, e, q⟩ := opt_ok q
      obtain ⟨c, hc, rfl⟩ := Option.map_eq_some_iff.mp e
      refine .inr (.inr (.inl ⟨_, _, c, rfl, rfl, by rw [str_len, line_eq]; exact hl, ?_, fin_d R q (by simp only [Rep])⟩))
      show L2.atI s.toArray.toList _ = some c
      rw [List.toList_toArray]
      exact hc
    · exact q.elim
  | ref n =>
    obtain ⟨p, rfl, hp⟩ := rep_ref r1
    simp only [index] at q
    cases e : m[n]? with
    | none => rw [e] at q; exact q.elim
    | some mo =>
      rw [e] at q
      cases mo with
      | lst ds =>
        cases d' <;> first
          | exact (show False from q).elim
          | skip
        cases rep_int r2
        obtain ⟨vs, h0, rs⟩ := R.lst hp e
        obtain ⟨d, e, q⟩ := opt_ok q
        obtain ⟨v, h1, h2⟩ := at_rep rs e
        exact .inl ⟨p, vs, _, v, rfl, rfl, SqL.of h0, h1, fin_d R q h2⟩
      | dct t z kvs =>
        simp only at q
        split at q
        · rename_i hk
          obtain ⟨d, e', q⟩ := opt_ok q
          obtain ⟨o, h1, h2, _⟩ := get_ok (R.at_ n p _ hp e) hk r2
          obtain ⟨v, rfl, hr⟩ := h2 d e'
          exact .inr (.inr (.inr ⟨p, v, rfl, h1, fin_d R q hr⟩))
        · exact q.elim
      | obj c fs => exact q.elim
  | _ => exact (show False from q).elim
theorem ix_dct (hu : X.A.units + 1 < cLine) : IxR X (fun x y H Q => ∃ a v, x = .ref a ∧ DGet H a y (some v) ∧ Q v H) := by
  intro value slice pins s σ H x y v u Q I rx ry h hs
  obtain ⟨a, z, rfl, g, q⟩ := h
  cases rx
  exact PyProof.Rows.tail_any (dict_typeIs I g) PySem.F.slot_dict_getitem.lookup (d_getItem hu I g ry fun w' s' I' r' => ⟨z, H, I', r', q⟩) hs
theorem es_idx (hu : X.A.units + 1 < cLine) (ha : PE X a (rdE G X.K W (evalE C ea))) (hb : PE X b (rdE G X.K W (evalE C eb))) (hs : PlainIx b := by intro _ _; rfl) : PE X (.Subscript a b pos) (rdE G X.K W (evalE C (.idx ea eb))) :=
  pe_imp (pe_ix (ix_list.or (ix_tup.or (ix_str.or (ix_dct hu)))) ha hb hs) fun σ H Q q => (rdE.two q).imp fun v H1 q1 => q1.imp fun u H2 ⟨as, m, d, d', R, r1, r2, o⟩ => ok_ix _ as m H2 d d' v u Q R r1 r2 o
/-- parts of a slice -/
def rdO (G : Gam) (K : PySem.W.Frag) (W : WX) (f : Sto → Mem → Res (Option Int)) : TO := fun σ H Q => ∃ as m δ, Rel G K as m H ∧ St2 G K as H δ σ ∧
  Out G K (fun c H' => W (.ref (G.cls c)) none σ H') as H (f δ m) fun d as' m' H' => Q d H'
variable {lo hi : Option Expr} {l r : Oe}
theorem eo_none : PO X none (rdO G X.K W (evalO C .none)) := ⟨fun pins s σ H Q I ⟨as, m, δ, R, S, o⟩ => po_none.run pins s σ H Q I (Out.here R o)⟩
theorem eo_some (ha : PE X a (rdE G X.K W (evalE C ea))) : PO X (some a) (rdO G X.K W (evalO C (.some ea))) := ⟨fun pins s σ H Q I ⟨as, m, δ, R, S, o⟩ =>
  (po_some ha).run pins s σ H Q I ⟨as, m, δ, R, S, o.bind.imp fun d as1 m1 H1 R1 g1 o1 v r => by
    cases d <;> first
      | exact (show False from o1).elim
      | skip
    cases rep_int r
    exact ⟨_, rfl, Out.here R1 o1⟩⟩⟩
theorem cut_rep {ds : List D} {vs : List V} (r : Reps G K as H ds vs) (lo hi : Option Int) : Reps G K as H (cut ds lo hi) (cutV vs lo hi) := by
  unfold cut cutV
  rw [r.len]
  exact reps_take _ (reps_drop _ r)
theorem es_slc (ha : PE X a (rdE G X.K W (evalE C ea))) (hl : PO X lo (rdO G X.K W (evalO C l))) (hr : PO X hi (rdO G X.K W (evalO C r))) : PE X (.Subscript a (.Slice lo hi none p2) pos) (rdE G X.K W (evalE C (.slc ea l r))) :=
  pe_imp (pe_orr (pe_slice sl_list ha hl hr) (pe_slice sl_str ha hl hr)) fun σ H Q ⟨as, m, δ, R, S, o⟩ => by
    simp only [evalE] at o
    cases hd : evalE C ea δ m with
    | no => rw [hd] at o; exact o.elim
    | ex c m1 =>
      rw [hd] at o
      exact .inl ⟨as, m, δ, R, S, by rw [hd]; exact o⟩
    | ok d0 m0 =>
      by_cases hs : ∃ z, d0 = .str z
      · obtain ⟨z, rfl⟩ := hs
        refine .inr ⟨as, m, δ, R, S, o.bind.impE fun d as1 m1 H1 e R1 g1 o1 v r1 => ⟨as1, m1, δ, R1, S.grow g1, o1.bind.imp fun l as2 m2 H2 R2 g2 o2 => ⟨as2, m2, δ, R2, (S.grow g1).grow g2, o2.bind.imp fun h as3 m3 H3 R3 g3 o3 => ?_⟩⟩⟩
        rw [hd] at e
        cases e
        cases rep_str r1
        simp only [slice] at o3
        split at o3
        · rename_i hz
          refine ⟨_, rfl, by rw [str_len, line_eq]; exact hz, fin_d R3 o3 ?_⟩
          simp only [Rep]
          unfold cutS cut
          rw [str_len]
          show V.str ⟨(List.take _ (List.drop _ z.toArray.toList)).toArray⟩ = _
          rw [List.toList_toArray]
          rfl
        · exact o3.elim
      · refine .inl ⟨as, m, δ, R, S, o.bind.impE fun d as1 m1 H1 e R1 g1 o1 v r1 => ⟨as1, m1, δ, R1, S.grow g1, o1.bind.imp fun l as2 m2 H2 R2 g2 o2 => ⟨as2, m2, δ, R2, (S.grow g1).grow g2, o2.bind.imp fun h as3 m3 H3 R3 g3 o3 => ?_⟩⟩⟩
        rw [hd] at e
        cases e
        have e3 : slice d0 l h m3 = (match seqL m3 d0 with
          | some ds => .ok (.ref m3.length) (m3 ++ [.lst (cut ds l h)])
          | none => .no) := by
          cases d0 <;> first
            | rfl
            | exact absurd ⟨_, rfl⟩ hs
        rw [e3] at o3
        cases es : seqL m3 d0 with
        | none => rw [es] at o3; exact o3.elim
        | some ds =>
          rw [es] at o3
          obtain ⟨p, vs, rfl, h1, h2⟩ := seq_of R3 ((r1.grow g2).grow g3) es
          exact ⟨p, vs, rfl, h1, fin_l R3 o3 (cut_rep h2 _ _)⟩

/-! ### fields -/
theorem lookup_zip {ns : List Str} {vs : List V} {k : Nat} {x : Str} {v : V} (hn : ns.Nodup) (h1 : ns[k]? = some x) (h2 : vs[k]? = some v) : (ns.zip vs).lookup x = some v := by
  induction ns generalizing vs k with
  | nil => simp at h1
  | cons y ns ih =>
    cases vs with
    | nil => simp at h2
    | cons u vs =>
      rw [List.zip_cons_cons, List.lookup_cons]
      cases k with
      | zero =>
        simp at h1 h2
        subst h1; subst h2
        simp
      | succ k =>
        have h1' : ns[k]? = some x := by simpa using h1
        have hne : x ≠ y := fun z => (List.nodup_cons.mp hn).1 (z ▸ List.mem_of_getElem? h1')
        rw [show (x == y) = false from beq_eq_false_iff_ne.mpr hne]
        exact ih (List.nodup_cons.mp hn).2 h1' (by simpa using h2)
theorem flds_look (hi : ∀ i j, G.kf i = true → G.kf j = true → G.fnm i = G.fnm j → i = j) {f : Nat} (hf : G.kf f = true) {d : D} : ∀ {fs : List (Nat × D)} {vs : List (Str × V)}, Flds G K as H fs vs → fs.lookup f = some d → ∃ v, vs.lookup (G.fnm f) = some v ∧ Rep G K as H d v
  | [], _, _, h => by simp at h
  | (g, x) :: r, _, ⟨v, t, e, hg, h1, h2⟩, h => by
    subst e
    rw [List.lookup_cons] at h ⊢
    by_cases q : f = g
    · subst q
      simp at h ⊢
      subst h
      exact h1
    · have e1 : (f == g) = false := beq_eq_false_iff_ne.mpr q
      have e2 : (G.fnm f == G.fnm g) = false := beq_eq_false_iff_ne.mpr fun z => q (hi _ _ hf hg z)
      rw [e1] at h
      rw [e2]
      exact flds_look hi hf h2 h
/-- what the classes' facts must be -/
structure GOk (G : Gam) (K : PySem.W.Frag) : Prop where
  fin : ∀ i j, G.kf i = true → G.kf j = true → G.fnm i = G.fnm j → i = j
  fkn : ∀ c f, G.imm c = true → f ∈ G.flds c → G.kf f = true
  fnd : ∀ c, G.imm c = true → (G.flds c).Nodup
  cls : ∀ c, (G.imm c = true ∨ G.mu c = true) → Cls K (G.cls c)
  inj : ∀ c e, (G.imm c = true ∨ G.mu c = true) → (G.imm e = true ∨ G.mu e = true) → G.cls c = G.cls e → c = e
  noa : ∀ c f, (G.imm c = true ∨ G.mu c = true) → G.kf f = true → NoAttr K (G.cls c) (G.fnm f)
theorem GOk.nds (GO : GOk G K) (c : Nat) (hc : G.imm c = true) : ((G.flds c).map G.fnm).Nodup := by
  have h := GO.fnd c hc
  have hk := GO.fkn c
  generalize G.flds c = l at h hk
  induction l with
  | nil => exact List.nodup_nil
  | cons a l ih =>
    rw [List.map_cons]
    obtain ⟨h1, h2⟩ := List.nodup_cons.mp h
    refine List.nodup_cons.mpr ⟨fun z => ?_, ih h2 fun f hc hf => hk f hc (List.mem_cons_of_mem _ hf)⟩
    obtain ⟨b, hb, e⟩ := List.mem_map.mp z
    rw [GO.fin b a (hk b hc (List.mem_cons_of_mem _ hb)) (hk a hc List.mem_cons_self) e] at hb
    exact h1 hb
theorem es_fld {x : Str} {fi : Nat} (GO : GOk G X.K) (hx : x = G.fnm fi) (hk : G.kf fi = true) (hf : C.flds = G.flds) (ha : PE X a (rdE G X.K W (evalE C ea))) (hb : attributeBase a x X.env (eval a X.env) = eval a X.env := by rfl) : PE X (.Attribute a x pos) (rdE G X.K W (evalE C (.fld ea fi))) :=
  pe_imp (pe_fld ha hb) fun σ H Q q => (rdE.to q).imp fun v H1 ⟨as, m, d, R, r, o⟩ => by
    subst hx
    cases d <;> first
      | exact (show False from o).elim
      | skip
    · rename_i c ds
      obtain ⟨p, dx, vs, rfl, hn, hc, hp, hl, rs⟩ := rep_ins r
      simp only [hf] at o
      cases e : (G.flds c).findIdx? (· == fi) with
      | none => rw [e] at o; exact o.elim
      | some k =>
        rw [e] at o
        obtain ⟨d, e2, o⟩ := opt_ok o
        obtain ⟨u, h1, h2⟩ := rs.get e2
        have hq : (G.flds c)[k]? = some fi := by
          obtain ⟨hlt, h, _⟩ := List.findIdx?_eq_some_iff_getElem.mp e
          rw [List.getElem?_eq_getElem hlt]
          simpa using h
        refine ⟨p, G.cls c, dx, _, u, rfl, hp, GO.cls c (.inl hc), GO.noa c fi (.inl hc) hk, ?_, fin_d R o h2⟩
        refine lookup_zip (k := k) ?_ (by rw [List.getElem?_map, hq]; rfl) h1
        exact GO.nds c hc
    · rename_i n
      obtain ⟨p, rfl, hp⟩ := rep_ref r
      simp only at o
      cases e : m[n]? with
      | none => rw [e] at o; exact o.elim
      | some mo =>
        rw [e] at o
        cases mo with
        | obj c fs =>
          obtain ⟨dx, vs, hc, h1, h2⟩ := R.at_ n p _ hp e
          obtain ⟨d, e2, o⟩ := opt_ok o
          obtain ⟨u, h3, h4⟩ := flds_look GO.fin hk h2 e2
          exact ⟨p, G.cls c, dx, vs, u, rfl, h1, GO.cls c (.inr hc), GO.noa c fi (.inr hc) hk, h3, fin_d R o h4⟩
        | _ => exact o.elim
end
end FS

namespace FS
open PySem L2
/-! ### a text's place in a text -/
theorem findT_some (t : List Nat) : ∀ {s : List Nat} {i : Nat}, findT t s = some i → i ≤ s.length ∧ t <+: s.drop i ∧ ∀ k, k < i → ¬ t <+: s.drop k
  | [], i, h => by
    simp only [findT] at h
    split at h
    · rename_i e
      cases h
      subst e
      exact ⟨Nat.le_refl _, List.nil_prefix, fun k hk => absurd hk (Nat.not_lt_zero _)⟩
    · cases h
  | x :: r, i, h => by
    simp only [findT] at h
    split at h
    · rename_i e
      cases h
      exact ⟨Nat.zero_le _, by simpa using e, fun k hk => absurd hk (Nat.not_lt_zero _)⟩
    · rename_i e
      obtain ⟨j, hj, rfl⟩ := Option.map_eq_some_iff.mp h
      obtain ⟨h1, h2, h3⟩ := findT_some t hj
      refine ⟨by simpa using h1, by simpa using h2, fun k hk => ?_⟩
      cases k with
      | zero => simpa using e
      | succ k => simpa using h3 k (by omega)
theorem findT_none (t : List Nat) : ∀ {s : List Nat}, findT t s = none → ∀ k, k ≤ s.length → ¬ t <+: s.drop k
  | [], h, k, hk => by
    simp only [findT] at h
    split at h
    · cases h
    · rename_i e
      simpa using e
  | x :: r, h, k, hk => by
    simp only [findT] at h
    split at h
    · cases h
    · rename_i e
      cases k with
      | zero => simpa using e
      | succ k =>
        have := findT_none t (Option.map_eq_none_iff.mp h) k (by simpa using hk)
        simpa using this
theorem at_pre (s t : List Nat) (i : Nat) : StrLaws.At (⟨s.toArray⟩ : Str) ⟨t.toArray⟩ s.length i ↔ i ≤ s.length ∧ t <+: s.drop i := by
  unfold StrLaws.At
  rw [StrLaws.subAt_eq, str_len]
  have e1 : (⟨s.toArray⟩ : Str).cps.toList = s := rfl
  have e2 : (⟨t.toArray⟩ : Str).cps.toList = t := rfl
  rw [e1, e2, beq_iff_eq, List.prefix_iff_eq_take]
  constructor
  · rintro ⟨h1, h2⟩
    exact ⟨by omega, h2.symm⟩
  · rintro ⟨h1, h2⟩
    refine ⟨?_, h2.symm⟩
    have := congrArg List.length h2
    rw [List.length_take, List.length_drop] at this
    omega
theorem occ_findT (s t : List Nat) : (Builtin.Str.occurrences (⟨s.toArray⟩ : Str) ⟨t.toArray⟩ 0 (⟨s.toArray⟩ : Str).length 1 = [] ∧ findT t s = none) ∨ ∃ i r, Builtin.Str.occurrences (⟨s.toArray⟩ : Str) ⟨t.toArray⟩ 0 (⟨s.toArray⟩ : Str).length 1 = i :: r ∧ findT t s = some i := by
  have hl := str_len s
  rcases StrLaws.occ_head ⟨s.toArray⟩ ⟨t.toArray⟩ 1 (Nat.le_refl _) with ⟨e, hn⟩ | ⟨i, r, e, ha, hn⟩
  · refine .inl ⟨e, ?_⟩
    cases h : findT t s with
    | none => rfl
    | some j =>
      obtain ⟨h1, h2, _⟩ := findT_some t h
      exact absurd (by rw [hl]; exact (at_pre s t j).mpr ⟨h1, h2⟩) (hn j)
  · refine .inr ⟨i, r, e, ?_⟩
    rw [hl] at ha hn
    obtain ⟨h1, h2⟩ := (at_pre s t i).mp ha
    cases h : findT t s with
    | none => exact absurd h2 (findT_none t h i h1)
    | some j =>
      obtain ⟨h3, h4, h5⟩ := findT_some t h
      congr 1
      rcases Nat.lt_trichotomy i j with q | q | q
      · exact absurd h2 (h5 i q)
      · exact q.symm
      · exact absurd ((at_pre s t j).mpr ⟨h3, h4⟩) (hn j q)
theorem in_findT (s t : List Nat) : (!(Builtin.Str.occurrences (⟨s.toArray⟩ : Str) ⟨t.toArray⟩ 0 (⟨s.toArray⟩ : Str).length 1).isEmpty) = (findT t s).isSome := by
  rcases occ_findT s t with ⟨e, h⟩ | ⟨i, r, e, h⟩ <;> rw [e, h] <;> rfl
theorem find_findS (s t : List Nat) : Txt.find (⟨s.toArray⟩ : Str) ⟨t.toArray⟩ = findS t s := by
  unfold Txt.find findS
  rcases occ_findT s t with ⟨e, h⟩ | ⟨i, r, e, h⟩ <;> rw [e, h]
theorem starts_eq (s t : List Nat) : Txt.startswith (⟨s.toArray⟩ : Str) ⟨t.toArray⟩ = t.isPrefixOf s := by
  unfold Txt.startswith
  have h := at_pre s t 0
  unfold StrLaws.At at h
  rw [Bool.eq_iff_iff, Bool.and_eq_true, decide_eq_true_eq, List.isPrefixOf_iff_prefix, str_len s]
  rw [h]
  simp
section
variable {G : Gam} {X : Cx} {W : WX} {e a b c : Expr} {pos p2 : Pos} {f g h : Sto → Mem → Res D} {fs : Sto → Mem → Res (List D)} {m : Mem} {as : List Addr} {H : Hp} {σ : L2.St} {δ : Sto} {K : PySem.W.Frag} {C : Ctx} {rest : List Expr}
variable {ea eb ec : E}

/-! ### in, not in -/
theorem op_in_dct (hu : X.A.units + 1 < cLine) : OpR X (compareOp .In) (fun x y H Q => ∃ a o, y = .ref a ∧ DGet H a x o ∧ Q (.bl o.isSome) H) := by
  intro pins s σ H x y v u Q I rx ry h
  obtain ⟨a, o, rfl, g, q⟩ := h
  cases ry
  exact d_in hu I g rx fun s' I' => ⟨.bl o.isSome, H, I', rfl, q⟩
theorem op_nin_dct (hu : X.A.units + 1 < cLine) : OpR X (compareOp .NotIn) (fun x y H Q => ∃ a o, y = .ref a ∧ DGet H a x o ∧ Q (.bl (!o.isSome)) H) := by
  intro pins s σ H x y v u Q I rx ry h
  obtain ⟨a, o, rfl, g, q⟩ := h
  cases ry
  exact d_notIn hu I g rx fun s' I' => ⟨.bl (!o.isSome), H, I', rfl, q⟩
theorem rep_flat {d : D} {v : V} (r : Rep G K as H d v) (h : flat d = true) : flatV v = true := by
  cases d <;> first
    | exact absurd (show false = true from h) Bool.false_ne_true
    | skip
  · cases rep_non r; rfl
  · cases rep_bl r; rfl
  · cases rep_int r; rfl
  · cases rep_str r; rfl
theorem reps_flat : ∀ {ds : List D} {vs : List V}, Reps G K as H ds vs → ds.all flat = true → vs.all flatV = true
  | [], vs, r, _ => by simp only [Reps] at r; subst r; rfl
  | d :: ds, vs, r, h => by
    simp only [Reps] at r
    obtain ⟨v, t, rfl, r1, r2⟩ := r
    rw [List.all_cons, Bool.and_eq_true] at h
    rw [List.all_cons, rep_flat r1 h.1, reps_flat r2 h.2]
    rfl
theorem rep_eqV {d d' : D} {v v' : V} (r : Rep G K as H d v) (r' : Rep G K as H d' v') (h : flat d = true) (h' : flat d' = true) : eqV v v' = eqFlat d d' := by
  cases d <;> first
    | exact absurd (show false = true from h) Bool.false_ne_true
    | skip
  all_goals cases d' <;> first
    | exact absurd (show false = true from h') Bool.false_ne_true
    | skip
  all_goals first
    | cases rep_non r
    | cases rep_bl r
    | cases rep_int r
    | cases rep_str r
  all_goals first
    | cases rep_non r'
    | cases rep_bl r'
    | cases rep_int r'
    | cases rep_str r'
  all_goals first
    | rfl
    | (simp [eqV, eqFlat, D.beq]; done)
    | (simp only [eqV, eqFlat, D.beq]; exact beq_str _ _)
theorem reps_any {d : D} {v : V} (r : Rep G K as H d v) (h : flat d = true) : ∀ {ds : List D} {vs : List V}, Reps G K as H ds vs → ds.all flat = true → inV v vs = ds.any fun y => eqFlat y d
  | [], vs, rs, _ => by simp only [Reps] at rs; subst rs; rfl
  | y :: ds, vs, rs, hs => by
    simp only [Reps] at rs
    obtain ⟨u, t, rfl, r1, r2⟩ := rs
    rw [List.all_cons, Bool.and_eq_true] at hs
    have ih := reps_any r h r2 hs.2
    unfold inV at ih ⊢
    rw [List.any_cons, List.any_cons, ih, rep_eqV r1 r hs.1 h]
theorem in_core {d d' : D} {x y : V} {k : Bool} (R : Rel G K as m H) (r1 : Rep G K as H d x) (r2 : Rep G K as H d' y) (h : inD m d d' = some k) :
    (∃ i j, x = .str i ∧ y = .str j ∧ k = (!(Builtin.Str.occurrences j i 0 j.length 1).isEmpty)) ∨
    (∃ p xs, y = .ref p ∧ (SqL K H p xs ∨ SqT K H p xs) ∧ flatV x = true ∧ xs.all flatV = true ∧ k = inV x xs) ∨
    (∃ a o, y = .ref a ∧ DGet H a x o ∧ k = o.isSome) := by
  unfold inD at h
  split at h
  · cases h
    cases rep_str r1
    cases rep_str r2
    exact .inl ⟨_, _, rfl, rfl, (in_findT _ _).symm⟩
  · obtain ⟨p, vs, rfl, _, hp, rs⟩ := rep_tup r2
    split at h
    · rename_i hf
      rw [Bool.and_eq_true] at hf
      cases h
      exact .inr (.inl ⟨p, vs, rfl, .inr (SqT.of hp), rep_flat r1 hf.1, reps_flat rs hf.2, (reps_any r1 hf.1 rs hf.2).symm⟩)
    · cases h
  · obtain ⟨p, rfl, hp⟩ := rep_ref r2
    split at h
    · rename_i e
      split at h
      · rename_i hk
        cases h
        obtain ⟨o, h1, h2, h3⟩ := get_ok (R.at_ _ p _ hp e) hk r1
        refine .inr (.inr ⟨p, o, rfl, h1, ?_⟩)
        cases e2 : dGet _ d with
        | none => rw [h3 e2]; rfl
        | some z => obtain ⟨v, e3, _⟩ := h2 z e2; rw [e3]; rfl
      · cases h
    · rename_i e
      obtain ⟨vs, h0, rs⟩ := R.lst hp e
      split at h
      · rename_i hf
        rw [Bool.and_eq_true] at hf
        cases h
        exact .inr (.inl ⟨p, vs, rfl, .inl (SqL.of h0), rep_flat r1 hf.1, reps_flat rs hf.2, (reps_any r1 hf.1 rs hf.2).symm⟩)
      · cases h
    · cases h
  · cases h
theorem cm_in : CmOk G K .inn (fun x y H Q => (∃ i j, x = .str i ∧ y = .str j ∧ Q (.bl (!(Builtin.Str.occurrences j i 0 j.length 1).isEmpty)) H) ∨ rIn K false x y H Q ∨ ∃ a o, y = .ref a ∧ DGet H a x o ∧ Q (.bl o.isSome) H) := by
  intro Ex as m H d d' x y Q R r1 r2 q
  obtain ⟨k, e, q⟩ := of_bl R q
  rcases in_core R r1 r2 e with ⟨i, j, h1, h2, rfl⟩ | ⟨p, xs, h1, h2, h3, h4, rfl⟩ | ⟨a, o, h1, h2, rfl⟩
  · exact .inl ⟨i, j, h1, h2, q⟩
  · exact .inr (.inl ⟨p, xs, h1, h2, h3, h4, q⟩)
  · exact .inr (.inr ⟨a, o, h1, h2, q⟩)
theorem cm_nin : CmOk G K .nin (fun x y H Q => (∃ i j, x = .str i ∧ y = .str j ∧ Q (.bl (!(!(Builtin.Str.occurrences j i 0 j.length 1).isEmpty))) H) ∨ rIn K true x y H Q ∨ ∃ a o, y = .ref a ∧ DGet H a x o ∧ Q (.bl (!o.isSome)) H) := by
  intro Ex as m H d d' x y Q R r1 r2 q
  obtain ⟨k, e, q⟩ := of_bl R q
  obtain ⟨k', e', rfl⟩ := Option.map_eq_some_iff.mp e
  rcases in_core R r1 r2 e' with ⟨i, j, h1, h2, rfl⟩ | ⟨p, xs, h1, h2, h3, h4, rfl⟩ | ⟨a, o, h1, h2, rfl⟩
  · exact .inl ⟨i, j, h1, h2, q⟩
  · exact .inr (.inl ⟨p, xs, h1, h2, h3, h4, q⟩)
  · exact .inr (.inr ⟨a, o, h1, h2, q⟩)
theorem or_in (hu : X.A.units + 1 < cLine) : OpR X (compareOp .In) (fun x y H Q => (∃ i j, x = .str i ∧ y = .str j ∧ Q (.bl (!(Builtin.Str.occurrences j i 0 j.length 1).isEmpty)) H) ∨ rIn X.K false x y H Q ∨ ∃ a o, y = .ref a ∧ DGet H a x o ∧ Q (.bl o.isSome) H) := op_in_str.or (op_in_seq.or (op_in_dct hu))
theorem or_nin (hu : X.A.units + 1 < cLine) : OpR X (compareOp .NotIn) (fun x y H Q => (∃ i j, x = .str i ∧ y = .str j ∧ Q (.bl (!(!(Builtin.Str.occurrences j i 0 j.length 1).isEmpty))) H) ∨ rIn X.K true x y H Q ∨ ∃ a o, y = .ref a ∧ DGet H a x o ∧ Q (.bl (!o.isSome)) H) := op_notin_str.or (op_notIn_seq.or (op_nin_dct hu))

/-! ### calls of built-in functions -/
def BiOk (G : Gam) (K : PySem.W.Frag) (b : Bi) (r : List V → Hp → VK → Prop) : Prop := ∀ (Ex : Nat → Hp → Prop) (as : List Addr) (m : Mem) (H : Hp) (ds : List D) (vs : List V) (Q : VK), Rel G K as m H → Reps G K as H ds vs →
  Out G K Ex as H (bi b ds m) (fun d as' m' H' => ∀ v, Rep G K as' H' d v → Q v H') → r vs H Q
variable {x : Str} {id : String} {es : List Expr} {el : Es} {r : List V → Hp → VK → Prop} {bb : Bi}
theorem es_bi (hc : CallR X (.builtin id) r) (hr : BiOk G X.K bb r) (hg : Gl X x) (hm : X.mg x = none) (hv : bootBuiltins x = some (.builtin id)) (ha : PA X (e :: es) (rdA G X.K W (evalEs C el))) (hn : x ≠ "__name__" := by decide) (hdb : (x == ("__debug__" : Str)) = false := by decide)
    (he : starEach (e :: es) X.env = (false, eval e X.env) :: starEach es X.env := by rfl) (hpl : (backTo pos (starEach es X.env)).any (·.1) = false := by rfl) : PE X (.Call (.Name x p2) (e :: es) [] pos) (rdE G X.K W (evalE C (.bi bb el))) :=
  pe_imp (pe_callB hc hg hm hv ha hn hdb he hpl) fun σ H Q q => (rdE.args q).imp fun vs H1 ⟨as, m, ds, R, r, o⟩ => hr _ as m H1 ds vs Q R r o
theorem es_bty (hc : CallR X (.type id) r) (hr : BiOk G X.K bb r) (hg : Gl X x) (hm : X.mg x = none) (hv : bootBuiltins x = some (.type id)) (ha : PA X (e :: es) (rdA G X.K W (evalEs C el))) (hn : x ≠ "__name__" := by decide) (hdb : (x == ("__debug__" : Str)) = false := by decide)
    (he : starEach (e :: es) X.env = (false, eval e X.env) :: starEach es X.env := by rfl) (hpl : (backTo pos (starEach es X.env)).any (·.1) = false := by rfl) : PE X (.Call (.Name x p2) (e :: es) [] pos) (rdE G X.K W (evalE C (.bi bb el))) :=
  pe_imp (pe_callTy hc hg hm hv ha hn hdb he hpl) fun σ H Q q => (rdE.args q).imp fun vs H1 ⟨as, m, ds, R, r, o⟩ => hr _ as m H1 ds vs Q R r o
theorem reps1 {d : D} {vs : List V} (r : Reps G K as H [d] vs) : ∃ v, vs = [v] ∧ Rep G K as H d v := by
  simp only [Reps] at r
  obtain ⟨v, t, rfl, h, rfl⟩ := r
  exact ⟨v, rfl, h⟩
theorem reps2 {d d' : D} {vs : List V} (r : Reps G K as H [d, d'] vs) : ∃ v v', vs = [v, v'] ∧ Rep G K as H d v ∧ Rep G K as H d' v' := by
  simp only [Reps] at r
  obtain ⟨v, t, rfl, h, v', t', rfl, h', rfl⟩ := r
  exact ⟨v, v', rfl, h, h'⟩
theorem kvsK_len : ∀ {kvs : List (D × D)} {ks : List (Key × V)}, KvsK G K as H kvs ks → ks.length = kvs.length
  | [], _, h => by cases (show _ = _ from h); rfl
  | _ :: _, _, ⟨_, _, _, e, _, _, h⟩ => by subst e; simp [kvsK_len h]
theorem kvsT_len : ∀ {kvs : List (D × D)} {ks : List (List Key × V)}, KvsT G K as H kvs ks → ks.length = kvs.length
  | [], _, h => by cases (show _ = _ from h); rfl
  | _ :: _, _, ⟨_, _, _, e, _, _, h⟩ => by subst e; simp [kvsT_len h]
theorem bo_len : BiOk G K .len (fun xs H Q => (∃ (x : V) (n : Nat), xs = [x] ∧ LenV K x H n ∧ Q (V.int (n : Int)) H) ∨ (∃ a kvs, xs = [V.ref a] ∧ H a = some (.dK kvs) ∧ Q (V.int kvs.length) H) ∨ rLenT xs H Q) := by
  intro Ex as m H ds vs Q R r q
  unfold bi at q
  split at q <;> first
    | exact q.elim
    | skip
  all_goals rename_i hb; try (cases hb; done)
  obtain ⟨v, rfl, r1⟩ := reps1 r
  rename_i d
  obtain ⟨d', e0, q⟩ := opt_ok q
  obtain ⟨n, hn, rfl⟩ := Option.map_eq_some_iff.mp e0
  have q := fin_d (v := V.int (n : Int)) R q (by simp only [Rep])
  unfold lenD at hn
  split at hn <;> first
    | (cases hn; done)
    | skip
  · split at hn
    · rename_i hl
      cases hn
      cases rep_str r1
      exact .inl ⟨_, _, rfl, ⟨by rw [str_len, line_eq]; exact hl, (str_len _).symm⟩, q⟩
    · cases hn
  · cases hn
    obtain ⟨p, vs, rfl, _, hp, rs⟩ := rep_tup r1
    exact .inl ⟨_, _, rfl, .inr ⟨vs, SqT.of hp, rs.len.symm⟩, q⟩
  · cases hn
    obtain ⟨p, vs, rfl, hp, rs⟩ := rep_rol r1
    exact .inl ⟨_, _, rfl, .inl ⟨vs, hp.seq, rs.len.symm⟩, q⟩
  · obtain ⟨p, rfl, hp⟩ := rep_ref r1
    split at hn
    · cases hn
      obtain ⟨vs, h0, rs⟩ := R.lst hp (by assumption)
      exact .inl ⟨_, _, rfl, .inl ⟨vs, SqL.of h0, rs.len.symm⟩, q⟩
    · cases hn
      obtain ⟨ks, h0, rs⟩ := R.at_ _ p _ hp (by assumption)
      rw [← kvsK_len rs] at q
      exact .inr (.inl ⟨p, ks, rfl, h0, q⟩)
    · cases hn
      obtain ⟨ks, h0, rs⟩ := R.at_ _ p _ hp (by assumption)
      rw [← kvsT_len rs] at q
      exact .inr (.inr ⟨p, ks, rfl, h0, q⟩)
    · cases hn
theorem cr_len' : CallR X (.builtin "len") (fun xs H Q => (∃ (x : V) (n : Nat), xs = [x] ∧ LenV X.K x H n ∧ Q (V.int (n : Int)) H) ∨ (∃ a kvs, xs = [V.ref a] ∧ H a = some (.dK kvs) ∧ Q (V.int kvs.length) H) ∨ rLenT xs H Q) := call_len.or (call_lenD.or call_len_dT)
theorem allB_some : ∀ {ds : List D} {bs : List Bool}, allB ds = some bs → ds = bs.map .bl
  | [], _, h => by cases h; rfl
  | .bl b :: r, bs, h => by
    obtain ⟨t, ht, rfl⟩ := Option.map_eq_some_iff.mp h
    rw [allB_some ht]; rfl
  | .non :: _, _, h | .int _ :: _, _, h | .str _ :: _, _, h | .tup _ :: _, _, h | .rol _ :: _, _, h | .ins _ _ :: _, _, h | .ref _ :: _, _, h | .exc _ :: _, _, h | .clo _ _ :: _, _, h => by cases h
theorem allI_some : ∀ {ds : List D} {bs : List Int}, allI ds = some bs → ds = bs.map .int
  | [], _, h => by cases h; rfl
  | .int b :: r, bs, h => by
    obtain ⟨t, ht, rfl⟩ := Option.map_eq_some_iff.mp h
    rw [allI_some ht]; rfl
  | .non :: _, _, h | .bl _ :: _, _, h | .str _ :: _, _, h | .tup _ :: _, _, h | .rol _ :: _, _, h | .ins _ _ :: _, _, h | .ref _ :: _, _, h | .exc _ :: _, _, h | .clo _ _ :: _, _, h => by cases h
theorem allS_some : ∀ {ds : List D} {bs : List (List Nat)}, allS ds = some bs → ds = bs.map .str
  | [], _, h => by cases h; rfl
  | .str b :: r, bs, h => by
    obtain ⟨t, ht, rfl⟩ := Option.map_eq_some_iff.mp h
    rw [allS_some ht]; rfl
  | .non :: _, _, h | .bl _ :: _, _, h | .int _ :: _, _, h | .tup _ :: _, _, h | .rol _ :: _, _, h | .ins _ _ :: _, _, h | .ref _ :: _, _, h | .exc _ :: _, _, h | .clo _ _ :: _, _, h => by cases h
theorem reps_bls : ∀ {bs : List Bool} {vs : List V}, Reps G K as H (bs.map .bl) vs → vs = bs.map V.bl
  | [], vs, r => by simpa only [List.map_nil, Reps] using r
  | b :: bs, vs, r => by
    simp only [List.map_cons, Reps] at r
    obtain ⟨v, t, rfl, r1, r2⟩ := r
    rw [rep_bl r1, reps_bls r2]; rfl
theorem reps_ints : ∀ {bs : List Int} {vs : List V}, Reps G K as H (bs.map .int) vs → vs = bs.map V.int
  | [], vs, r => by simpa only [List.map_nil, Reps] using r
  | b :: bs, vs, r => by
    simp only [List.map_cons, Reps] at r
    obtain ⟨v, t, rfl, r1, r2⟩ := r
    rw [rep_int r1, reps_ints r2]; rfl
theorem reps_strs : ∀ {bs : List (List Nat)} {vs : List V}, Reps G K as H (bs.map .str) vs → vs = (bs.map fun s => (⟨s.toArray⟩ : Str)).map V.str
  | [], vs, r => by simpa only [List.map_nil, Reps] using r
  | b :: bs, vs, r => by
    simp only [List.map_cons, Reps] at r
    obtain ⟨v, t, rfl, r1, r2⟩ := r
    rw [rep_str r1, reps_strs r2]; rfl
theorem one_list {d : D} {n : Nat} {ds : List D} {v : V} (R : Rel G K as m H) (r1 : Rep G K as H (.ref n) v) (h : rdL m n = some ds) : ∃ p vs, v = .ref p ∧ SqL K H p vs ∧ Reps G K as H ds vs := seq_of R r1 h
theorem bo_all : BiOk G K .all (rAll K) := by
  intro Ex as m H ds vs Q R r q
  unfold bi at q
  split at q <;> first
    | exact q.elim
    | skip
  all_goals rename_i hb; try (cases hb; done)
  obtain ⟨v, rfl, r1⟩ := reps1 r
  obtain ⟨d', e, q⟩ := opt_ok q
  obtain ⟨bs, hn, rfl⟩ := Option.map_eq_some_iff.mp e
  obtain ⟨l, hl, hb⟩ := Option.bind_eq_some_iff.mp hn
  obtain ⟨p, vs, rfl, h0, rs⟩ := one_list (d := .non) R r1 hl
  rw [allB_some hb] at rs
  rw [reps_bls rs] at h0
  exact ⟨p, bs, rfl, h0, fin_d R q (by simp only [Rep])⟩
theorem bo_any : BiOk G K .any (rAny K) := by
  intro Ex as m H ds vs Q R r q
  unfold bi at q
  split at q <;> first
    | exact q.elim
    | skip
  all_goals rename_i hb; try (cases hb; done)
  obtain ⟨v, rfl, r1⟩ := reps1 r
  obtain ⟨d', e, q⟩ := opt_ok q
  obtain ⟨bs, hn, rfl⟩ := Option.map_eq_some_iff.mp e
  obtain ⟨l, hl, hb⟩ := Option.bind_eq_some_iff.mp hn
  obtain ⟨p, vs, rfl, h0, rs⟩ := one_list (d := .non) R r1 hl
  rw [allB_some hb] at rs
  rw [reps_bls rs] at h0
  exact ⟨p, bs, rfl, h0, fin_d R q (by simp only [Rep])⟩
theorem bo_sum : BiOk G K .sum (rSum K) := by
  intro Ex as m H ds vs Q R r q
  unfold bi at q
  split at q <;> first
    | exact q.elim
    | skip
  all_goals rename_i hb; try (cases hb; done)
  obtain ⟨v, rfl, r1⟩ := reps1 r
  obtain ⟨d', e, q⟩ := opt_ok q
  obtain ⟨bs, hn, rfl⟩ := Option.map_eq_some_iff.mp e
  obtain ⟨l, hl, hb⟩ := Option.bind_eq_some_iff.mp hn
  obtain ⟨p, vs, rfl, h0, rs⟩ := one_list (d := .non) R r1 hl
  rw [allI_some hb] at rs
  rw [reps_ints rs] at h0
  exact ⟨p, bs, rfl, h0, fin_d R q (by simp only [Rep])⟩
end
end FS

namespace FS
open PySem L2
section
variable {G : Gam} {X : Cx} {W : WX} {e a b c : Expr} {pos p2 p3 : Pos} {f g h : Sto → Mem → Res D} {fs : Sto → Mem → Res (List D)} {m : Mem} {as : List Addr} {H : Hp} {σ : L2.St} {δ : Sto} {K : PySem.W.Frag} {C : Ctx} {rest : List Expr}
variable {ea eb ec : E} {x : Str} {id : String} {es : List Expr} {el : Es} {r : List V → Hp → VK → Prop} {bb : Bi}
theorem foldl_min : ∀ (l : List Int) (x : Int), (l.foldl min x = x ∨ l.foldl min x ∈ l) ∧ l.foldl min x ≤ x ∧ ∀ y ∈ l, l.foldl min x ≤ y
  | [], x => ⟨.inl rfl, Int.le_refl _, fun y h => absurd h (List.not_mem_nil)⟩
  | a :: l, x => by
    obtain ⟨h1, h2, h3⟩ := foldl_min l (min x a)
    refine ⟨?_, ?_, fun y hy => ?_⟩
    · rw [List.foldl_cons]
      rcases h1 with h1 | h1
      · rw [h1]
        rcases Int.le_total x a with q | q
        · exact .inl (Int.min_eq_left q)
        · rw [Int.min_eq_right q]; exact .inr List.mem_cons_self
      · exact .inr (List.mem_cons_of_mem _ h1)
    · rw [List.foldl_cons]; exact Int.le_trans h2 (Int.min_le_left _ _)
    · rw [List.foldl_cons]
      rcases List.mem_cons.mp hy with rfl | hy
      · exact Int.le_trans h2 (Int.min_le_right _ _)
      · exact h3 y hy
theorem foldl_max : ∀ (l : List Int) (x : Int), (l.foldl max x = x ∨ l.foldl max x ∈ l) ∧ x ≤ l.foldl max x ∧ ∀ y ∈ l, y ≤ l.foldl max x
  | [], x => ⟨.inl rfl, Int.le_refl _, fun y h => absurd h (List.not_mem_nil)⟩
  | a :: l, x => by
    obtain ⟨h1, h2, h3⟩ := foldl_max l (max x a)
    refine ⟨?_, ?_, fun y hy => ?_⟩
    · rw [List.foldl_cons]
      rcases h1 with h1 | h1
      · rw [h1]
        rcases Int.le_total x a with q | q
        · rw [Int.max_eq_right q]; exact .inr List.mem_cons_self
        · exact .inl (Int.max_eq_left q)
      · exact .inr (List.mem_cons_of_mem _ h1)
    · rw [List.foldl_cons]; exact Int.le_trans (Int.le_max_left _ _) h2
    · rw [List.foldl_cons]
      rcases List.mem_cons.mp hy with rfl | hy
      · exact Int.le_trans (Int.le_max_right _ _) h2
      · exact h3 y hy
theorem bo_min1 : BiOk G K .min1 (rMin K) := by
  intro Ex as m H ds vs Q R r q
  unfold bi at q
  split at q <;> first
    | exact q.elim
    | skip
  all_goals rename_i hb; try (cases hb; done)
  obtain ⟨v, rfl, r1⟩ := reps1 r
  obtain ⟨d', e, q⟩ := opt_ok q
  obtain ⟨bs, hn, rfl⟩ := Option.map_eq_some_iff.mp e
  obtain ⟨ns, hn, hm⟩ := Option.bind_eq_some_iff.mp hn
  obtain ⟨l, hl, hb⟩ := Option.bind_eq_some_iff.mp hn
  obtain ⟨p, vs, rfl, h0, rs⟩ := one_list (d := .non) R r1 hl
  rw [allI_some hb] at rs
  rw [reps_ints rs] at h0
  have q := fin_d (v := V.int bs) R q (by simp only [Rep])
  cases ns with
  | nil => cases hm
  | cons z ns =>
    cases hm
    obtain ⟨h1, h2, h3⟩ := foldl_min ns z
    refine ⟨p, _, rfl, h0, Nat.succ_pos _, fun mm hmm hle => ?_⟩
    have hmem : ns.foldl min z ∈ z :: ns := by
      rcases h1 with h1 | h1
      · rw [h1]; exact List.mem_cons_self
      · exact List.mem_cons_of_mem _ h1
    have e1 : mm = ns.foldl min z := by
      apply Int.le_antisymm (hle _ hmem)
      rcases List.mem_cons.mp hmm with e | e
      · rw [e]; exact h2
      · exact h3 _ e
    rw [e1]; exact q
theorem bo_max1 : BiOk G K .max1 (rMax K) := by
  intro Ex as m H ds vs Q R r q
  unfold bi at q
  split at q <;> first
    | exact q.elim
    | skip
  all_goals rename_i hb; try (cases hb; done)
  obtain ⟨v, rfl, r1⟩ := reps1 r
  obtain ⟨d', e, q⟩ := opt_ok q
  obtain ⟨bs, hn, rfl⟩ := Option.map_eq_some_iff.mp e
  obtain ⟨ns, hn, hm⟩ := Option.bind_eq_some_iff.mp hn
  obtain ⟨l, hl, hb⟩ := Option.bind_eq_some_iff.mp hn
  obtain ⟨p, vs, rfl, h0, rs⟩ := one_list (d := .non) R r1 hl
  rw [allI_some hb] at rs
  rw [reps_ints rs] at h0
  have q := fin_d (v := V.int bs) R q (by simp only [Rep])
  cases ns with
  | nil => cases hm
  | cons z ns =>
    cases hm
    obtain ⟨h1, h2, h3⟩ := foldl_max ns z
    refine ⟨p, _, rfl, h0, Nat.succ_pos _, fun mm hmm hle => ?_⟩
    have hmem : ns.foldl max z ∈ z :: ns := by
      rcases h1 with h1 | h1
      · rw [h1]; exact List.mem_cons_self
      · exact List.mem_cons_of_mem _ h1
    have e1 : mm = ns.foldl max z := by
      apply Int.le_antisymm _ (hle _ hmem)
      rcases List.mem_cons.mp hmm with e | e
      · rw [e]; exact h2
      · exact h3 _ e
    rw [e1]; exact q
theorem bo_min2 : BiOk G K .min2 (fun xs H Q => ∃ i j, xs = [.int i, .int j] ∧ Q (.int (if j < i then j else i)) H) := by
  intro Ex as m H ds vs Q R r q
  unfold bi at q
  split at q <;> first
    | exact q.elim
    | skip
  all_goals rename_i hb; try (cases hb; done)
  obtain ⟨v, v', rfl, r1, r2⟩ := reps2 r
  cases rep_int r1
  cases rep_int r2
  exact ⟨_, _, rfl, fin_d R q (by simp only [Rep])⟩
theorem bo_max2 : BiOk G K .max2 (fun xs H Q => ∃ i j, xs = [.int i, .int j] ∧ Q (.int (if j > i then j else i)) H) := by
  intro Ex as m H ds vs Q R r q
  unfold bi at q
  split at q <;> first
    | exact q.elim
    | skip
  all_goals rename_i hb; try (cases hb; done)
  obtain ⟨v, v', rfl, r1, r2⟩ := reps2 r
  cases rep_int r1
  cases rep_int r2
  exact ⟨_, _, rfl, fin_d R q (by simp only [Rep])⟩
theorem bo_abs : BiOk G K .abs (fun xs H Q => ∃ i, xs = [.int i] ∧ Q (.int (if i < 0 then -i else i)) H) := by
  intro Ex as m H ds vs Q R r q
  unfold bi at q
  split at q <;> first
    | exact q.elim
    | skip
  all_goals rename_i hb; try (cases hb; done)
  obtain ⟨v, rfl, r1⟩ := reps1 r
  cases rep_int r1
  exact ⟨_, rfl, fin_d R q (by simp only [Rep])⟩
theorem bo_int : BiOk G K .int (fun xs H Q => (∃ i, xs = [.int i] ∧ Q (.int i) H) ∨ ∃ k, xs = [.bl k] ∧ Q (.int (if k then 1 else 0)) H) := by
  intro Ex as m H ds vs Q R r q
  unfold bi at q
  split at q <;> first
    | exact q.elim
    | skip
  all_goals rename_i hb; try (cases hb; done)
  all_goals obtain ⟨v, rfl, r1⟩ := reps1 r
  · cases rep_int r1
    exact .inl ⟨_, rfl, fin_d R q (by simp only [Rep])⟩
  · cases rep_bl r1
    exact .inr ⟨_, rfl, fin_d R q (by simp only [Rep])⟩
theorem log_small {i : Int} (h0 : 0 ≤ i) (h : i < 1000000) : i.natAbs.log2 < 1920 := by
  by_cases z : i.natAbs = 0
  · rw [z]; decide
  · exact Nat.lt_of_lt_of_le ((Nat.log2_lt z).mpr (show i.natAbs < 2 ^ 20 by omega)) (by decide)
theorem str_dig {i : Int} (h0 : 0 ≤ i) : Str.ofString (toString i) = ⟨(digits i.toNat).toArray⟩ := by
  have e : i = ((i.toNat : Nat) : Int) := by omega
  conv => lhs; rw [e]
  rw [← TL.mk_tl (Str.ofString (toString ((i.toNat : Nat) : Int))), TL.tl_num]
  rfl
theorem bo_str : BiOk G K .str (fun xs H Q => ∃ i, xs = [.int i] ∧ i.natAbs.log2 < 1920 ∧ Q (.str (Str.ofString (toString i))) H) := by
  intro Ex as m H ds vs Q R r q
  unfold bi at q
  split at q <;> first
    | exact q.elim
    | skip
  all_goals rename_i hb; try (cases hb; done)
  obtain ⟨v, rfl, r1⟩ := reps1 r
  cases rep_int r1
  split at q
  · rename_i hi
    exact ⟨_, rfl, log_small hi.1 hi.2, fin_d R q (by simp only [Rep]; rw [str_dig hi.1])⟩
  · exact q.elim
theorem kvsK_keys : ∀ {kvs : List (D × D)} {ks : List (Key × V)}, KvsK G K as H kvs ks → Reps G K as H (kvs.map (·.1)) (ks.map fun kv => kV kv.1)
  | [], _, h => by cases (show _ = _ from h); exact reps_nil
  | p :: _, _, ⟨k, v, t, e, h1, _, h⟩ => by
    subst e
    refine reps_cons ?_ (kvsK_keys h)
    show Rep G K as _ p.1 _
    cases hp : p.1 <;> rw [hp] at h1 <;> first
      | (cases h1; simp only [Rep]; rfl)
      | exact nomatch h1
theorem bo_list : BiOk G K .list (fun xs H Q => (∃ p ys, xs = [.ref p] ∧ (SqL K H p ys ∨ SqT K H p ys) ∧ ∀ l, H l = none → Q (.ref l) (upd H l (.lst ys))) ∨ rListD xs H Q) := by
  intro Ex as m H ds vs Q R r q
  unfold bi at q
  split at q <;> first
    | exact q.elim
    | skip
  all_goals rename_i hb; try (cases hb; done)
  all_goals obtain ⟨v, rfl, r1⟩ := reps1 r
  · obtain ⟨p, rfl, hp⟩ := rep_ref r1
    split at q
    · obtain ⟨vs, h0, rs⟩ := R.lst hp (by assumption)
      exact .inl ⟨p, vs, rfl, .inl (SqL.of h0), fin_l R q rs⟩
    · obtain ⟨ks, h0, rs⟩ := R.at_ _ p _ hp (by assumption)
      exact .inr ⟨p, ks, rfl, h0, fin_l R q (kvsK_keys rs)⟩
    · exact q.elim
  · obtain ⟨p, vs, rfl, hp, rs⟩ := rep_rol r1
    exact .inl ⟨p, vs, rfl, .inl hp.seq, fin_l R q rs⟩
  · obtain ⟨p, vs, rfl, _, hp, rs⟩ := rep_tup r1
    exact .inl ⟨p, vs, rfl, .inr (SqT.of hp), fin_l R q rs⟩
theorem cr_list (hc : X.calm = true) : CallR X (.type "list") (fun xs H Q => (∃ p ys, xs = [.ref p] ∧ (SqL X.K H p ys ∨ SqT X.K H p ys) ∧ ∀ l, H l = none → Q (.ref l) (upd H l (.lst ys))) ∨ rListD xs H Q) := call_list_of.or (call_list_dK hc)

/-! ### isinstance -/
def tagU (G : Gam) : Tag → Value
  | .own c => .ref (G.cls c)
  | .int => .type "int"
  | .bool => .type "bool"
  | .str => .type "str"
  | .non => .type "NoneType"
  | .tuple => .type "tuple"
  | .list => .type "list"
def tyU (G : Gam) : Ty → Value
  | .cls c => .ref (G.cls c)
  | .int => .type "int"
  | .bool => .type "bool"
  | .str => .type "str"
  | .list => .type "list"
  | .tuple => .type "tuple"
  | .vale => .type "ValueError"
def tyV' (G : Gam) : Ty → V
  | .cls c => .ref (G.cls c)
  | .int => .ty "int"
  | .bool => .ty "bool"
  | .str => .ty "str"
  | .list => .ty "list"
  | .tuple => .ty "tuple"
  | .vale => .ty "ValueError"
theorem ty_clsV (t : Ty) : ClsV (tyV' G t) (tyU G t) := by
  cases t <;> first
    | exact ClsV.own _
    | exact ClsV.ty _
structure IsiOk (G : Gam) (K : PySem.W.Frag) (sub : Nat → Nat → Bool) (vale : Nat → Bool) : Prop where
  ins : ∀ c, (G.imm c = true ∨ G.mu c = true) → PySem.W.findIn K (.ref (G.cls c)) "__class__" = some (some (.builtin "object.__class__")) ∧ PySem.W.mroIn K (G.cls c) (.type "object") = some true
  dsc : PySem.W.specialIn K (.builtin "object.__class__") "__get__" = some (some (.builtin "getset_descriptor.__get__")) ∧ PySem.W.takesIn K (.builtin "object.__class__") = some true
  one : ∀ c e, (G.imm c = true ∨ G.mu c = true) → G.kc e = true → PySem.W.kitOne K (.ref (G.cls c)) (.ref (G.cls e)) = some (sub c e)
  oth : ∀ n e, n ∈ ["int", "bool", "str", "NoneType", "tuple", "list"] → G.kc e = true → PySem.W.kitOne K (.type n) (.ref (G.cls e)) = some false
  bty : ∀ c n, n ∈ ["int", "bool", "str", "tuple", "list"] → (G.imm c = true ∨ G.mu c = true) → PySem.W.kitOne K (.ref (G.cls c)) (.type n) = some false
def tyK (G : Gam) : Ty → Bool
  | .cls c => G.kc c
  | .vale => false
  | _ => true
def tagK (G : Gam) : Tag → Prop
  | .own c => G.imm c = true ∨ G.mu c = true
  | _ => True
theorem isi_one {sub : Nat → Nat → Bool} {vale : Nat → Bool} (IO : IsiOk G K sub vale) : ∀ {g : Tag} {t : Ty}, tagK G g → tyK G t = true → PySem.W.kitOne K (tagU G g) (tyU G t) = some (tagIs sub vale g t)
  | .own c, .cls e, hg, ht => IO.one c e hg ht
  | .own c, .int, hg, _ => IO.bty c "int" (by decide) hg
  | .own c, .bool, hg, _ => IO.bty c "bool" (by decide) hg
  | .own c, .str, hg, _ => IO.bty c "str" (by decide) hg
  | .own c, .list, hg, _ => IO.bty c "list" (by decide) hg
  | .own c, .tuple, hg, _ => IO.bty c "tuple" (by decide) hg
  | .own c, .vale, _, ht => nomatch ht
  | .int, .cls e, _, ht => IO.oth "int" e (by decide) ht
  | .int, .int, _, _ => kit_ty (a := "int") (b := "int") (r := true) (by decide +kernel)
  | .int, .bool, _, _ => kit_ty (a := "int") (b := "bool") (r := false) (by decide +kernel)
  | .int, .str, _, _ => kit_ty (a := "int") (b := "str") (r := false) (by decide +kernel)
  | .int, .list, _, _ => kit_ty (a := "int") (b := "list") (r := false) (by decide +kernel)
  | .int, .tuple, _, _ => kit_ty (a := "int") (b := "tuple") (r := false) (by decide +kernel)
  | .int, .vale, _, ht => nomatch ht
  | .bool, .cls e, _, ht => IO.oth "bool" e (by decide) ht
  | .bool, .int, _, _ => kit_ty (a := "bool") (b := "int") (r := true) (by decide +kernel)
  | .bool, .bool, _, _ => kit_ty (a := "bool") (b := "bool") (r := true) (by decide +kernel)
  | .bool, .str, _, _ => kit_ty (a := "bool") (b := "str") (r := false) (by decide +kernel)
  | .bool, .list, _, _ => kit_ty (a := "bool") (b := "list") (r := false) (by decide +kernel)
  | .bool, .tuple, _, _ => kit_ty (a := "bool") (b := "tuple") (r := false) (by decide +kernel)
  | .bool, .vale, _, ht => nomatch ht
  | .str, .cls e, _, ht => IO.oth "str" e (by decide) ht
  | .str, .int, _, _ => kit_ty (a := "str") (b := "int") (r := false) (by decide +kernel)
  | .str, .bool, _, _ => kit_ty (a := "str") (b := "bool") (r := false) (by decide +kernel)
  | .str, .str, _, _ => kit_ty (a := "str") (b := "str") (r := true) (by decide +kernel)
  | .str, .list, _, _ => kit_ty (a := "str") (b := "list") (r := false) (by decide +kernel)
  | .str, .tuple, _, _ => kit_ty (a := "str") (b := "tuple") (r := false) (by decide +kernel)
  | .str, .vale, _, ht => nomatch ht
  | .non, .cls e, _, ht => IO.oth "NoneType" e (by decide) ht
  | .non, .int, _, _ => kit_ty (a := "NoneType") (b := "int") (r := false) (by decide +kernel)
  | .non, .bool, _, _ => kit_ty (a := "NoneType") (b := "bool") (r := false) (by decide +kernel)
  | .non, .str, _, _ => kit_ty (a := "NoneType") (b := "str") (r := false) (by decide +kernel)
  | .non, .list, _, _ => kit_ty (a := "NoneType") (b := "list") (r := false) (by decide +kernel)
  | .non, .tuple, _, _ => kit_ty (a := "NoneType") (b := "tuple") (r := false) (by decide +kernel)
  | .non, .vale, _, ht => nomatch ht
  | .tuple, .cls e, _, ht => IO.oth "tuple" e (by decide) ht
  | .tuple, .int, _, _ => kit_ty (a := "tuple") (b := "int") (r := false) (by decide +kernel)
  | .tuple, .bool, _, _ => kit_ty (a := "tuple") (b := "bool") (r := false) (by decide +kernel)
  | .tuple, .str, _, _ => kit_ty (a := "tuple") (b := "str") (r := false) (by decide +kernel)
  | .tuple, .list, _, _ => kit_ty (a := "tuple") (b := "list") (r := false) (by decide +kernel)
  | .tuple, .tuple, _, _ => kit_ty (a := "tuple") (b := "tuple") (r := true) (by decide +kernel)
  | .tuple, .vale, _, ht => nomatch ht
  | .list, .cls e, _, ht => IO.oth "list" e (by decide) ht
  | .list, .int, _, _ => kit_ty (a := "list") (b := "int") (r := false) (by decide +kernel)
  | .list, .bool, _, _ => kit_ty (a := "list") (b := "bool") (r := false) (by decide +kernel)
  | .list, .str, _, _ => kit_ty (a := "list") (b := "str") (r := false) (by decide +kernel)
  | .list, .list, _, _ => kit_ty (a := "list") (b := "list") (r := true) (by decide +kernel)
  | .list, .tuple, _, _ => kit_ty (a := "list") (b := "tuple") (r := false) (by decide +kernel)
  | .list, .vale, _, ht => nomatch ht
theorem isi_any {sub : Nat → Nat → Bool} {vale : Nat → Bool} (IO : IsiOk G K sub vale) {g : Tag} (hg : tagK G g) : ∀ {ts : List Ty}, ts.all (tyK G) = true → PySem.W.kitAny K (tagU G g) (ts.map (tyU G)) = some (ts.any fun t => tagIs sub vale g t)
  | [], _ => kitAny_nil
  | t :: ts, h => by
    rw [List.all_cons, Bool.and_eq_true] at h
    rw [List.map_cons]
    refine kitAny_cons (isi_one IO hg h.1) (fun e => ?_) fun e => ?_
    · rw [List.any_cons, e, Bool.false_or]; exact isi_any IO hg h.2
    · rw [List.any_cons, e, Bool.true_or]
theorem tag_ty {sub : Nat → Nat → Bool} {vale : Nat → Bool} (GO : GOk G K) (IO : IsiOk G K sub vale) (R : Rel G K as m H) {d : D} {v : V} {g : Tag} (r : Rep G K as H d v) (h : tagOf m d = some g) : TyX K H v (tagU G g) ∧ tagK G g := by
  cases d with
  | non => cases rep_non r; cases h; exact ⟨.base .non, trivial⟩
  | bl _ => cases rep_bl r; cases h; exact ⟨.base (.bl _), trivial⟩
  | int _ => cases rep_int r; cases h; exact ⟨.base (.int _), trivial⟩
  | str _ => cases rep_str r; cases h; exact ⟨.base (.str _), trivial⟩
  | tup ds => obtain ⟨p, vs, rfl, _, hp, _⟩ := rep_tup r; cases h; exact ⟨.base (.tup hp), trivial⟩
  | rol ds =>
    obtain ⟨p, vs, rfl, hp, _⟩ := rep_rol r
    cases h
    rcases hp with ⟨_, o, hp⟩ | ⟨o, its, n, hk, hc, _⟩
    · exact ⟨.base (.frz hp), trivial⟩
    · exact ⟨.kList hk hc, trivial⟩
  | ins c ds =>
    obtain ⟨p, dx, vs, rfl, _, hc, hp, _⟩ := rep_ins r
    cases h
    exact ⟨.base (.ins hp (GO.cls c (.inl hc)) (IO.ins c (.inl hc)).1 IO.dsc.1 IO.dsc.2 (IO.ins c (.inl hc)).2), .inl hc⟩
  | ref n =>
    obtain ⟨p, rfl, hp⟩ := rep_ref r
    unfold tagOf at h
    simp only at h
    split at h
    · cases h
      obtain ⟨vs, h0, rs⟩ := R.lst hp (by assumption)
      exact ⟨.base (.lst h0), trivial⟩
    · cases h
      obtain ⟨dx, vs, hc, h0, rs⟩ := R.at_ _ p _ hp (by assumption)
      exact ⟨.base (.ins h0 (GO.cls _ (.inr hc)) (IO.ins _ (.inr hc)).1 IO.dsc.1 IO.dsc.2 (IO.ins _ (.inr hc)).2), .inr hc⟩
    · cases h
  | _ => cases h
theorem out_opt {Ex : Nat → Hp → Prop} {Q : VK} {o : Option Tag} {k : Tag → Bool} (R : Rel G K as m H) (q : Out G K Ex as H (match o with | some g => .ok (.bl (k g)) m | none => .no) fun d as' m' H' => ∀ v, Rep G K as' H' d v → Q v H') : ∃ g, o = some g ∧ Q (.bl (k g)) H := by
  cases o with
  | none => exact q.elim
  | some g => exact ⟨g, rfl, fin_d R q (by simp only [Rep])⟩
theorem es_isi {t : Ty} (GO : GOk G X.K) (IO : IsiOk G X.K C.sub C.vale) (hg : Gl X "isinstance") (hm : X.mg "isinstance" = none) (hv : bootBuiltins "isinstance" = some (.builtin "isinstance")) (ha : PE X a (rdE G X.K W (evalE C ea))) (hb : PE X b (tC (tyV' G t))) (ht : tyK G t = true)
    (hs : starEach [a, b] X.env = (false, eval a X.env) :: starEach [b] X.env := by rfl) (hs2 : starEach [b] X.env = (false, eval b X.env) :: starEach [] X.env := by rfl) (hpl : (backTo pos (starEach [b] X.env)).any (·.1) = false := by rfl) :
    PE X (.Call (.Name "isinstance" p2) [a, b] [] pos) (rdE G X.K W (evalE C (.isi ea [t]))) :=
  pe_imp (pe_callB call_isi hg hm hv (pa_cons ha (pa_cons hb pa_nil hs2) hs) (by decide) (by decide) hs hpl) fun σ H Q q => (rdE.to q).imp fun v H1 ⟨as, m, d, R, r, o⟩ => by
    obtain ⟨g, e, q⟩ := out_opt R o
    obtain ⟨h1, h2⟩ := tag_ty GO IO R r e
    exact ⟨v, tyV' G t, tagU G g, tyU G t, _, rfl, ty_clsV t, h1, isi_one IO h2 ht, by simpa using q⟩
theorem pair_cls : ∀ ts : List Ty, Paired ClsV (ts.map (tyV' G)) (ts.map (tyU G))
  | [] => .nil
  | t :: ts => .cons (ty_clsV t) (pair_cls ts)
theorem pcl_nil : PA X [] (fun _ H Q => Q (([] : List Ty).map (tyV' G)) H) := pa_nil
theorem pcl_cons {t : Ty} {ts : List Ty} {bs : List Expr} (hb : PE X b (tC (tyV' G t))) (hr : PA X bs (fun _ H Q => Q (ts.map (tyV' G)) H)) (hs : starEach (b :: bs) X.env = (false, eval b X.env) :: starEach bs X.env := by rfl) :
    PA X (b :: bs) (fun _ H Q => Q ((t :: ts).map (tyV' G)) H) := pa_cons hb hr hs
theorem es_isiT {ts : List Ty} {k : Nat} {bs : List Expr} (GO : GOk G X.K) (IO : IsiOk G X.K C.sub C.vale) (hg : Gl X "isinstance") (hm : X.mg "isinstance" = none) (hv : bootBuiltins "isinstance" = some (.builtin "isinstance")) (ha : PE X a (rdE G X.K W (evalE C ea)))
    (hb : PA X bs (fun σ H Q => Q (ts.map (tyV' G)) H)) (ht : ts.all (tyK G) = true) (hl : ts.length < 100)
    (hs : starEach [a, .Tuple bs k p3] X.env = (false, eval a X.env) :: starEach [.Tuple bs k p3] X.env := by rfl) (hs2 : starEach [.Tuple bs k p3] X.env = (false, eval (.Tuple bs k p3) X.env) :: starEach [] X.env := by rfl) (hpl : (backTo pos (starEach [.Tuple bs k p3] X.env)).any (·.1) = false := by rfl) :
    PE X (.Call (.Name "isinstance" p2) [a, .Tuple bs k p3] [] pos) (rdE G X.K W (evalE C (.isi ea ts))) :=
  pe_imp (pe_callB call_isiT hg hm hv (pa_cons ha (pa_cons (pe_tup hb) pa_nil hs2) hs) (by decide) (by decide) hs hpl) fun σ H Q q => (rdE.to q).imp fun v H1 ⟨as, m, d, R, r, o⟩ => by
    refine ⟨by rw [List.length_map, line_eq]; unfold LIM; omega, fun tp htp => ?_⟩
    obtain ⟨g', R', hn⟩ := R.newI htp (.tup (ts.map (tyV' G)))
    obtain ⟨g, e, q⟩ := out_opt (k := fun g => ts.any fun t => tagIs C.sub C.vale g t) R' (o.later g')
    obtain ⟨h1, h2⟩ := tag_ty GO IO R' (r.grow g') e
    exact ⟨v, tp, ts.map (tyV' G), tagU G g, ts.map (tyU G), _, rfl, upd_same, pair_cls ts, h1, isi_any IO h2 ht, q⟩

/-! ### methods -/
def knd : Bk → String
  | .s => "str"
  | .l => "list"
  | .d => "dict"
theorem bk_ty (R : Rel G K as m H) {d : D} {v : V} {k : Bk} (r : Rep G K as H d v) (h : bk m d = some k) (hk : k ≠ .d) : tyV K (knd k) v H := by
  cases d with
  | str s => cases rep_str r; cases h; rfl
  | ref n =>
    obtain ⟨p, rfl, hp⟩ := rep_ref r
    unfold bk at h
    simp only at h
    split at h
    · cases h
      obtain ⟨vs, h0, rs⟩ := R.lst hp (by assumption)
      exact .inl ⟨rfl, vs, SqL.of h0⟩
    · cases h; exact absurd rfl hk
    · cases h
  | _ => cases h
def BmOk (G : Gam) (K : PySem.W.Frag) (b : Bm) (k : Bk) (r : V → List V → Hp → VK → Prop) : Prop := ∀ (Ex : Nat → Hp → Prop) (as : List Addr) (m : Mem) (H : Hp) (d : D) (ds : List D) (v : V) (vs : List V) (Q : VK), Rel G K as m H → bk m d = some k → Rep G K as H d v → Reps G K as H ds vs →
  Out G K Ex as H (bm b d ds m) (fun d as' m' H' => ∀ v, Rep G K as' H' d v → Q v H') → r v vs H Q
variable {rm : V → List V → Hp → VK → Prop} {o : Expr} {eo : E} {bm' : Bm} {k : Bk} {name : Str}
theorem bm_split {Ex : Nat → Hp → Prop} {Q : VK} (hk : k ≠ .d) (h1 : ∀ k', bmK bm' k' = true → k' = k) (S : St2 G K as H δ σ) (R : Rel G K as m H)
    (q : Out G K Ex as H (evalE C (.bm eo bm' el) δ m) fun d as' m' H' => ∀ v, Rep G K as' H' d v → Q v H') :
    Out G K Ex as H (evalE C eo δ m) fun d as' m' H' => ∀ v, Rep G K as' H' d v → tyV K (knd k) v H' ∧ Rel G K as' m' H' ∧ Grow as H as' H' ∧ Out G K Ex as' H' ((evalEs C el δ m').bind fun ds m2 => if bk m2 d = some k then bm bm' d ds m2 else .no) fun d as' m' H' => ∀ v, Rep G K as' H' d v → Q v H' := by
  simp only [evalE] at q
  refine q.bind.imp fun d as' m' H' R' g' o' v r => ?_
  cases hb : bk m' d with
  | none => rw [hb] at o'; exact o'.elim
  | some k' =>
    rw [hb] at o'
    simp only at o'
    split at o'
    · rename_i hk'
      have := h1 k' hk'
      subst this
      exact ⟨bk_ty R' r hb hk, R', g', o'⟩
    · exact o'.elim
theorem es_bm (pa : PlainAttrs (knd k)) (slot : Slot (knd k) name id) (hty : typeOf (.builtin id) = pure (.type "method_descriptor")) (hmt : MtR X id rm) (hk : k ≠ .d) (h1 : ∀ k', bmK bm' k' = true → k' = k) (hr : BmOk G X.K bm' k rm)
    (ho : PE X o (rdE G X.K W (evalE C eo))) (ha : PA X (e :: es) (rdA G X.K W (evalEs C el)))
    (hbase : attributeBase o name X.env (eval o X.env) = eval o X.env := by rfl)
    (hfew : ((backTo pos (starEach (e :: es) X.env)).all (fun x => !x.1) && (backToKw pos (keywordEach [] X.env)).all (fun x => x.1.isSome)
      && decide ((e :: es).length + ([] : List Keyword).length + (if ([] : List Keyword).isEmpty then 0 else 1) < 30)) = true := by rfl)
    (hline : (p2.endLine == pos.line) = true := by rfl) (hs : starEach (e :: es) X.env = (false, eval e X.env) :: starEach es X.env := by rfl) (hplain : (backTo pos (starEach es X.env)).any (·.1) = false := by rfl) :
    PE X (.Call (.Attribute o name p2) (e :: es) [] pos) (rdE G X.K W (evalE C (.bm eo bm' el))) :=
  pe_imp (pe_bm pa slot hty hmt ho ha hbase hfew hline hs hplain) fun σ H Q ⟨as, m, δ, R, S, q⟩ =>
    ⟨as, m, δ, R, S, (bm_split hk h1 S R q).imp fun d as1 m1 H1 R1 g1 q1 v r1 => ⟨(q1 v r1).1, as1, m1, δ, R1, S.grow g1, (q1 v r1).2.2.2.bind.imp fun ds as2 m2 H2 R2 g2 q2 vs r2 => by
      split at q2
      · rename_i hb
        exact hr _ as2 m2 H2 d ds v vs Q R2 hb (r1.grow g2) r2 q2
      · exact q2.elim⟩⟩
theorem es_bm0 (pa : PlainAttrs (knd k)) (slot : Slot (knd k) name id) (hty : typeOf (.builtin id) = pure (.type "method_descriptor")) (hmt : MtR X id rm) (hk : k ≠ .d) (h1 : ∀ k', bmK bm' k' = true → k' = k) (hr : BmOk G X.K bm' k rm)
    (ho : PE X o (rdE G X.K W (evalE C eo))) (hbase : attributeBase o name X.env (eval o X.env) = eval o X.env := by rfl) (hline : (p2.endLine == pos.line) = true := by rfl) :
    PE X (.Call (.Attribute o name p2) [] [] pos) (rdE G X.K W (evalE C (.bm eo bm' .nil))) :=
  pe_imp (pe_bm0 pa slot hty hmt ho hbase hline) fun σ H Q ⟨as, m, δ, R, S, q⟩ =>
    ⟨as, m, δ, R, S, (bm_split hk h1 S R q).imp fun d as1 m1 H1 R1 g1 q1 v r1 => ⟨(q1 v r1).1, by
      have q2 := (q1 v r1).2.2.2
      simp only [evalEs, Res.bind] at q2
      split at q2
      · rename_i hb
        exact hr _ as1 m1 H1 d [] v [] Q R1 hb r1 reps_nil q2
      · exact q2.elim⟩⟩
theorem mo_append : BmOk G K .append .l rAppend := by
  intro Ex as m H d ds v vs Q R hk r rs q
  unfold bm at q
  split at q <;> first
    | exact q.elim
    | skip
  all_goals rename_i hb; try (cases hb; done)
  obtain ⟨p, rfl, hp⟩ := rep_ref r
  obtain ⟨u, rfl, ru⟩ := reps1 rs
  split at q
  · obtain ⟨xs, h0, rx⟩ := R.lst hp (by assumption)
    split at q
    · rename_i hl
      refine ⟨p, xs, u, rfl, rfl, h0, by rw [rx.len, line_eq]; exact hl, ?_⟩
      obtain ⟨g, R'⟩ := R.put hp (o := .lst (xs ++ [u])) (mo := .lst (_ ++ [_])) fun g => ⟨_, upd_same, reps_app (rx.grow g) (reps_one (ru.grow g))⟩
      exact q _ _ R' g _ (by simp only [Rep])
    · exact q.elim
  · exact q.elim
theorem getLast_at {α : Type} {l : List α} {x : α} (h : l.getLast? = some x) : l[l.length - 1]? = some x := by rw [← List.getLast?_eq_getElem?]; exact h
theorem reps_dropLast {ds : List D} {vs : List V} (h : Reps G K as H ds vs) : Reps G K as H ds.dropLast vs.dropLast := by
  rw [List.dropLast_eq_take, List.dropLast_eq_take, h.len]; exact reps_take _ h
theorem mo_pop : BmOk G K .pop .l rPop := by
  intro Ex as m H d ds v vs Q R hk r rs q
  unfold bm at q
  split at q <;> first
    | exact q.elim
    | skip
  all_goals rename_i hb; try (cases hb; done)
  obtain ⟨p, rfl, hp⟩ := rep_ref r
  have e0 : vs = [] := by simpa only [Reps] using rs
  subst e0
  split at q
  · obtain ⟨xs, h0, rx⟩ := R.lst hp (by assumption)
    split at q
    · rename_i hl
      obtain ⟨u, h1, h2⟩ := rx.get (getLast_at hl)
      rw [← rx.len] at h1
      refine ⟨p, xs, u, rfl, rfl, h0, h1, ?_⟩
      obtain ⟨g, R'⟩ := R.put hp (o := .lst xs.dropLast) (mo := .lst (List.dropLast _)) fun g => ⟨_, upd_same, (reps_dropLast rx).grow g⟩
      exact q _ _ R' g _ (h2.grow g)
    · exact q.elim
  · exact q.elim
theorem mo_clear : BmOk G K .clear .l rClear := by
  intro Ex as m H d ds v vs Q R hk r rs q
  unfold bm at q
  split at q <;> first
    | exact q.elim
    | skip
  all_goals rename_i hb; try (cases hb; done)
  obtain ⟨p, rfl, hp⟩ := rep_ref r
  have e0 : vs = [] := by simpa only [Reps] using rs
  subst e0
  split at q
  · obtain ⟨xs, h0, rx⟩ := R.lst hp (by assumption)
    refine ⟨p, xs, rfl, rfl, h0, ?_⟩
    obtain ⟨g, R'⟩ := R.put hp (o := .lst []) (mo := .lst []) fun g => ⟨_, upd_same, reps_nil⟩
    exact q _ _ R' g _ (by simp only [Rep])
  · exact q.elim
theorem mo_find : BmOk G K .find .s (fun x xs H Q => ∃ a b, x = .str a ∧ xs = [.str b] ∧ Q (.int (Txt.find a b)) H) := by
  intro Ex as m H d ds v vs Q R hk r rs q
  unfold bm at q
  split at q <;> first
    | exact q.elim
    | skip
  all_goals rename_i hb; try (cases hb; done)
  obtain ⟨u, rfl, ru⟩ := reps1 rs
  cases rep_str r
  cases rep_str ru
  exact ⟨_, _, rfl, rfl, by rw [find_findS]; exact fin_d R q (by simp only [Rep])⟩
theorem mo_starts : BmOk G K .startswith .s (fun x xs H Q => ∃ a b, x = .str a ∧ xs = [.str b] ∧ Q (.bl (Txt.startswith a b)) H) := by
  intro Ex as m H d ds v vs Q R hk r rs q
  unfold bm at q
  split at q <;> first
    | exact q.elim
    | skip
  all_goals rename_i hb; try (cases hb; done)
  obtain ⟨u, rfl, ru⟩ := reps1 rs
  cases rep_str r
  cases rep_str ru
  exact ⟨_, _, rfl, rfl, by rw [starts_eq]; exact fin_d R q (by simp only [Rep])⟩

/-! ### new dicts, lists read backward -/
theorem es_dct0K : PE X (.Dict [] [] pos) (rdE G X.K W (evalE C (.dct0 false))) := pe_imp pe_dnewK fun σ H Q ⟨as, m, δ, R, S, q⟩ p hp => by
  obtain ⟨g, R', hi⟩ := R.newM (mo := .dct false false []) (o := .dK []) hp fun g => ⟨[], upd_same, rfl⟩
  exact q _ _ R' g _ (by simp only [Rep]; exact ⟨p, rfl, hi⟩)
theorem es_dct0T : PE X (.Dict [] [] pos) (rdE G X.K W (evalE C (.dct0 true))) := pe_imp pe_dnewT fun σ H Q ⟨as, m, δ, R, S, q⟩ p hp => by
  obtain ⟨g, R', hi⟩ := R.newM (mo := .dct true false []) (o := .dT []) hp fun g => ⟨[], upd_same, rfl⟩
  exact q _ _ R' g _ (by simp only [Rep]; exact ⟨p, rfl, hi⟩)
theorem es_rev {kk : Nat} {p1 : Pos} {p4 : Pos} (ha : PE X a (rdE G X.K W (evalE C ea))) : PE X (.Subscript a (.Slice none none (some (.UnaryOp .USub (.Constant (.int 1) kk p1) p2)) p3) p4) (rdE G X.K W (evalE C (.rev ea))) :=
  pe_imp (pe_revL ha) fun σ H Q q => (rdE.to q).imp fun v H1 ⟨as, m, d, R, r, o⟩ => by
    cases d <;> first
      | exact (show False from o).elim
      | skip
    rename_i n
    simp only at o
    cases e : rdL m n with
    | none => rw [e] at o; exact o.elim
    | some ds =>
      rw [e] at o
      obtain ⟨p, vs, rfl, h0, rs⟩ := one_list (d := .non) R r e
      exact ⟨p, vs, rfl, h0, fin_l R o (reps_rev rs)⟩
theorem evalEs2 {k : List D → Mem → Res D} : (evalEs C (.cons ea (.cons eb .nil)) δ m).bind k = (evalE C ea δ m).bind fun x m1 => (evalE C eb δ m1).bind fun y m2 => k [x, y] m2 := by
  simp only [evalEs]
  cases evalE C ea δ m with
  | ok x m1 =>
    simp only [Res.bind]
    cases evalE C eb δ m1 <;> rfl
  | _ => rfl
theorem evalEs1 {k : List D → Mem → Res D} : (evalEs C (.cons ea .nil) δ m).bind k = (evalE C ea δ m).bind fun x m1 => k [x] m1 := by
  simp only [evalEs]
  cases evalE C ea δ m <;> rfl
/-- d.get(k, x) -/
theorem es_get (hu : X.A.units + 1 < cLine) (ho : PE X o (rdE G X.K W (evalE C eo))) (ha : PE X a (rdE G X.K W (evalE C ea))) (hb : PE X b (rdE G X.K W (evalE C eb))) (M : M2 X o "get" p2 a b pos) :
    PE X (.Call (.Attribute o "get" p2) [a, b] [] pos) (rdE G X.K W (evalE C (.bm eo .get (.cons ea (.cons eb .nil))))) :=
  pe_imp (pe_dget2 hu ho ha hb M) fun σ H Q ⟨as, m, δ, R, S, q⟩ => ⟨as, m, δ, R, S, by
    simp only [evalE] at q
    refine q.bind.imp fun d as1 m1 H1 R1 g1 q1 v r1 => ?_
    cases hb : bk m1 d with
    | none => rw [hb] at q1; exact q1.elim
    | some k =>
      rw [hb] at q1
      cases k <;> first
        | exact (show False from q1).elim
        | skip
      cases d <;> first
        | (cases hb; done)
        | skip
      rename_i n
      have hkd : ∃ t z kvs, m1[n]? = some (.dct t z kvs) := by
        unfold bk at hb
        simp only at hb
        split at hb
        · cases hb
        · exact ⟨_, _, _, by assumption⟩
        · cases hb
      obtain ⟨t, z, kvs, hd⟩ := hkd
      obtain ⟨p, rfl, hp⟩ := rep_ref r1
      have hD : IsD H1 p := by
        have hm := R1.at_ n p _ hp hd
        cases t <;> cases z
        · obtain ⟨ks, h0, _⟩ := hm; exact .inl ⟨ks, .inl h0⟩
        · obtain ⟨ks, o, h0, _⟩ := hm; exact .inl ⟨ks, .inr ⟨o, h0⟩⟩
        · obtain ⟨ks, h0, _⟩ := hm; exact .inr ⟨ks, .inl h0⟩
        · obtain ⟨ks, o, h0, _⟩ := hm; exact .inr ⟨ks, .inr ⟨o, h0⟩⟩
      refine ⟨p, rfl, hD, as1, m1, δ, R1, S.grow g1, ?_⟩
      have q2 : Out G X.K (fun c H' => W (.ref (G.cls c)) none σ H') as1 H1 ((evalEs C (.cons ea (.cons eb .nil)) δ m1).bind fun ds m2 => if bk m2 (.ref n) = some .d then bm .get (.ref n) ds m2 else .no) _ := q1
      rw [evalEs2] at q2
      refine q2.bind.imp fun y as2 m2 H2 R2 g2 q2 u r2 => ⟨as2, m2, δ, R2, (S.grow g1).grow g2, ?_⟩
      refine q2.bind.imp fun w as3 m3 H3 R3 g3 q3 w' r3 => ?_
      split at q3
      · unfold bm at q3
        simp only at q3
        split at q3
        · split at q3
          · rename_i t' z' kvs' hm3 hk3
            obtain ⟨ov, h1, h2, h3⟩ := get_ok (R3.at_ n p _ ((g2.trans g3).ix hp) hm3) hk3 (r2.grow g3)
            refine ⟨ov, h1, ?_⟩
            cases e2 : dGet kvs' y with
            | none => rw [h3 e2]; rw [e2] at q3; exact fin_d R3 q3 r3
            | some z => obtain ⟨v, e3, hr⟩ := h2 z e2; rw [e3]; rw [e2] at q3; exact fin_d R3 q3 hr
          · exact q3.elim
        · exact q3.elim
      · exact q3.elim⟩
end
end FS

namespace FS
open PySem L2
def OutS (G : Gam) (K : PySem.W.Frag) (W : WX) (Z : Ends) (as : List Addr) (H : Hp) (r : SR) : Prop := match r with
  | .nx δ m => ∀ as' H' σ', Rel G K as' m H' → Grow as H as' H' → St2 G K as' H' δ σ' → Z.nx σ' H'
  | .rt d m => ∀ as' H' v, Rel G K as' m H' → Grow as H as' H' → Rep G K as' H' d v → Z.rt v H'
  | .bk δ m => ∀ as' H' σ', Rel G K as' m H' → Grow as H as' H' → St2 G K as' H' δ σ' → Z.bk σ' H'
  | .ct δ m => ∀ as' H' σ', Rel G K as' m H' → Grow as H as' H' → St2 G K as' H' δ σ' → Z.ct σ' H'
  | .ex c δ m => ∀ as' H' σ', Rel G K as' m H' → Grow as H as' H' → St2 G K as' H' δ σ' → W (.ref (G.cls c)) none σ' H'
  | .no => False
def rdS (G : Gam) (K : PySem.W.Frag) (W : WX) (f : Sto → Mem → SR) : TS := fun Z σ H => ∃ as m δ, Rel G K as m H ∧ St2 G K as H δ σ ∧ OutS G K W Z as H (f δ m)
section
variable {G : Gam} {X : Cx} {W : WX} {e a b c : Expr} {pos p2 p3 : Pos} {f g h : Sto → Mem → Res D} {fs : Sto → Mem → Res (List D)} {m : Mem} {as as' : List Addr} {H H' : Hp} {σ : L2.St} {δ : Sto} {K : PySem.W.Frag} {C : Ctx} {rest : List Expr} {Z Z' : Ends}
variable {ea eb ec : E} {r : SR}
theorem OutS.later (h : OutS G K W Z as H r) (g : Grow as H as' H') : OutS G K W Z as' H' r := by
  cases r with
  | no => exact h
  | rt d m => exact fun as1 H1 v R1 g1 r1 => h as1 H1 v R1 (g.trans g1) r1
  | _ => exact fun as1 H1 σ1 R1 g1 S1 => h as1 H1 σ1 R1 (g.trans g1) S1
/-- what follows a statement -/
theorem OutS.seq {k : Sto → Mem → SR} (h : OutS G K W Z as H (r.seq k)) : OutS G K W { Z with nx := fun σ' H' => ∃ as' m' δ', Rel G K as' m' H' ∧ St2 G K as' H' δ' σ' ∧ Grow as H as' H' ∧ OutS G K W Z as' H' (k δ' m') } as H r := by
  cases r with
  | nx δ m => exact fun as1 H1 σ1 R1 g1 S1 => ⟨as1, m, δ, R1, S1, g1, OutS.later (show OutS G K W Z as H (k δ m) from h) g1⟩
  | _ => exact h
/-- an expression, then the statement's own end -/
theorem OutS.toS {α : Type} {x : Res α} {k : α → Mem → SR} (S : St2 G K as H δ σ) (h : OutS G K W Z as H (x.toS δ k)) :
    Out G K (fun c H' => W (.ref (G.cls c)) none σ H') as H x fun d as' m' H' => OutS G K W Z as' H' (k d m') := by
  cases x with
  | ok d m => exact fun as1 H1 R1 g1 => OutS.later (show OutS G K W Z as H (k d m) from h) g1
  | ex c m => exact fun as1 H1 R1 g1 => h as1 H1 σ R1 g1 (S.grow g1)
  | no => exact h
theorem rdS.to {k : Sto → D → Mem → SR} (q : rdS G K W (fun δ m => (f δ m).toS δ (k δ)) Z σ H) :
    rdE G K W f σ H fun v H1 => ∃ as m δ d, Rel G K as m H1 ∧ St2 G K as H1 δ σ ∧ Rep G K as H1 d v ∧ OutS G K W Z as H1 (k δ d m) := by
  obtain ⟨as, m, δ, R, S, o⟩ := q
  exact ⟨as, m, δ, R, S, (OutS.toS S o).imp fun d as' m' H' R' g' o' v r => ⟨as', m', δ, d, R', S.grow g', r, o'⟩⟩
variable {st : Stmt} {sts : List Stmt} {s1 : S} {s2 : Ss}
theorem ss_nil : PSs X [] (rdS G X.K W (execSs C .nil)) := pss_imp pss_nil fun Z σ H ⟨as, m, δ, R, S, o⟩ => o as H σ R Grow.refl S
theorem ss_cons (h1 : PS X st (rdS G X.K W (execS C s1))) (h2 : PSs X sts (rdS G X.K W (execSs C s2))) : PSs X (st :: sts) (rdS G X.K W (execSs C (.cons s1 s2))) :=
  pss_imp (pss_cons h1 h2) fun Z σ H ⟨as, m, δ, R, S, o⟩ => ⟨as, m, δ, R, S, by
    have o2 := OutS.seq (show OutS G X.K W Z as H ((execS C s1 δ m).seq fun σ' m' => execSs C s2 σ' m') from o)
    cases hr : execS C s1 δ m with
    | nx δ1 m1 =>
      rw [hr] at o2
      intro as1 H1 σ1 R1 g1 S1
      obtain ⟨as2, m2, δ2, R2, S2, _, q⟩ := o2 as1 H1 σ1 R1 g1 S1
      exact ⟨as2, m2, δ2, R2, S2, q⟩
    | _ => rw [hr] at o2; exact o2⟩
theorem ss_expr (ha : PE X e (rdE G X.K W (evalE C ea))) (hs : swapsWith e none pos.line X.env = pure false := by rfl) : PS X (.Expr e pos) (rdS G X.K W (execS C (.ex ea))) :=
  ps_imp (ps_expr ha hs) fun Z σ H q => (rdS.to (k := fun δ _ m => .nx δ m) q).imp fun v H1 ⟨as, m, δ, d, R, S, r, o⟩ => o as H1 σ R Grow.refl S
theorem ss_doc {x j pos'} : PS X (.Expr (.Constant (.str x) j pos) pos') (rdS G X.K W (execS C .pss)) := ps_imp ps_doc fun Z σ H ⟨as, m, δ, R, S, o⟩ => o as H σ R Grow.refl S
theorem ss_ret (ha : PE X e (rdE G X.K W (evalE C ea))) : PS X (.Return (some e) pos) (rdS G X.K W (execS C (.ret ea))) :=
  ps_imp (ps_ret ha) fun Z σ H q => (rdS.to (k := fun _ d m => .rt d m) q).imp fun v H1 ⟨as, m, δ, d, R, S, r, o⟩ => o as H1 v R Grow.refl r
theorem ss_retN : PS X (.Return none pos) (rdS G X.K W (execS C .retN)) := ps_imp ps_retN fun Z σ H ⟨as, m, δ, R, S, o⟩ => o as H .non R Grow.refl (by simp only [Rep])
theorem ss_pass : PS X (.Pass pos) (rdS G X.K W (execS C .pss)) := ps_imp ps_pass fun Z σ H ⟨as, m, δ, R, S, o⟩ => o as H σ R Grow.refl S
theorem ss_brk : PS X (.Break pos) (rdS G X.K W (execS C .brk)) := ps_imp ps_break fun Z σ H ⟨as, m, δ, R, S, o⟩ => o as H σ R Grow.refl S
theorem ss_cnt : PS X (.Continue pos) (rdS G X.K W (execS C .cnt)) := ps_imp ps_continue fun Z σ H ⟨as, m, δ, R, S, o⟩ => o as H σ R Grow.refl S
theorem ss_if {p q : List Stmt} {sp sq : Ss} (hc : PT X c (rdT G X.K W (evalE C ec))) (ha : PSs X p (rdS G X.K W (execSs C sp))) (hb : PSs X q (rdS G X.K W (execSs C sq))) : PS X (.If c p q pos) (rdS G X.K W (execS C (.ifs ec sp sq))) :=
  ps_imp (ps_if hc ha hb) fun Z σ H ⟨as, m, δ, R, S, o⟩ => ⟨as, m, δ, R, S, (OutS.toS S (show OutS G X.K W Z as H ((evalE C ec δ m).toS δ fun d m1 => match d with
    | .bl true => execSs C sp δ m1
    | .bl false => execSs C sq δ m1
    | _ => .no) from o)).imp fun d as1 m1 H1 R1 g1 o1 => by
      cases d <;> first
        | exact (show False from o1).elim
        | skip
      rename_i k
      cases k with
      | true => exact ⟨true, rfl, as1, m1, δ, R1, S.grow g1, o1⟩
      | false => exact ⟨false, rfl, as1, m1, δ, R1, S.grow g1, o1⟩⟩
theorem ss_whl {body : List Stmt} {sb : Ss} (hp : PassesOwn (model X.prog X.w) X.A X.env X.xe) (hc : PT X c (rdT G X.K W (evalE C ec))) (hb : PSs X body (rdS G X.K W (execSs C sb))) : PS X (.While c body [] pos) (rdS G X.K W (execS C (.whl ec sb))) :=
  ps_imp (ps_while hp hc hb) fun Z σ H q => by
    refine ⟨fun k σ H => rdS G X.K W (whLoop (evalE C ec) (execSs C sb) k) Z σ H, ⟨C.fuel, q⟩, ?_⟩
    rintro k σ H ⟨as, m, δ, R, S, o⟩
    cases k with
    | zero => exact o.elim
    | succ k =>
      refine ⟨as, m, δ, R, S, (OutS.toS S (show OutS G X.K W Z as H ((evalE C ec δ m).toS δ fun b m1 => match b with
        | .bl true => (match execSs C sb δ m1 with
          | .nx σ2 m2 => whLoop (evalE C ec) (execSs C sb) k σ2 m2
          | .ct σ2 m2 => whLoop (evalE C ec) (execSs C sb) k σ2 m2
          | .bk σ2 m2 => .nx σ2 m2
          | r => r)
        | .bl false => .nx δ m1
        | _ => .no) from o)).imp fun d as1 m1 H1 R1 g1 o1 => ?_⟩
      cases d <;> first
        | exact (show False from o1).elim
        | skip
      rename_i kb
      cases kb with
      | false => exact ⟨false, rfl, o1 as1 H1 σ R1 Grow.refl (S.grow g1)⟩
      | true =>
        refine ⟨true, rfl, fun σ' H' => rdS G X.K W (whLoop (evalE C ec) (execSs C sb) k) Z σ' H', fun σ' H' w => ⟨k, Nat.lt_succ_self k, w⟩, as1, m1, δ, R1, S.grow g1, ?_⟩
        simp only at o1
        cases hr : execSs C sb δ m1 with
        | nx δ2 m2 => rw [hr] at o1; exact fun as2 H2 σ2 R2 g2 S2 => ⟨as2, m2, δ2, R2, S2, OutS.later o1 g2⟩
        | ct δ2 m2 => rw [hr] at o1; exact fun as2 H2 σ2 R2 g2 S2 => ⟨as2, m2, δ2, R2, S2, OutS.later o1 g2⟩
        | bk δ2 m2 => rw [hr] at o1; exact o1
        | rt d m2 => rw [hr] at o1; exact o1
        | ex c δ2 m2 => rw [hr] at o1; exact o1
        | no => rw [hr] at o1; exact o1

/-! ### targets -/
mutual
def tgS : Tg → List Nat
  | .nm i => [i]
  | .tp l => tgsS l
def tgsS : List Tg → List Nat
  | [] => []
  | t :: l => tgS t ++ tgsS l
end
/-- what a target's store leaves -/
def Fr (σ σ' : L2.St) (vs : List Nat) : Prop := σ'.length = σ.length ∧ ∀ j, j ∉ vs → σ'[j]? = σ[j]?
theorem Fr.trans {σ1 σ2 σ3 : L2.St} {u v : List Nat} (h1 : Fr σ1 σ2 u) (h2 : Fr σ2 σ3 v) : Fr σ1 σ3 (u ++ v) := ⟨h2.1.trans h1.1, fun j hj => by
  rw [List.mem_append, not_or] at hj
  rw [h2.2 j hj.2, h1.2 j hj.1]⟩
def gB (G : Gam) (K : PySem.W.Frag) (t : Tg) : TG := fun v σ H Q => ∃ as m δ d δ', Rel G K as m H ∧ St2 G K as H δ σ ∧ Rep G K as H d v ∧ bindT m t d δ = some δ' ∧ ∀ σ', St2 G K as H δ' σ' → Fr σ σ' (tgS t) → Q σ' H
def gBs (G : Gam) (K : PySem.W.Frag) (l : List Tg) : TGs := fun vs σ H Q => ∃ as m δ ds δ', Rel G K as m H ∧ St2 G K as H δ σ ∧ Reps G K as H ds vs ∧ bindTs m l ds δ = some δ' ∧ ∀ σ', St2 G K as H δ' σ' → Fr σ σ' (tgsS l) → Q σ' H
theorem pg_imp {t t' : TG} {e : Expr} (h : PG X e t) (hi : ∀ v σ H Q, t' v σ H Q → t v σ H Q) : PG X e t' := ⟨fun pins s σ H v u Q I r q => h.run pins s σ H v u Q I r (hi _ _ _ _ q)⟩
theorem pgs_imp {t t' : TGs} {e : List Expr} (h : PGs X e t) (hi : ∀ v σ H Q, t' v σ H Q → t v σ H Q) : PGs X e t' := ⟨fun pins s σ H v u Q I r q => h.run pins s σ H v u Q I r (hi _ _ _ _ q)⟩
theorem gg_name {i : Nat} {x : Str} (hN : X.N.Nodup) (hi : X.N[i]? = some x := by rfl) (hx : Loc X.env.scope x := by first | exact Or.inl rfl | exact Or.inr rfl) (hf : X.fn x = true ∨ X.env.scope.names.lookup x = some .local := by first | exact .inl rfl | exact .inr rfl) : PG X (.Name x pos) (gB G X.K (.nm i)) :=
  pg_imp (pg_name hN hi hx hf) fun v σ H Q ⟨as, m, δ, d, δ', R, S, r, hb, q⟩ => by
    simp only [bindT, Option.some.injEq] at hb
    subst hb
    exact q _ (S.set i r) ⟨by simp, fun j hj => by
      simp only [tgS, List.mem_singleton] at hj
      rw [List.getElem?_set_ne (Ne.symm hj)]⟩
theorem ggs_nil : PGs X [] (gBs G X.K []) := pgs_imp pgs_nil fun v σ H Q ⟨as, m, δ, ds, δ', R, S, r, hb, q⟩ => by
  cases ds with
  | nil =>
    simp only [bindTs, Option.some.injEq] at hb
    subst hb
    exact ⟨by simpa only [Reps] using r, q _ S ⟨rfl, fun _ _ => rfl⟩⟩
  | cons d ds => cases hb
theorem ggs_cons {e : Expr} {es : List Expr} {t : Tg} {l : List Tg} (h1 : PG X e (gB G X.K t)) (h2 : PGs X es (gBs G X.K l)) (hs : (assignEach (e :: es) X.env).map (·.2) = assign e X.env :: (assignEach es X.env).map (·.2) := by rfl) : PGs X (e :: es) (gBs G X.K (t :: l)) :=
  pgs_imp (pgs_cons h1 h2 hs) fun vs σ H Q ⟨as, m, δ, ds, δ', R, S, r, hb, q⟩ => by
    cases ds with
    | nil => cases hb
    | cons d ds =>
      simp only [Reps] at r
      obtain ⟨v, rr, rfl, r1, r2⟩ := r
      obtain ⟨δ1, h1, h2⟩ := Option.bind_eq_some_iff.mp (show (bindT m t d δ).bind (fun σ' => bindTs m l ds σ') = some δ' from hb)
      exact ⟨v, rr, rfl, as, m, δ, d, δ1, R, S, r1, h1, fun σ1 S1 f1 => ⟨as, m, δ1, ds, δ', R, S1, r2, h2, fun σ2 S2 f2 => q σ2 S2 (by simp only [tgsS]; exact f1.trans f2)⟩⟩
theorem gg_tup {es : List Expr} {k n : Nat} {l : List Tg} (hc : X.calm = true) (h : PGs X es (gBs G X.K l)) (hl : l.length = n := by rfl) (hn : (assignEach es X.env).length = n := by rfl) (hst : (assignEach es X.env).findIdx? (·.1) = none := by rfl) : PG X (.Tuple es k pos) (gB G X.K (.tp l)) :=
  pg_imp (pg_tup hc h hn hst) fun v σ H Q ⟨as, m, δ, d, δ', R, S, r, hb, q⟩ => by
    cases d <;> first
      | (cases hb; done)
      | skip
    rename_i ds
    obtain ⟨p, vs, rfl, _, hp, rs⟩ := rep_tup r
    have hb : bindTs m l ds δ = some δ' := hb
    refine ⟨p, vs, rfl, SqT.of hp, ?_, as, m, δ, ds, δ', R, S, rs, hb, fun σ' S' f' => q σ' S' (by simp only [tgS]; exact f')⟩
    have hlen : ∀ {l : List Tg} {ds : List D} {δ : Sto}, bindTs m l ds δ = some δ' → ds.length = l.length := by
      intro l
      induction l with
      | nil => intro ds δ h; cases ds with
        | nil => rfl
        | cons _ _ => cases h
      | cons t l ih => intro ds δ h; cases ds with
        | nil => cases h
        | cons d ds =>
          obtain ⟨_, _, h2⟩ := Option.bind_eq_some_iff.mp (show (bindT m t d δ).bind (fun σ' => bindTs m l ds σ') = some δ' from h)
          simp [ih h2]
    rw [rs.len, hlen hb, hl]
variable {tg : Expr} {t : Tg}
theorem ss_set {i : Nat} {x : Str} {pos' : Pos} (hN : X.N.Nodup) (ha : PE X e (rdE G X.K W (evalE C ea))) (hi : X.N[i]? = some x := by rfl) (hx : Loc X.env.scope x := by first | exact Or.inl rfl | exact Or.inr rfl) (hs : swapsWith e (some (.Name x pos')) pos.line X.env = pure false := by rfl) (hf : X.fn x = true ∨ X.env.scope.names.lookup x = some .local := by first | exact .inl rfl | exact .inr rfl) :
    PS X (.Assign [.Name x pos'] e pos) (rdS G X.K W (execS C (.set i ea))) :=
  ps_imp (ps_set hN hi hx ha hs hf) fun Z σ H q => (rdS.to (k := fun δ d m => .nx (δ.set i (some d)) m) q).imp fun v H1 ⟨as, m, δ, d, R, S, r, o⟩ => o as H1 _ R Grow.refl (S.set i r)
theorem ss_unp (ha : PE X e (rdE G X.K W (evalE C ea))) (hg : PG X tg (gB G X.K t)) (hs : swapsWithSole [tg] e pos.line X.env = pure false := by rfl) (hw : swappedStores [tg] e X.env = pure none := by rfl)
    (h1 : (assignEach [tg] X.env).map (·.2) = [assign tg X.env] := by rfl) : PS X (.Assign [tg] e pos) (rdS G X.K W (execS C (.unp t ea))) :=
  ps_imp (ps_asg ha hg hs hw h1) fun Z σ H q => (rdS.to (k := fun δ d m => match bindT m t d δ with
    | some σ' => .nx σ' m
    | none => .no) q).imp fun v H1 ⟨as, m, δ, d, R, S, r, o⟩ => by
      cases hb : bindT m t d δ with
      | none => rw [hb] at o; exact o.elim
      | some δ' => rw [hb] at o; exact ⟨as, m, δ, d, δ', R, S, r, hb, fun σ' S' _ => o as H1 σ' R Grow.refl S'⟩

/-! ### walks -/
/-- what an iterator tells while the guard holds -/
def ItOk (G : Gam) (K : PySem.W.Frag) (as0 : List Addr) (H0 : Hp) (ds : List D) (gd : Guard) (J : L2.It) : Prop :=
  ∀ (i : Nat) (as : List Addr) (m : Mem) (H : Hp), Rel G K as m H → Grow as0 H0 as H → gOk gd m = true →
    (i = ds.length → J.stop i H) ∧ ∀ d, ds[i]? = some d → J.go i H ∧ ∀ x H', J.yld i H x H' → Rel G K as m H' ∧ Grow as H as H' ∧ Rep G K as H' d x
def rdI (G : Gam) (K : PySem.W.Frag) (W : WX) (f : Sto → Mem → Res (List D × Guard)) : TI := fun σ H R => ∃ as m δ, Rel G K as m H ∧ St2 G K as H δ σ ∧
  Out G K (fun c H' => W (.ref (G.cls c)) none σ H') as H (f δ m) fun p as' m' H' => ∀ J, ItOk G K as' H' p.1 p.2 J → R J H'
theorem drop_at {α : Type} {l : List α} {i : Nat} (h : i < l.length) : ∃ d, l[i]? = some d ∧ l.drop i = d :: l.drop (i + 1) := ⟨l[i], List.getElem?_eq_getElem h, List.drop_eq_getElem_cons h⟩
theorem ss_for {iter : Expr} {body : List Stmt} {it : It} {sb : Ss} (hp : PassesOwn (model X.prog X.w) X.A X.env X.xe) (hc : X.calm = true) (hi : PI X tg iter (rdI G X.K W (evalI C it))) (hg : PG X tg (gB G X.K t)) (hb : PSs X body (rdS G X.K W (execSs C sb)))
    (hs : ∀ x, foldedSetIterable iter X.env x = pure x := by intro _; rfl) : PS X (.For tg iter body [] pos) (rdS G X.K W (execS C (.frs t it sb))) :=
  ps_imp (ps_for hp hc hi hg hb hs) fun Z σ H ⟨as, m, δ, R, S, o⟩ => ⟨as, m, δ, R, S, (OutS.toS S (show OutS G X.K W Z as H ((evalI C it δ m).toS δ fun p m1 => frLoop p.2 t (execSs C sb) p.1 δ m1) from o)).imp fun p as1 m1 H1 R1 g1 o1 J hJ => by
    obtain ⟨ds, gd⟩ := p
    refine ⟨fun i k σ H => k = ds.length - i ∧ i ≤ ds.length ∧ ∃ as m δ, Rel G X.K as m H ∧ St2 G X.K as H δ σ ∧ Grow as1 H1 as H ∧ OutS G X.K W Z as H (frLoop gd t (execSs C sb) (ds.drop i) δ m), ⟨ds.length, rfl, Nat.zero_le _, as1, m1, δ, R1, S.grow g1, Grow.refl, o1⟩, ?_⟩
    rintro i k σ H ⟨rfl, hle, as, m, δ, R, S, g, o⟩
    by_cases hlt : i < ds.length
    · obtain ⟨d, hd, e⟩ := drop_at hlt
      rw [e] at o
      simp only [frLoop] at o
      split at o
      · rename_i hgd
        obtain ⟨hgo, hy⟩ := (hJ i as m H R g hgd).2 d hd
        refine .inr ⟨hgo, fun σ' H' => ∃ as m δ, Rel G X.K as m H' ∧ St2 G X.K as H' δ σ' ∧ Grow as1 H1 as H' ∧ OutS G X.K W Z as H' (frLoop gd t (execSs C sb) (ds.drop (i + 1)) δ m), fun σ' H' w => ⟨ds.length - (i + 1), by omega, rfl, hlt, w⟩, fun x H' y => ?_⟩
        obtain ⟨R', g', rx⟩ := hy x H' y
        cases hbd : bindT m t d δ with
        | none => rw [hbd] at o; exact o.elim
        | some δ' =>
          rw [hbd] at o
          refine ⟨as, m, δ, d, δ', R', S.grow g', rx, hbd, fun σ' S' _ => ⟨as, m, δ', R', S', ?_⟩⟩
          have o := OutS.later o g'
          simp only at o
          cases hr : execSs C sb δ' m with
          | nx δ2 m2 => rw [hr] at o; exact fun as2 H2 σ2 R2 g2 S2 => ⟨as2, m2, δ2, R2, S2, (g.trans g').trans g2, OutS.later o g2⟩
          | ct δ2 m2 => rw [hr] at o; exact fun as2 H2 σ2 R2 g2 S2 => ⟨as2, m2, δ2, R2, S2, (g.trans g').trans g2, OutS.later o g2⟩
          | bk δ2 m2 => rw [hr] at o; exact o
          | rt d m2 => rw [hr] at o; exact o
          | ex c δ2 m2 => rw [hr] at o; exact o
          | no => rw [hr] at o; exact o
      · exact o.elim
    · have e : i = ds.length := by omega
      subst e
      rw [List.drop_length] at o
      simp only [frLoop] at o
      split at o
      · rename_i hgd
        exact .inl ⟨(hJ _ as m H R g hgd).1 rfl, o as H σ R Grow.refl S⟩
      · exact o.elim⟩
/-! ### iterators -/
theorem pi_imp {wi wi' : TI} {iter : Expr} (h : PI X tg iter wi) (hi : ∀ σ H R, wi' σ H R → wi σ H R) : PI X tg iter wi' := ⟨fun pins s σ H R I q => h.run pins s σ H R I (hi _ _ _ q)⟩
theorem pi_orr {wi wi' : TI} {iter : Expr} (h : PI X tg iter wi) (h' : PI X tg iter wi') : PI X tg iter (fun σ H R => wi σ H R ∨ wi' σ H R) := ⟨fun pins s σ H R I q => q.elim (h.run pins s σ H R I) (h'.run pins s σ H R I)⟩
theorem gOk_of {n : Nat} {mo : MO} {gd : Guard} (h : gOk gd m = true) (hm : (n, mo) ∈ gd) : m[n]? = some mo := by
  unfold gOk at h
  simpa using List.all_eq_true.mp h _ hm
theorem itok_lst {as0 : List Addr} {H0 : Hp} {n : Nat} {p : Addr} {ds : List FS.D} {gd : Guard} (hp : as0[n]? = some p) (hg : (n, MO.lst ds) ∈ gd) : ItOk G K as0 H0 ds gd (Itl K p) := fun i as m H R g hgd => by
  obtain ⟨vs, h0, rs⟩ := R.lst (g.ix hp) (gOk_of hgd hg)
  refine ⟨fun e => ⟨vs, SqL.of h0, by rw [rs.len, e]; exact Nat.le_refl _⟩, fun d hd => ?_⟩
  obtain ⟨v, h1, h2⟩ := rs.get hd
  refine ⟨⟨vs, v, SqL.of h0, h1⟩, fun x H' ⟨e, hx⟩ => ?_⟩
  subst e
  have := hx vs (SqL.of h0)
  rw [h1] at this
  cases this
  exact ⟨R, Grow.refl, h2⟩
theorem itok_rol {as0 : List Addr} {H0 : Hp} {p : Addr} {ds : List FS.D} {vs : List V} {gd : Guard} (hp : RoL K as0 H0 p vs) (rs : Reps G K as0 H0 ds vs) : ItOk G K as0 H0 ds gd (Itl K p) := fun i as m H R g hgd => by
  have hp := (hp.grow g).seq
  have rs := rs.grow g
  refine ⟨fun e => ⟨vs, hp, by rw [rs.len, e]; exact Nat.le_refl _⟩, fun d hd => ?_⟩
  obtain ⟨v, h1, h2⟩ := rs.get hd
  refine ⟨⟨vs, v, hp, h1⟩, fun x H' ⟨e, hx⟩ => ?_⟩
  subst e
  have := hx vs hp
  rw [h1] at this
  cases this
  exact ⟨R, Grow.refl, h2⟩
theorem itok_tup {as0 : List Addr} {H0 : Hp} {p : Addr} {ds : List FS.D} {vs : List V} {gd : Guard} (hn : p ∉ as0) (hp : H0 p = some (.tup vs)) (rs : Reps G K as0 H0 ds vs) : ItOk G K as0 H0 ds gd (Itt K p) := fun i as m H R g hgd => by
  have hp := SqT.of (K := K) (g.keep _ _ hp hn)
  have rs := rs.grow g
  refine ⟨fun e => ⟨vs, hp, by rw [rs.len, e]; exact Nat.le_refl _⟩, fun d hd => ?_⟩
  obtain ⟨v, h1, h2⟩ := rs.get hd
  refine ⟨⟨vs, v, hp, h1⟩, fun x H' ⟨e, hx⟩ => ?_⟩
  subst e
  have := hx vs hp
  rw [h1] at this
  cases this
  exact ⟨R, Grow.refl, h2⟩
theorem itok_str {as0 : List Addr} {H0 : Hp} {s : List Nat} {gd : Guard} : ItOk G K as0 H0 (s.map fun c => .str [c]) gd (Its ⟨s.toArray⟩) := fun i as m H R g hgd => by
  refine ⟨fun e => by show s.toArray.size ≤ i; rw [e]; simp, fun d hd => ?_⟩
  rw [List.getElem?_map] at hd
  obtain ⟨c, hc, rfl⟩ := Option.map_eq_some_iff.mp hd
  refine ⟨by show i < s.toArray.size; have := (List.getElem?_eq_some_iff.mp hc).1; simpa using this, fun x H' ⟨e, c', h1, h2⟩ => ?_⟩
  subst e
  have h1 : s.toArray[i]? = some c' := h1
  have : s[i]? = some c' := by simpa using h1
  rw [hc] at this
  cases this
  exact ⟨R, Grow.refl, by simp only [Rep]; exact h2⟩
theorem itok_rng {as0 : List Addr} {H0 : Hp} {lo hi : Int} {gd : Guard} : ItOk G K as0 H0 (rngL lo hi) gd (Itr lo (hi - lo).toNat) := fun i as m H R g hgd => by
  refine ⟨fun e => by show (hi - lo).toNat ≤ i; rw [e]; simp [rngL], fun d hd => ?_⟩
  unfold rngL at hd
  rw [List.getElem?_map] at hd
  obtain ⟨c, hc, rfl⟩ := Option.map_eq_some_iff.mp hd
  obtain ⟨hlt, hc⟩ := List.getElem?_eq_some_iff.mp hc
  simp at hlt hc
  subst hc
  exact ⟨by show i < (hi - lo).toNat; omega, fun x H' ⟨e, hx⟩ => by subst e; exact ⟨R, Grow.refl, by simp only [Rep]; exact hx⟩⟩
variable {iter : Expr}
/-- over a list, a tuple or a text -/
theorem ei_seq (ha : PE X iter (rdE G X.K W (evalE C ea))) : PI X tg iter (rdI G X.K W (evalI C (.seq ea))) :=
  pi_imp (pi_orr (pi_list ha) (pi_orr (pi_tup ha) (pi_str ha))) fun σ H Rr ⟨as, m, δ, R, S, o⟩ => by
    simp only [evalI] at o
    cases hd : evalE C ea δ m with
    | no => rw [hd] at o; exact o.elim
    | ex c m1 =>
      rw [hd] at o
      exact .inl ⟨as, m, δ, R, S, by rw [hd]; exact o⟩
    | ok d0 m0 =>
      have o2 := o.bind
      rw [hd] at o2
      cases hs : seqOf m0 d0 with
      | none =>
        rw [hd] at o
        simp only [Res.bind, hs] at o
        exact o.elim
      | some p =>
        cases d0 with
        | tup ds =>
          refine .inr (.inl ⟨as, m, δ, R, S, ?_⟩)
          rw [hd]
          refine o2.impE fun d as1 m1 H1 e R1 g1 o1 v r => ?_
          cases e
          cases hs
          obtain ⟨q, vs, rfl, hn, hq, rs⟩ := rep_tup r
          exact ⟨q, rfl, ⟨vs, SqT.of hq⟩, Out.here R1 o1 _ (itok_tup hn hq rs)⟩
        | rol ds =>
          refine .inl ⟨as, m, δ, R, S, ?_⟩
          rw [hd]
          refine o2.impE fun d as1 m1 H1 e R1 g1 o1 v r => ?_
          cases e
          cases hs
          obtain ⟨q, vs, rfl, hq, rs⟩ := rep_rol r
          exact ⟨q, rfl, ⟨vs, hq.seq⟩, Out.here R1 o1 _ (itok_rol hq rs)⟩
        | str s =>
          refine .inr (.inr ⟨as, m, δ, R, S, ?_⟩)
          rw [hd]
          refine o2.impE fun d as1 m1 H1 e R1 g1 o1 v r => ?_
          cases e
          cases hs
          cases rep_str r
          exact ⟨_, rfl, Out.here R1 o1 _ itok_str⟩
        | ref n =>
          refine .inl ⟨as, m, δ, R, S, ?_⟩
          rw [hd]
          refine o2.impE fun d as1 m1 H1 e R1 g1 o1 v r => ?_
          cases e
          rw [hs] at o1
          obtain ⟨q, rfl, hq⟩ := rep_ref r
          simp only [seqOf] at hs
          split at hs
          · rename_i ds hm
            cases hs
            obtain ⟨vs, h0, _⟩ := R1.lst hq hm
            exact ⟨q, rfl, ⟨vs, SqL.of h0⟩, Out.here R1 o1 _ (itok_lst hq (List.mem_singleton.mpr rfl))⟩
          · cases hs
        | _ => cases hs
theorem ei_rng1 (hg : Gl X "range") (hm : X.mg "range" = none) (ha : PE X a (rdE G X.K W (evalE C ea))) (hs : starEach [a] X.env = [(false, eval a X.env)] := by rfl) (hs2 : starEach [a] X.env = (false, eval a X.env) :: starEach [] X.env := by rfl) :
    PI X tg (.Call (.Name "range" p2) [a] [] pos) (rdI G X.K W (evalI C (.rng (.cst (.int 0)) ea))) :=
  pi_imp (pi_range1 hg hm (pa_cons ha pa_nil hs2) hs) fun σ H Rr ⟨as, m, δ, R, S, o⟩ => ⟨as, m, δ, R, S, by
    simp only [evalI, evalE, Res.bind] at o
    refine o.bind.imp fun d as1 m1 H1 R1 g1 o1 v r => ?_
    cases d <;> first
      | exact (show False from o1).elim
      | skip
    rename_i j
    simp only at o1
    split at o1
    · rename_i hj
      cases rep_int r
      unfold rngOk at hj
      simp only [Bool.and_eq_true, decide_eq_true_eq] at hj
      refine ⟨j, rfl, by omega, by omega, Out.here R1 o1 _ ?_⟩
      have e : (j - 0).toNat = j.toNat := by omega
      have := itok_rng (G := G) (K := X.K) (as0 := as1) (H0 := H1) (lo := 0) (hi := j) (gd := [])
      rw [e] at this
      exact this
    · exact o1.elim⟩
theorem ei_rng2 (hg : Gl X "range") (hm : X.mg "range" = none) (ha : PE X a (rdE G X.K W (evalE C ea))) (hb : PE X b (rdE G X.K W (evalE C eb))) (hs : starEach [a, b] X.env = [(false, eval a X.env), (false, eval b X.env)] := by rfl) (hs2 : starEach [b] X.env = [(false, eval b X.env)] := by rfl)
    (hs3 : starEach [a, b] X.env = (false, eval a X.env) :: starEach [b] X.env := by rfl) (hs4 : starEach [b] X.env = (false, eval b X.env) :: starEach [] X.env := by rfl) :
    PI X tg (.Call (.Name "range" p2) [a, b] [] pos) (rdI G X.K W (evalI C (.rng ea eb))) :=
  pi_imp (pi_range2 hg hm (pa_cons ha (pa_cons hb pa_nil hs4) hs3) hs hs2) fun σ H Rr ⟨as, m, δ, R, S, o⟩ => ⟨as, m, δ, R, S, by
    simp only [evalI] at o
    refine o.bind.imp fun d as1 m1 H1 R1 g1 o1 v r => ⟨as1, m1, δ, R1, S.grow g1, o1.bind.imp fun d2 as2 m2 H2 R2 g2 o2 v2 r2 => ?_⟩
    cases d <;> first
      | exact (show False from o2).elim
      | skip
    cases d2 <;> first
      | exact (show False from o2).elim
      | skip
    rename_i i j
    simp only at o2
    split at o2
    · rename_i hj
      cases rep_int r
      cases rep_int r2
      unfold rngOk at hj
      simp only [Bool.and_eq_true, decide_eq_true_eq] at hj
      exact ⟨i, j, rfl, ⟨by omega, by omega, by omega, by omega⟩, Out.here R2 o2 _ itok_rng⟩
    · exact o2.elim⟩
end
end FS

namespace FS
open PySem L2
abbrev W0 : WX := fun _ _ _ _ => False
section
variable {G : Gam} {X : Cx} {W : WX} {e a b c : Expr} {pos p2 p3 : Pos} {f g h : Sto → Mem → Res D} {fs : Sto → Mem → Res (List D)} {m : Mem} {as as' : List Addr} {H H' : Hp} {σ : L2.St} {δ : Sto} {K : PySem.W.Frag} {C : Ctx} {rest : List Expr} {Z Z' : Ends}
variable {ea eb ec : E} {tg iter : Expr} {t : Tg}
theorem wipe_in {σ : L2.St} {j : Nat} : ∀ {vs : List Nat}, j ∈ vs → (wipe σ vs)[j]? = if j < σ.length then some none else none
  | [], h => by cases h
  | v :: vs, h => by
    show ((wipe σ vs).set v none)[j]? = _
    by_cases q : v = j
    · subst q
      rw [List.getElem?_set_self']
      have := wipe_length σ vs
      by_cases hl : v < σ.length
      · rw [if_pos hl, List.getElem?_eq_getElem (by omega)]; rfl
      · rw [if_neg hl, List.getElem?_eq_none (by omega)]; rfl
    · rw [List.getElem?_set_ne q]
      rcases List.mem_cons.mp h with e | e
      · exact absurd e.symm q
      · exact wipe_in e
theorem wipe_fr {σ σ2 : L2.St} {vs ts : List Nat} (hsub : ∀ j ∈ ts, j ∈ vs) (fr : Fr (wipe σ vs) σ2 ts) : wipe σ2 vs = wipe σ vs := by
  have hl : σ2.length = σ.length := by rw [fr.1, wipe_length]
  apply List.ext_getElem?
  intro j
  by_cases hj : j ∈ vs
  · rw [wipe_in hj, wipe_in hj, hl]
  · rw [wipe_out hj, fr.2 j fun z => hj (hsub j z)]
theorem St2.wipe (S : St2 G K as H δ σ) : ∀ vs : List Nat, St2 G K as H (wipeD δ vs) (L2.wipe σ vs)
  | [] => S
  | v :: vs => (St2.wipe S vs).unset v none
theorem Out.calm {Ex : Nat → Hp → Prop} {α β : Type} {x : Res α} {k : α → Mem → Res β} {post : β → List Addr → Mem → Hp → Prop} {Ex' : Nat → Hp → Prop} (h : Out G K Ex as H (x.calm.bind k) post) :
    Out G K Ex' as H x fun a as' m' H' => Out G K Ex as' H' (k a m') post := by
  cases x with
  | ok d m => exact fun as1 H1 R1 g1 => Out.later (show Out G K Ex as H (k d m) post from h) g1
  | ex c m => exact h.elim
  | no => exact h
theorem lc_read {own : List Nat} {it : It} {eo : Oe} {Q : VK} (hsub : ∀ j ∈ tgS t, j ∈ own) : rdE G K W (evalE C (.lc own it t eo ea)) σ H Q → tLc (rdI G K W (evalI C it)) (gB G K t) (rdT G K W0 (evalC C eo)) (rdE G K W0 (evalE C ea)) own σ H Q :=
  fun ⟨as, m, δ, R, S, o⟩ => ⟨as, m, δ, R, S, o.bind.imp fun p as1 m1 H1 R1 g1 o1 J hJ D hD => by
    obtain ⟨ds, gd⟩ := p
    simp only at o1 hJ
    obtain ⟨g2, R2, hi2⟩ := R1.newM (mo := .lst []) (o := .lst []) hD fun g => ⟨[], upd_same, reps_nil⟩
    refine ⟨fun i k H => k = ds.length - i ∧ i ≤ ds.length ∧ ∃ as m, Rel G K as m H ∧ Grow (as1 ++ [D]) (upd H1 D (.lst [])) as H ∧ Out G K (fun c H' => W (.ref (G.cls c)) none σ H') as H (lcLoop gd m1.length t (evalC C eo) (evalE C ea) (wipeD δ own) (ds.drop i) m) fun d as' m' H' => ∀ v, Rep G K as' H' d v → Q v H',
      ⟨ds.length, rfl, Nat.zero_le _, as1 ++ [D], _, R2, Grow.refl, o1.later g2⟩, ?_⟩
    rintro i k H ⟨rfl, hle, as, m, R, g, o⟩
    have gg : Grow as1 H1 as H := g2.trans g
    have S0 := ((S.grow g1).grow gg).wipe own
    by_cases hlt : i < ds.length
    · obtain ⟨d, hd, e⟩ := drop_at hlt
      rw [e] at o
      simp only [lcLoop] at o
      split at o
      · rename_i hgd
        obtain ⟨hgo, hy⟩ := (hJ i as m H R gg hgd).2 d hd
        refine .inr ⟨hgo, fun H' => ∃ as m, Rel G K as m H' ∧ Grow (as1 ++ [D]) (upd H1 D (.lst [])) as H' ∧ Out G K (fun c H' => W (.ref (G.cls c)) none σ H') as H' (lcLoop gd m1.length t (evalC C eo) (evalE C ea) (wipeD δ own) (ds.drop (i + 1)) m) fun d as' m' H' => ∀ v, Rep G K as' H' d v → Q v H',
          fun H' w => ⟨ds.length - (i + 1), by omega, rfl, hlt, w⟩, fun x H' y => ?_⟩
        obtain ⟨R', g', rx⟩ := hy x H' y
        cases hbd : bindT m t d (wipeD δ own) with
        | none => rw [hbd] at o; exact o.elim
        | some δ' =>
          rw [hbd] at o
          refine ⟨as, m, _, d, δ', R', S0.grow g', rx, hbd, fun σ' S' fr => ⟨wipe_fr hsub fr, as, m, δ', R', S', (Out.calm (o.later g')).imp fun b as3 m3 H3 R3 g3 o3 => ?_⟩⟩
          cases b <;> first
            | exact (show False from o3).elim
            | skip
          rename_i kb
          cases kb with
          | false => exact ⟨false, rfl, as3, m3, R3, (g.trans g').trans g3, o3⟩
          | true =>
            refine ⟨true, rfl, as3, m3, δ', R3, S'.grow g3, (Out.calm o3).imp fun z as4 m4 H4 R4 g4 o4 w rw_ => ?_⟩
            split at o4
            · rename_i acc hacc
              split at o4
              · rename_i hal
                have g5 := ((g.trans g').trans g3).trans g4
                have hix := g5.ix hi2
                obtain ⟨vs, h0, rs⟩ := R4.lst hix hacc
                refine ⟨vs, h0, by rw [rs.len, line_eq]; exact hal, ?_⟩
                obtain ⟨g6, R6⟩ := R4.put hix (o := .lst (vs ++ [w])) (mo := .lst (acc ++ [z])) fun g => ⟨_, upd_same, reps_app (rs.grow g) (reps_one (rw_.grow g))⟩
                exact ⟨as4, _, R6, g5.trans g6, o4.later g6⟩
              · exact o4.elim
            · exact o4.elim
      · exact o.elim
    · have e : i = ds.length := by omega
      subst e
      rw [List.drop_length] at o
      simp only [lcLoop] at o
      split at o
      · rename_i hgd
        exact .inl ⟨(hJ _ as m H R gg hgd).1 rfl, o as H R Grow.refl _ (by simp only [Rep]; exact ⟨D, rfl, g.ix hi2⟩)⟩
      · exact o.elim⟩
theorem es_lc {elt : Expr} {ifs : List Expr} {scope : Scope} {own : List (Str × Nat)} {it : It} {eo : Oe} (hc : X.calm = true) (hN : X.N.Nodup) (hi : PI X tg iter (rdI G X.K W (evalI C it))) (ok : BlkOk X.N X.env.scope scope own)
    (hg : ∀ (s : Shared) (H : Hp) (Ca : Addr) (cl : List (Str × Addr)) (fp : List Addr), PG (X.blk s H scope (compEnvC scope cl Ca X.env) fp) tg (gB G X.K t))
    (ht : ∀ (s : Shared) (H : Hp) (Ca : Addr) (cl : List (Str × Addr)) (fp : List Addr), PTs (X.blk s H scope (compEnvC scope cl Ca X.env) fp) ifs (rdT G X.K W0 (evalC C eo)))
    (he : ∀ (s : Shared) (H : Hp) (Ca : Addr) (cl : List (Str × Addr)) (fp : List Addr), PE (X.blk s H scope (compEnvC scope cl Ca X.env) fp) elt (rdE G X.K W0 (evalE C ea)))
    (hsub : ∀ j ∈ tgS t, j ∈ own.map (·.2)) (hs : ∀ x, foldedSetIterable iter X.env x = pure x := by intro _; rfl) : PE X (.ListComp elt [⟨tg, iter, ifs, 0⟩] scope pos) (rdE G X.K W (evalE C (.lc (own.map (·.2)) it t eo ea))) :=
  pe_imp (pe_lc hc hN hi ok hg ht he hs) fun σ H Q q => lc_read hsub q
theorem tt_none {Y : Cx} : PTs Y [] (rdT G Y.K W0 (evalC C .none)) := ⟨fun pins s σ H Q I ⟨as, m, δ, R, S, o⟩ => by
  obtain ⟨k, e, q⟩ := Out.here R o
  cases e
  exact pts_nil.run pins s σ H Q I q⟩
theorem tt_one {Y : Cx} (hc : PT Y c (rdT G Y.K W0 (evalE C ec))) : PTs Y [c] (rdT G Y.K W0 (evalC C (.some ec))) := pts_one hc
theorem ss_setLc {i : Nat} {y : Str} {py : Pos} {elt : Expr} {ifs : List Expr} {scope : Scope} {own : List (Str × Nat)} {it : It} {eo : Oe} {spos : Pos} (hc : X.calm = true) (hN : X.N.Nodup) (hy : X.N[i]? = some y) (hyl : X.env.scope.names.lookup y = some .local)
    (hsw : swapsWith (.ListComp elt [⟨tg, iter, ifs, 0⟩] scope pos) (some (.Name y py)) spos.line X.env = pure true) (hi : PI X tg iter (rdI G X.K W (evalI C it))) (ok : BlkOk X.N X.env.scope scope own)
    (hg : ∀ (s : Shared) (H : Hp) (Ca : Addr) (cl : List (Str × Addr)) (fp : List Addr), PG (X.blk s H scope (compEnvC scope cl Ca X.env) fp) tg (gB G X.K t))
    (ht : ∀ (s : Shared) (H : Hp) (Ca : Addr) (cl : List (Str × Addr)) (fp : List Addr), PTs (X.blk s H scope (compEnvC scope cl Ca X.env) fp) ifs (rdT G X.K W0 (evalC C eo)))
    (he : ∀ (s : Shared) (H : Hp) (Ca : Addr) (cl : List (Str × Addr)) (fp : List Addr), PE (X.blk s H scope (compEnvC scope cl Ca X.env) fp) elt (rdE G X.K W0 (evalE C ea)))
    (hsub : ∀ j ∈ tgS t, j ∈ own.map (·.2)) (hs : ∀ x, foldedSetIterable iter X.env x = pure x := by intro _; rfl) :
    PS X (.Assign [.Name y py] (.ListComp elt [⟨tg, iter, ifs, 0⟩] scope pos) spos) (rdS G X.K W (execS C (.set i (.lc (own.map (·.2)) it t eo ea)))) :=
  ps_imp (ps_setLc hc hN hy hyl hsw hi ok hg ht he hs) fun Z σ H q => lc_read hsub ((rdS.to (k := fun δ d m => .nx (δ.set i (some d)) m) q).imp fun v H1 ⟨as, m, δ, d, R, S, r, o⟩ => o as H1 _ R Grow.refl (S.set i r))

/-! ### stores -/
theorem kvsK_any {y : FS.D} {k : Key} (hk : keyV y = some k) : ∀ {kvs : List (FS.D × FS.D)} {ks : List (Key × V)}, KvsK G K as H kvs ks → (kvs.any fun p => D.beq p.1 y) = (ks.any fun kv => decide (kv.1 = k))
  | [], _, h => by cases (show _ = _ from h); rfl
  | p :: r, _, ⟨k1, v1, t, e, h1, h2, h3⟩ => by
    subst e
    rw [List.any_cons, List.any_cons, kvsK_any hk h3, keyV_inj h1 hk]
theorem kvsK_map {y d : FS.D} {k : Key} {v : V} (hk : keyV y = some k) (r : Rep G K as H d v) : ∀ {kvs : List (FS.D × FS.D)} {ks : List (Key × V)}, KvsK G K as H kvs ks →
    KvsK G K as H (kvs.map fun p => if D.beq p.1 y then (p.1, d) else p) (ks.map fun kv => if kv.1 = k then (kv.1, v) else kv)
  | [], _, h => by cases (show _ = _ from h); rfl
  | p :: rr, _, ⟨k1, v1, t, e, h1, h2, h3⟩ => by
    subst e
    have hb := keyV_inj h1 hk
    rw [List.map_cons, List.map_cons]
    by_cases q : k1 = k
    · rw [decide_eq_true q] at hb
      rw [hb, if_pos rfl, if_pos q]
      exact ⟨k1, v, _, rfl, h1, r, kvsK_map hk r h3⟩
    · rw [decide_eq_false q] at hb
      rw [hb, if_neg (by decide), if_neg q]
      exact ⟨k1, v1, _, rfl, h1, h2, kvsK_map hk r h3⟩
theorem kvsK_app : ∀ {kvs es : List (FS.D × FS.D)} {ks us : List (Key × V)}, KvsK G K as H kvs ks → KvsK G K as H es us → KvsK G K as H (kvs ++ es) (ks ++ us)
  | [], _, _, _, h, h' => by cases (show _ = _ from h); exact h'
  | _ :: _, _, _, _, ⟨k1, v1, t, e, h1, h2, h3⟩, h' => by subst e; exact ⟨k1, v1, _, rfl, h1, h2, kvsK_app h3 h'⟩
theorem kvsK_put {y d : FS.D} {k : Key} {v : V} {kvs : List (FS.D × FS.D)} {ks : List (Key × V)} (hk : keyV y = some k) (r : Rep G K as H d v) (h : KvsK G K as H kvs ks) : KvsK G K as H (dPut kvs y d) (putK ks k v) := by
  unfold dPut putK
  rw [kvsK_any hk h]
  split
  · exact kvsK_map hk r h
  · exact kvsK_app h ⟨k, v, [], rfl, hk, r, rfl⟩
theorem kvsT_any {y : FS.D} {k : List Key} (hk : keyT y = some k) : ∀ {kvs : List (FS.D × FS.D)} {ks : List (List Key × V)}, KvsT G K as H kvs ks → (kvs.any fun p => D.beq p.1 y) = (ks.any fun kv => decide (kv.1 = k))
  | [], _, h => by cases (show _ = _ from h); rfl
  | p :: r, _, ⟨k1, v1, t, e, h1, h2, h3⟩ => by
    subst e
    rw [List.any_cons, List.any_cons, kvsT_any hk h3, keyT_inj h1 hk]
theorem kvsT_map {y d : FS.D} {k : List Key} {v : V} (hk : keyT y = some k) (r : Rep G K as H d v) : ∀ {kvs : List (FS.D × FS.D)} {ks : List (List Key × V)}, KvsT G K as H kvs ks →
    KvsT G K as H (kvs.map fun p => if D.beq p.1 y then (p.1, d) else p) (ks.map fun kv => if kv.1 = k then (kv.1, v) else kv)
  | [], _, h => by cases (show _ = _ from h); rfl
  | p :: rr, _, ⟨k1, v1, t, e, h1, h2, h3⟩ => by
    subst e
    have hb := keyT_inj h1 hk
    rw [List.map_cons, List.map_cons]
    by_cases q : k1 = k
    · rw [decide_eq_true q] at hb
      rw [hb, if_pos rfl, if_pos q]
      exact ⟨k1, v, _, rfl, h1, r, kvsT_map hk r h3⟩
    · rw [decide_eq_false q] at hb
      rw [hb, if_neg (by decide), if_neg q]
      exact ⟨k1, v1, _, rfl, h1, h2, kvsT_map hk r h3⟩
theorem kvsT_app : ∀ {kvs es : List (FS.D × FS.D)} {ks us : List (List Key × V)}, KvsT G K as H kvs ks → KvsT G K as H es us → KvsT G K as H (kvs ++ es) (ks ++ us)
  | [], _, _, _, h, h' => by cases (show _ = _ from h); exact h'
  | _ :: _, _, _, _, ⟨k1, v1, t, e, h1, h2, h3⟩, h' => by subst e; exact ⟨k1, v1, _, rfl, h1, h2, kvsT_app h3 h'⟩
theorem kvsT_put {y d : FS.D} {k : List Key} {v : V} {kvs : List (FS.D × FS.D)} {ks : List (List Key × V)} (hk : keyT y = some k) (r : Rep G K as H d v) (h : KvsT G K as H kvs ks) : KvsT G K as H (dPut kvs y d) (putK ks k v) := by
  unfold dPut putK
  rw [kvsT_any hk h]
  split
  · exact kvsT_map hk r h
  · exact kvsT_app h ⟨k, v, [], rfl, hk, r, rfl⟩
theorem set_dct (hu : X.A.units + 1 < cLine) : PSet X (fun o i v H Q => ∃ p H', o = .ref p ∧ DPut H p i v H' ∧ Q H') := by
  intro pins s σ H o i v ov iv u Q I ro ri rv h
  obtain ⟨p, H', rfl, g, q⟩ := h
  cases ro
  exact d_setItem hu I g ri rv fun s' I' => ⟨H', I', q⟩
theorem PSet.or {t t' : TSet} (h : PSet X t) (h' : PSet X t') : PSet X (fun o i v H Q => t o i v H Q ∨ t' o i v H Q) := fun pins s σ H o i v ov iv u Q I ro ri rv q =>
  q.elim (h pins s σ H o i v ov iv u Q I ro ri rv) (h' pins s σ H o i v ov iv u Q I ro ri rv)
theorem ss_setI {value : Expr} {pos' : Pos} (hu : X.A.units + 1 < cLine) (hv : PE X value (rdE G X.K W (evalE C ec))) (ha : PE X a (rdE G X.K W (evalE C ea))) (hb : PE X b (rdE G X.K W (evalE C eb)))
    (hs : swapsWithSole [.Subscript a b pos'] value pos.line X.env = pure false := by rfl) (hw : swappedStores [.Subscript a b pos'] value X.env = pure none := by rfl)
    (h1 : (assignEach [.Subscript a b pos'] X.env).map (·.2) = [assign (.Subscript a b pos') X.env] := by rfl)
    (hA : ∀ v, assign (.Subscript a b pos') X.env v = (do
      let ov ← holding [v] (eval a X.env)
      let iv ← holding [v, ov] (eval b X.env)
      standAt pos'
      holding [v, ov, iv] (setItem ov iv v)
      release [v, ov, iv] []) := by intro _; rfl) : PS X (.Assign [.Subscript a b pos'] value pos) (rdS G X.K W (execS C (.setI ea eb ec))) :=
  ps_imp (ps_asg hv (pg_sub ha hb (FS.PSet.or set_list (set_dct hu)) hA) hs hw h1) fun Z σ H q => (rdS.to (k := fun δ v m1 => (evalE C ea δ m1).toS δ fun x m2 => (evalE C eb δ m2).toS δ fun k m3 => match storeI x k v m3 with
      | some m4 => .nx δ m4
      | none => .no) q).imp fun v H1 ⟨as1, m1, δ1, d1, R1, S1, r1, o1⟩ => ⟨as1, m1, δ1, R1, S1, (OutS.toS S1 o1).imp fun d2 as2 m2 H2 R2 g2 o2 x r2 => ⟨as2, m2, δ1, R2, S1.grow g2, (OutS.toS (S1.grow g2) o2).imp fun d3 as3 m3 H3 R3 g3 o3 y r3 => by
        have r1 := (r1.grow g2).grow g3
        have r2 := r2.grow g3
        cases hst : storeI d2 d3 d1 m3 with
        | none => rw [hst] at o3; exact o3.elim
        | some m4 =>
          rw [hst] at o3
          unfold storeI at hst
          split at hst
          · rename_i n
            obtain ⟨p, rfl, hp⟩ := rep_ref r2
            split at hst
            · rename_i ds hm
              split at hst
              · rename_i k
                obtain ⟨j, hj, rfl⟩ := Option.map_eq_some_iff.mp hst
                cases rep_int r3
                obtain ⟨vs, h0, rs⟩ := R3.lst hp hm
                obtain ⟨g4, R4⟩ := R3.put hp (o := .lst (vs.set j v)) (mo := .lst (ds.set j d1)) fun g => ⟨_, upd_same, reps_set (rs.grow g) (r1.grow g)⟩
                exact .inl ⟨p, vs, k, j, rfl, rfl, h0, by rw [rs.len]; exact hj, o3 as3 _ σ R4 g4 (((S1.grow g2).grow g3).grow g4)⟩
              · cases hst
            · rename_i tt kvs hm
              split at hst
              · rename_i hk
                cases hst
                rw [Bool.and_eq_true, decide_eq_true_eq] at hk
                cases tt with
                | false =>
                  obtain ⟨k, hk'⟩ := keyOk_f hk.1
                  obtain ⟨ks, h0, rs⟩ := R3.at_ _ p _ hp hm
                  obtain ⟨g4, R4⟩ := R3.put hp (o := .dK (putK ks k v)) (mo := .dct false false (dPut kvs d3 d1)) fun g => ⟨_, upd_same, kvsK_put hk' (r1.grow g) (rs.grow g)⟩
                  refine .inr ⟨p, _, rfl, .inl ⟨ks, k, h0, rep_key r3 hk', by rw [kvsK_len rs, line_eq]; exact hk.2, rfl⟩, o3 as3 _ σ R4 g4 (((S1.grow g2).grow g3).grow g4)⟩
                | true =>
                  obtain ⟨k, hk'⟩ := keyOk_t hk.1
                  obtain ⟨ks, h0, rs⟩ := R3.at_ _ p _ hp hm
                  obtain ⟨bq, rfl, hbn, hb⟩ := rep_keyT r3 hk'
                  obtain ⟨g4, R4⟩ := R3.put hp (o := .dT (putK ks k v)) (mo := .dct true false (dPut kvs d3 d1)) fun g => ⟨_, upd_same, kvsT_put hk' (r1.grow g) (rs.grow g)⟩
                  refine .inr ⟨p, _, rfl, .inr ⟨ks, k, bq, h0, rfl, hb, by rw [kvsT_len rs, line_eq]; exact hk.2, rfl⟩, o3 as3 _ σ R4 g4 (((S1.grow g2).grow g3).grow g4)⟩
              · cases hst
            · cases hst
          · cases hst⟩⟩
theorem flds_put (hi : ∀ i j, G.kf i = true → G.kf j = true → G.fnm i = G.fnm j → i = j) {f : Nat} (hf : G.kf f = true) {d : FS.D} {v : V} (r : Rep G K as H d v) : ∀ {fs : List (Nat × FS.D)} {vs : List (Str × V)}, Flds G K as H fs vs → Flds G K as H (putA f d fs) (putF (G.fnm f) v vs)
  | [], _, h => by cases (show _ = _ from h); exact ⟨v, [], rfl, hf, r, rfl⟩
  | (g, x) :: rr, _, ⟨u, t, e, hg, h1, h2⟩ => by
    subst e
    show Flds G K as H (if g = f then (g, d) :: rr else (g, x) :: putA f d rr) (if G.fnm g = G.fnm f then (G.fnm g, v) :: t else (G.fnm g, u) :: putF (G.fnm f) v t)
    by_cases q : g = f
    · subst q
      rw [if_pos rfl, if_pos rfl]
      exact ⟨v, t, rfl, hg, r, h2⟩
    · rw [if_neg q, if_neg fun z => q (hi _ _ hg hf z)]
      exact ⟨u, _, rfl, hg, h1, flds_put hi hf r h2⟩
theorem flds_len : ∀ {fs : List (Nat × FS.D)} {vs : List (Str × V)}, Flds G K as H fs vs → vs.length = fs.length
  | [], _, h => by cases (show _ = _ from h); rfl
  | _ :: _, _, ⟨_, _, e, _, _, h⟩ => by subst e; simp [flds_len h]
theorem ss_setF {value : Expr} {pos' : Pos} {x : Str} {fi : Nat} (GO : GOk G X.K) (hx : x = G.fnm fi) (hk : G.kf fi = true) (hv : PE X value (rdE G X.K W (evalE C ec))) (ha : PE X a (rdE G X.K W (evalE C ea)))
    (hs : swapsWith value (some (.Attribute a x pos')) pos.line X.env = pure false := by rfl) : PS X (.Assign [.Attribute a x pos'] value pos) (rdS G X.K W (execS C (.setF ea fi ec))) :=
  ps_imp (ps_fld ha hv hs) fun Z σ H q => (rdS.to (k := fun δ v m1 => (evalE C ea δ m1).toS δ fun x m2 => match x with
      | .ref n => (match m2[n]? with
        | some (.obj c fs) => if fs.length < 1000 then .nx δ (m2.set n (.obj c (putA fi v fs))) else .no
        | _ => .no)
      | _ => .no) q).imp fun v H1 ⟨as1, m1, δ1, d1, R1, S1, r1, o1⟩ => ⟨as1, m1, δ1, R1, S1, (OutS.toS S1 o1).imp fun d2 as2 m2 H2 R2 g2 o2 u r2 => by
        subst hx
        have r1 := r1.grow g2
        cases d2 <;> first
          | exact (show False from o2).elim
          | skip
        rename_i n
        obtain ⟨p, rfl, hp⟩ := rep_ref r2
        simp only at o2
        split at o2
        · rename_i cc ff hm
          split at o2
          · rename_i hl
            obtain ⟨dx, vs, hc, h0, rs⟩ := R2.at_ n p _ hp hm
            obtain ⟨g3, R3⟩ := R2.put hp (o := .ins (G.cls cc) dx (putF (G.fnm fi) v vs)) (mo := .obj cc (putA fi d1 ff)) fun g => ⟨dx, _, hc, upd_same, flds_put GO.fin hk (r1.grow g) (rs.grow g)⟩
            exact ⟨p, G.cls cc, dx, vs, rfl, h0, GO.cls cc (.inr hc), GO.noa cc fi (.inr hc) hk, by rw [flds_len rs]; exact hl, o2 as2 _ σ R3 g3 ((S1.grow g2).grow g3)⟩
          · exact o2.elim
        · exact o2.elim⟩
end
end FS

namespace FS
open PySem L2
/-- the promise of a def: what the evaluator computes -/
def spF (G : Gam) (K : PySem.W.Frag) (P : Prog) (n f : Nat) : Sp := fun vs H Q E => ∃ as m ds, Rel G K as m H ∧ Reps G K as H ds vs ∧ Out G K (fun c H' => E (.ref (G.cls c)) none H') as H (call P n f ds m) fun d as' m' H' => ∀ v, Rep G K as' H' d v → Q v H'
/-- .. of the __init__ of a class whose instances are trees: the new instance stands at x, which nothing ahead knew -/
def spI (G : Gam) (K : PySem.W.Frag) (P : Prog) (n f c : Nat) : Sp := fun vs H Q E => ∃ x dx ws as0 H0 as m ds, vs = .ref x :: ws ∧ H0 x = none ∧ x ∉ as ∧ H x = some (.ins (G.cls c) dx []) ∧ Grow as0 H0 as H ∧ Rel G K as m H ∧ Reps G K as H ds ws ∧
  Out G K (fun c H' => E (.ref (G.cls c)) none H') as0 H0 (call P n f ds m) fun d as' m' H' => Rep G K as' H' d (.ref x) → Q .non H'
structure Kn (prog : Program) (w : World) (K : PySem.W.Frag) (mg : Str → Option Value) (base : Heap) (G : Gam) (P : Prog) (n : Nat) : Prop where
  fn : ∀ f np nl b, G.kfn f = true → P.fns f = some (.fn np nl b) → ∃ fd, FnOk prog w K mg base (CX prog w) n (G.fa f) fd (G.pn f) (spF G K P n f) ∧ Binds K fd (G.pn f) [] ∧ PySem.W.keepIn K (.ref (G.fa f)) = true ∧ ∃ oc od osl, K.lookup (G.fa f) = some ⟨oc, od, .func fd, osl⟩
  ini : ∀ f c np nl l, G.kfn f = true → P.fns f = some (.ini c np nl l) → ∃ fd ps, FnOk prog w K mg base (CX prog w) n (G.fa f) fd ps (spI G K P n f c) ∧ Binds K fd ps [] ∧ PySem.W.keepIn K (.ref (G.fa f)) = true
def isFn (P : Prog) (f : Nat) : Prop := ∃ np nl b, P.fns f = some (.fn np nl b)
def isIni (P : Prog) (f c : Nat) : Prop := ∃ np nl l, P.fns f = some (.ini c np nl l)
structure Stc (K : PySem.W.Frag) (G : Gam) (P : Prog) : Prop where
  GO : GOk G K
  IO : IsiOk G K P.sub P.vale
  flds : P.flds = G.flds
  meth : ∀ c i g, P.mt c i = some g → (G.imm c = true ∨ G.mu c = true) → Meth K (G.cls c) (G.mn i) (G.fa g) ∧ G.kfn g = true ∧ isFn P g
  imm : ∀ c f, P.cini c = some (.imm f) → Mk K (G.cls c) (G.fa f) ∧ G.imm c = true ∧ G.kfn f = true ∧ isIni P f c
  chg : ∀ c f, P.cini c = some (.chg f) → Mk K (G.cls c) (G.fa f) ∧ G.mu c = true ∧ G.kfn f = true ∧ isFn P f
  bare : ∀ c, P.cini c = some .bare → PySem.W.makesIn K (G.cls c) = true ∧ PySem.W.findIn K (.ref (G.cls c)) "__init__" = some (some (.builtin "object.__init__")) ∧ PySem.W.keepIn K (.ref (G.cls c)) = true ∧ G.imm c = true ∧ G.flds c = []
/-- where a body's walk stands -/
structure EnvOk (G : Gam) (P : Prog) (n : Nat) (X : Cx) (W : WX) (C : Ctx) : Prop where
  st : Stc X.K G P
  room : Room n X.A
  calm : X.calm = true
  tk : Takes X W
  hC : C = ctx P (call P n) (call P (n - 1))
  kn : Kn X.prog X.w X.K X.mg X.base G P n
  kn1 : Kn X.prog X.w X.K X.mg X.base G P (n - 1)
  own : PassesOwn (model X.prog X.w) X.A X.env X.xe
theorem EnvOk.blk {G : Gam} {P : Prog} {n : Nat} {X : Cx} {W : WX} {C : Ctx} (E0 : EnvOk G P n X W C) {s : Shared} {H : Hp} {scope : Scope} {env : Env} {fp : List Addr} : EnvOk G P n (X.blk s H scope env fp) W0 C :=
  ⟨E0.st, E0.room, E0.calm, takes0, E0.hC, E0.kn, E0.kn1, PassesOwn.never⟩
theorem EnvOk.hu {G : Gam} {P : Prog} {n : Nat} {X : Cx} {W : WX} {C : Ctx} (E0 : EnvOk G P n X W C) : X.A.units + 1 < cLine := hu_of E0.room
section
variable {G : Gam} {P : Prog} {n : Nat} {X : Cx} {W : WX} {C : Ctx} {e a b c o : Expr} {pos p2 p3 : Pos} {m : Mem} {as as' : List Addr} {H H' : Hp} {σ : L2.St} {δ : Sto} {K : PySem.W.Frag} {es : List Expr} {el : Es} {ea eb ec eo : E} {x : Str} {fi ci : Nat}
theorem EnvOk.call (E0 : EnvOk G P n X W C) : C.call = FS.call P n := by rw [E0.hC]; rfl
theorem EnvOk.make (E0 : EnvOk G P n X W C) : C.make = FS.mk P (FS.call P (n - 1)) := by rw [E0.hC]; rfl
theorem EnvOk.mt (E0 : EnvOk G P n X W C) : C.mt = P.mt := by rw [E0.hC]; rfl
theorem EnvOk.flds (E0 : EnvOk G P n X W C) : C.flds = G.flds := by rw [E0.hC]; exact E0.st.flds
theorem EnvOk.sub (E0 : EnvOk G P n X W C) : IsiOk G X.K C.sub C.vale := by rw [E0.hC]; exact E0.st.IO
theorem app_nil' {vs : List V} {H : Hp} {Q : VK} {E : XK} {sp : Sp} (h : sp vs H Q E) : sp (vs ++ []) H Q E := by rw [List.append_nil]; exact h
/-- f(e, ..) -/
theorem es_call (E0 : EnvOk G P n X W C) (hk : G.kfn fi = true) (hf : isFn P fi) (hg : Gl X x) (hm : X.mg x = some (.ref (G.fa fi))) (ha : PA X (e :: es) (rdA G X.K W (evalEs C el))) (hdb : (x == ("__debug__" : Str)) = false := by decide)
    (he : starEach (e :: es) X.env = (false, eval e X.env) :: starEach es X.env := by rfl) (hpl : (backTo pos (starEach es X.env)).any (·.1) = false := by rfl) : PE X (.Call (.Name x p2) (e :: es) [] pos) (rdE G X.K W (evalE C (.call fi el))) := by
  obtain ⟨np, nl, b, hb⟩ := hf
  obtain ⟨fd, F, B, kp, _⟩ := E0.kn.fn fi np nl b hk hb
  refine pe_imp (pe_callSD F E0.room hg hm kp B .nil (passAt E0.tk) ha hdb he hpl) fun σ H Q q => (rdE.args q).imp fun vs H1 ⟨as, m, ds, R, r, o⟩ => app_nil' ⟨as, m, ds, R, r, ?_⟩
  rw [E0.call] at o
  exact o
theorem es_call0 (E0 : EnvOk G P n X W C) (hk : G.kfn fi = true) (hf : isFn P fi) (hg : Gl X x) (hm : X.mg x = some (.ref (G.fa fi))) (hdb : (x == ("__debug__" : Str)) = false := by decide) : PE X (.Call (.Name x p2) [] [] pos) (rdE G X.K W (evalE C (.call fi .nil))) := by
  obtain ⟨np, nl, b, hb⟩ := hf
  obtain ⟨fd, F, B, kp, _⟩ := E0.kn.fn fi np nl b hk hb
  refine ⟨fun pins s σ H Q I ⟨as, m, δ, R, S, q⟩ => wpAny_Call_Name_kw (ld_glob I hg hm ?_ hdb)⟩
  refine PySem.W.callWith_K0 I.kIn kp (run_fnSD (E := WE W) (us := []) (vs := []) F E0.room B .nil (passAt E0.tk σ) I .nil (app_nil' ⟨as, m, [], R, reps_nil, ?_⟩))
  have q2 : Out G X.K _ as H (C.call fi [] m) _ := q
  rw [E0.call] at q2
  exact q2
/-- a receiver, by its class -/
theorem meth_core {i : Nat} {Ex : Nat → Hp → Prop} {Q : VK} (E0 : EnvOk G P n X W C) (hmn : ∀ f, G.kf f = true → G.fnm f ≠ G.mn i) (q : Out G X.K Ex as H (evalE C (.meth eo i el) δ m) fun d as' m' H' => ∀ v, Rep G X.K as' H' d v → Q v H') :
    Out G X.K Ex as H (evalE C eo δ m) fun d as1 m1 H1 => ∀ v, Rep G X.K as1 H1 d v → ∃ p c dx fs g, v = .ref p ∧ H1 p = some (.ins (G.cls c) dx fs) ∧ Cls X.K (G.cls c) ∧ Meth X.K (G.cls c) (G.mn i) (G.fa g) ∧ fs.lookup (G.mn i) = none ∧ G.kfn g = true ∧ isFn P g ∧ Rel G X.K as1 m1 H1 ∧ Grow as H as1 H1 ∧ Rep G X.K as1 H1 d v ∧
      Out G X.K Ex as1 H1 ((evalEs C el δ m1).bind fun ds m2 => FS.call P n g (d :: ds) m2) fun d as' m' H' => ∀ v, Rep G X.K as' H' d v → Q v H' := by
  have nolook : ∀ {fs : List (Str × V)}, (∀ p ∈ fs, p.1 ≠ G.mn i) → fs.lookup (G.mn i) = none := by
    intro fs
    induction fs with
    | nil => intro _; rfl
    | cons p r ih =>
      intro h
      rw [List.lookup_cons, show (G.mn i == p.1) = false from beq_eq_false_iff_ne.mpr fun z => h p List.mem_cons_self z.symm]
      exact ih fun p' hp' => h p' (List.mem_cons_of_mem _ hp')
  simp only [evalE] at q
  refine q.bind.imp fun d as1 m1 H1 R1 g1 q1 v r1 => ?_
  rw [E0.mt, E0.call] at q1
  cases d <;> first
    | exact (show False from q1).elim
    | skip
  · rename_i c ds
    obtain ⟨p, dx, vs, rfl, hn, hc, hp, hl, rs⟩ := rep_ins r1
    simp only at q1
    cases hm : P.mt c i with
    | none => rw [hm] at q1; exact q1.elim
    | some g =>
      rw [hm] at q1
      obtain ⟨M, kg, fg⟩ := E0.st.meth c i g hm (.inl hc)
      refine ⟨p, c, dx, _, g, rfl, hp, E0.st.GO.cls c (.inl hc), M, nolook fun z hz => ?_, kg, fg, R1, g1, r1, q1⟩
      have := (List.of_mem_zip hz).1
      obtain ⟨f, hf, e⟩ := List.mem_map.mp this
      rw [← e]
      exact hmn f (E0.st.GO.fkn c f hc hf)
  · rename_i k
    obtain ⟨p, rfl, hp⟩ := rep_ref r1
    simp only at q1
    cases hmo : m1[k]? with
    | none => rw [hmo] at q1; exact q1.elim
    | some mo =>
      rw [hmo] at q1
      cases mo with
      | obj c fs =>
        simp only at q1
        cases hm : P.mt c i with
        | none => rw [hm] at q1; exact q1.elim
        | some g =>
          rw [hm] at q1
          obtain ⟨dx, vs, hc, h0, rs⟩ := R1.at_ k p _ hp hmo
          obtain ⟨M, kg, fg⟩ := E0.st.meth c i g hm (.inr hc)
          refine ⟨p, c, dx, vs, g, rfl, h0, E0.st.GO.cls c (.inr hc), M, nolook ?_, kg, fg, R1, g1, r1, q1⟩
          have key : ∀ {fs : List (Nat × FS.D)} {vs : List (Str × V)}, Flds G X.K as1 H1 fs vs → ∀ z ∈ vs, z.1 ≠ G.mn i := by
            intro fs
            induction fs with
            | nil => intro vs h z hz; cases (show _ = _ from h); cases hz
            | cons p r ih =>
              rintro vs ⟨v, t, e, hk, _, h3⟩ z hz
              subst e
              rcases List.mem_cons.mp hz with rfl | hz
              · exact hmn _ hk
              · exact ih h3 z hz
          exact key rs
      | _ => exact q1.elim
theorem es_meth {i : Nat} {pl : Sem Bool} (E0 : EnvOk G P n X W C) (hx : x = G.mn i) (hmn : ∀ f, G.kf f = true → G.fnm f ≠ G.mn i) (ho : PE X o (rdE G X.K W (evalE C eo))) (ha : PA X (e :: es) (rdA G X.K W (evalEs C el)))
    (hst : starEach (e :: es) X.env = (false, eval e X.env) :: starEach es X.env := by rfl) (hpl : (backTo pos (starEach es X.env)).any (·.1) = false := by rfl)
    (ht : eval (.Call (.Attribute o x p2) (e :: es) [] pos) X.env = (do
      let ov ← eval o X.env
      standAt p2.atName
      let (f, first) ← holding [ov] (getMethod ov x pl)
      callWith pos f first (backTo pos (starEach (e :: es) X.env)) (backToKw pos (keywordEach [] X.env))) := by rfl) : PE X (.Call (.Attribute o x p2) (e :: es) [] pos) (rdE G X.K W (evalE C (.meth eo i el))) := by
  subst hx
  refine ⟨fun pins s σ H Q I ⟨as, m, δ, R, S, q⟩ => ?_⟩
  refine PySem.W.methodCall_KW (pl := pl) (thn (ho.run pins s σ H (fun v H1 => ∃ as1 m1 d p c dx fs g, v = .ref p ∧ H1 p = some (.ins (G.cls c) dx fs) ∧ Cls X.K (G.cls c) ∧ Meth X.K (G.cls c) (G.mn i) (G.fa g) ∧ fs.lookup (G.mn i) = none ∧ G.kfn g = true ∧ isFn P g ∧ Rel G X.K as1 m1 H1 ∧ Grow as H as1 H1 ∧ Rep G X.K as1 H1 d v ∧
      Out G X.K (fun c H' => W (.ref (G.cls c)) none σ H') as1 H1 ((evalEs C el δ m1).bind fun ds m2 => FS.call P n g (d :: ds) m2) fun d as' m' H' => ∀ v, Rep G X.K as' H' d v → Q v H')
      I ⟨as, m, δ, R, S, (meth_core E0 hmn q).imp fun d as1 m1 H1 R1 g1 k v r => by
        obtain ⟨p, c, dx, fs, g, k⟩ := k v r
        exact ⟨as1, m1, d, p, c, dx, fs, g, k⟩⟩) fun u s1 ⟨v, H1, I1, rv, as1, m1, d, p, c, dx, fs, g, ev, hp, hcl, M, hl, kg, fg, R1, g1, r1, q1⟩ => ?_) ht
  subst ev
  obtain rfl : u = Value.ref p := rv
  obtain ⟨np, nl, b, hb⟩ := fg
  obtain ⟨fd, F, B, kp, _⟩ := E0.kn.fn g np nl b kg hb
  refine getmeth_ok I1 hp hcl M hl ?_
  refine PySem.W.callWith_K (first := [.ref p]) (h₀ := X.base) I.ok.mod.kin M.kp (thn (ha.run pos pins s1 σ H1 (fun vs H2 => ∃ as2 m2 ds, Rel G X.K as2 m2 H2 ∧ Reps G X.K as2 H2 (d :: ds) (.ref p :: vs) ∧
      Out G X.K (fun c H' => W (.ref (G.cls c)) none σ H') as2 H2 (FS.call P n g (d :: ds) m2) fun d as' m' H' => ∀ v, Rep G X.K as' H' d v → Q v H') I1
      ⟨as1, m1, δ, R1, S.grow g1, q1.bind.imp fun ds as2 m2 H2 R2 g2 q2 vs r2 => ⟨as2, m2, ds, R2, reps_cons (r1.grow g2) r2, q2⟩⟩) fun us s2 ⟨vs, H2, I2, r, as2, m2, ds, R2, r2, q2⟩ => ⟨I2.kIn, ?_⟩) hst hpl
  exact run_fnSD (E := WE W) (us := .ref p :: us) (vs := .ref p :: vs) F E0.room B .nil (passAt E0.tk σ) I2 (.cons rfl r) (app_nil' ⟨as2, m2, d :: ds, R2, r2, q2⟩)
theorem es_meth0 {i : Nat} {pl : Sem Bool} (E0 : EnvOk G P n X W C) (hx : x = G.mn i) (hmn : ∀ f, G.kf f = true → G.fnm f ≠ G.mn i) (ho : PE X o (rdE G X.K W (evalE C eo)))
    (ht : eval (.Call (.Attribute o x p2) [] [] pos) X.env = (do
      let ov ← eval o X.env
      standAt p2.atName
      let (f, first) ← holding [ov] (getMethod ov x pl)
      callWith pos f first (backTo pos (starEach [] X.env)) (backToKw pos (keywordEach [] X.env))) := by rfl) : PE X (.Call (.Attribute o x p2) [] [] pos) (rdE G X.K W (evalE C (.meth eo i .nil))) := by
  subst hx
  refine ⟨fun pins s σ H Q I ⟨as, m, δ, R, S, q⟩ => ?_⟩
  refine PySem.W.methodCall_KW (pl := pl) (thn (ho.run pins s σ H (fun v H1 => ∃ as1 m1 d p c dx fs g, v = .ref p ∧ H1 p = some (.ins (G.cls c) dx fs) ∧ Cls X.K (G.cls c) ∧ Meth X.K (G.cls c) (G.mn i) (G.fa g) ∧ fs.lookup (G.mn i) = none ∧ G.kfn g = true ∧ isFn P g ∧ Rel G X.K as1 m1 H1 ∧ Grow as H as1 H1 ∧ Rep G X.K as1 H1 d v ∧
      Out G X.K (fun c H' => W (.ref (G.cls c)) none σ H') as1 H1 ((evalEs C .nil δ m1).bind fun ds m2 => FS.call P n g (d :: ds) m2) fun d as' m' H' => ∀ v, Rep G X.K as' H' d v → Q v H')
      I ⟨as, m, δ, R, S, (meth_core E0 hmn q).imp fun d as1 m1 H1 R1 g1 k v r => by
        obtain ⟨p, c, dx, fs, g, k⟩ := k v r
        exact ⟨as1, m1, d, p, c, dx, fs, g, k⟩⟩) fun u s1 ⟨v, H1, I1, rv, as1, m1, d, p, c, dx, fs, g, ev, hp, hcl, M, hl, kg, fg, R1, g1, r1, q1⟩ => ?_) ht
  subst ev
  obtain rfl : u = Value.ref p := rv
  obtain ⟨np, nl, b, hb⟩ := fg
  obtain ⟨fd, F, B, kp, _⟩ := E0.kn.fn g np nl b kg hb
  refine getmeth_ok I1 hp hcl M hl ?_
  exact PySem.W.callWith_K0 (first := [.ref p]) I1.kIn M.kp (run_fnSD (E := WE W) (us := [.ref p]) (vs := [.ref p]) F E0.room B .nil (passAt E0.tk σ) I1 (.cons rfl .nil) (app_nil' ⟨as1, m1, [d], R1, reps_one r1, q1⟩))

/-! ### new instances -/
theorem pass0' {E : XK} (h : ∀ c d H, ¬ E c d H) : Passes (CX X.prog X.w) X E := fun pins σ H s e s' I ⟨_, _, _, _, _, _, _, _, _, _, _, _, z⟩ => absurd z (h _ _ _)
theorem make_core' {Q : VK} {c : Nat} {us : List Value} {vs : List V} {ds : List FS.D} {pins : List (Addr × Obj)} {s : Shared} {Ex : Nat → Hp → Prop} (E0 : EnvOk G P n X W C) (I : Inv X pins σ H s) (hne : P.cini c ≠ some .bare) (hx : n ≠ 0) (rv : Vals vs us) (R : Rel G X.K as m H) (rs : Reps G X.K as H ds vs)
    (q : Out G X.K Ex as H (FS.mk P (FS.call P (n - 1)) c ds m) fun d as' m' H' => ∀ v, Rep G X.K as' H' d v → Q v H') : wpAny (model X.prog X.w) X.A (PySem.call (.ref (G.cls c)) us) (EP X pins σ Q) X.xe s := by
  have hroom : Room ((n - 1) + 1) X.A := by
    have : n - 1 + 1 = n := by omega
    rw [this]; exact E0.room
  cases hci : P.cini c with
  | none => simp only [FS.mk, hci] at q; exact q.elim
  | some ci =>
    cases ci with
    | bare => exact absurd hci hne
    | imm f =>
      simp only [FS.mk, hci] at q
      obtain ⟨M, hc, hk, np, nl, l, hl⟩ := E0.st.imm c f hci
      obtain ⟨fd, ps, F, B, kp⟩ := E0.kn1.ini f c np nl l hk hl
      refine run_make M F hroom B .nil (pass0' (E := fun _ _ _ => False) fun _ _ _ z => z) I rv fun x dx h1 h2 h3 => ?_
      rw [List.append_nil]
      obtain ⟨g1, R1, n1⟩ := R.newI h2 (.own x)
      have h1' : (upd H dx (.own x)) x = none := by rw [upd_ne (Ne.symm h3)]; exact h1
      obtain ⟨g2, R2, n2⟩ := R1.newI h1' (.ins (G.cls c) dx [])
      refine ⟨x, dx, vs, as, H, as, m, ds, rfl, h1, n2, upd_same, g1.trans g2, R2, rs.grow (g1.trans g2), ?_⟩
      have q2 : Out G X.K Ex as H ((FS.call P (n - 1) f ds m).calm.bind fun d m => .ok d m) fun d as' m' H' => ∀ v, Rep G X.K as' H' d v → Q v H' := by
        cases hcall : FS.call P (n - 1) f ds m <;> rw [hcall] at q <;> exact q
      exact (Out.calm q2).imp fun d as' m' H' R' g' k r => ⟨rfl, Out.here R' k _ r⟩
    | chg f =>
      simp only [FS.mk, hci] at q
      obtain ⟨M, hc, hk, np, nl, l, hl⟩ := E0.st.chg c f hci
      obtain ⟨fd, F, B, kp, _⟩ := E0.kn1.fn f np nl l hk hl
      refine run_make M F hroom B .nil (pass0' (E := fun _ _ _ => False) fun _ _ _ z => z) I rv fun x dx h1 h2 h3 => ?_
      rw [List.append_nil]
      obtain ⟨g1, R1, n1⟩ := R.newI h2 (.own x)
      have h1' : (upd H dx (.own x)) x = none := by rw [upd_ne (Ne.symm h3)]; exact h1
      obtain ⟨g2, R2, hi2⟩ := R1.newM (mo := .obj c []) (o := .ins (G.cls c) dx []) h1' fun g => ⟨dx, [], hc, upd_same, rfl⟩
      refine ⟨as ++ [x], m ++ [.obj c []], .ref m.length :: ds, R2, reps_cons (by simp only [Rep]; exact ⟨x, rfl, hi2⟩) (rs.grow (g1.trans g2)), ?_⟩
      refine (Out.calm (q.later (g1.trans g2))).imp fun d as' m' H' R' g' k v r => ?_
      split at k
      · rename_i hd
        subst hd
        exact ⟨rep_non r, Out.here R' k _ (by simp only [Rep]; exact ⟨x, rfl, g'.ix hi2⟩)⟩
      · exact k.elim
theorem zero_mk (h0 : n = 0) {c : Nat} {ds : List FS.D} (hne : P.cini c ≠ some .bare) : FS.mk P (FS.call P (n - 1)) c ds m = .no := by
  subst h0
  unfold FS.mk
  cases hci : P.cini c with
  | none => rfl
  | some ci =>
    cases ci with
    | bare => exact absurd hci hne
    | imm f => rfl
    | chg f => rfl
theorem es_make (E0 : EnvOk G P n X W C) (hne : P.cini ci ≠ some .bare) (hkp : PySem.W.keepIn X.K (.ref (G.cls ci)) = true) (hg : Gl X x) (hm : X.mg x = some (.ref (G.cls ci))) (ha : PA X (e :: es) (rdA G X.K W (evalEs C el))) (hdb : (x == ("__debug__" : Str)) = false := by decide)
    (he : starEach (e :: es) X.env = (false, eval e X.env) :: starEach es X.env := by rfl) (hpl : (backTo pos (starEach es X.env)).any (·.1) = false := by rfl) : PE X (.Call (.Name x p2) (e :: es) [] pos) (rdE G X.K W (evalE C (.make ci el))) := by
  refine ⟨fun pins s σ H Q I h => wpAny_Call_Name_kw (ld_glob I hg hm ?_ hdb)⟩
  refine PySem.W.callWith_K (h₀ := X.base) I.ok.mod.kin hkp (thn (ha.run pos pins s σ H _ I (rdE.args h)) fun us s1 ⟨vs, H1, I1, r, as, m, ds, R, rs, o⟩ => ⟨I1.kIn, ?_⟩) he hpl
  rw [E0.make] at o
  by_cases h0 : n = 0
  · rw [zero_mk h0 hne] at o; exact o.elim
  · exact make_core' E0 I1 hne h0 r R rs o
theorem es_make0 (E0 : EnvOk G P n X W C) (hne : P.cini ci ≠ some .bare) (hkp : PySem.W.keepIn X.K (.ref (G.cls ci)) = true) (hg : Gl X x) (hm : X.mg x = some (.ref (G.cls ci))) (hdb : (x == ("__debug__" : Str)) = false := by decide) : PE X (.Call (.Name x p2) [] [] pos) (rdE G X.K W (evalE C (.make ci .nil))) := by
  refine ⟨fun pins s σ H Q I ⟨as, m, δ, R, S, q⟩ => wpAny_Call_Name_kw (ld_glob I hg hm ?_ hdb)⟩
  have q2 : Out G X.K _ as H (C.make ci [] m) _ := q
  rw [E0.make] at q2
  by_cases h0 : n = 0
  · rw [zero_mk h0 hne] at q2; exact q2.elim
  · exact PySem.W.callWith_K0 I.kIn hkp (make_core' (us := []) (vs := []) E0 I hne h0 .nil R reps_nil q2)
end
end FS

namespace FS
open PySem L2
section
variable {G : Gam} {P : Prog} {n : Nat} {X : Cx} {W : WX} {C : Ctx} {e a b c o : Expr} {pos p2 p3 : Pos} {m : Mem} {as as' : List Addr} {H H' : Hp} {σ : L2.St} {δ : Sto} {K : PySem.W.Frag} {es : List Expr} {el : Es} {ea eb ec eo : E} {x : Str} {fi ci : Nat} {Z : Ends}
open PyProof.Rows in
theorem run_bare {Q : VK} {Ca : Addr} {pins : List (Addr × Obj)} {s : Shared} (I : Inv X pins σ H s) (hm : PySem.W.makesIn X.K Ca = true) (hi : PySem.W.findIn X.K (.ref Ca) "__init__" = some (some (.builtin "object.__init__")))
    (h : ∀ x dx, H x = none → H dx = none → dx ≠ x → Q (.ref x) (upd (upd H dx (.own x)) x (.ins Ca dx []))) : wpAny (model X.prog X.w) X.A (PySem.call (.ref Ca) []) (EP X pins σ Q) X.xe s := by
  have I2 := Inv.made (C := Ca) I
  refine wpAny_call (make_map0 I.kIn hm hi (fun self => PySem.W.Looks.of_pure (PySem.W.oi_bind self)) ?_)
  have Y := PySem.W.makes_of (M := model X.prog X.w) I.kIn hm
  have t1 : PySem.W.Looks (model X.prog X.w) ((s.heap.push PySem.W.emptyDict).push (PySem.W.instObj Ca s.heap.objs.size))
      (typeOf (.ref (s.heap.objs.size + 1))) (.ref Ca) := (PySem.W.Looks.ld (by
        have e : s.heap.objs.size + 1 = (s.heap.push PySem.W.emptyDict).objs.size := by rw [Heap.size_push]
        rw [e]; exact Heap.get?_push_size _ rfl)).andThen .now
  have t2 : PySem.W.Looks (model X.prog X.w) ((s.heap.push PySem.W.emptyDict).push (PySem.W.instObj Ca s.heap.objs.size))
      (isInstance (.ref (s.heap.objs.size + 1)) (.type "object")) true :=
    t1.andThen (Y.top.keeps fun b o e => Heap.get?_push_of_some _ (Heap.get?_push_of_some _ e))
  refine codeAny_call_builtin PySem.W.oi_plain PySem.W.entry_oi ?_
  refine @PySem.W.check_slot (model X.prog X.w) _ _ _ "object.__init__"
    "object" "__init__" (.ref (s.heap.objs.size + 1)) [] [] _ PySem.W.oi_kind PySem.W.oi_split t2
    (PySem.W.oi_args (.ref (s.heap.objs.size + 1))) ?_
  rw [PySem.W.oi_run]
  refine wpAny_pure ⟨rfl, .ref (s.heap.objs.size + 1), _, I2, rfl, h _ _ ?_ ?_ ?_⟩
  · exact I.hok.fresh (Nat.le_succ _)
  · exact I.hok.fresh (Nat.le_refl _)
  · exact Nat.ne_of_lt (Nat.lt_succ_self _)
theorem es_bare (E0 : EnvOk G P n X W C) (hb : P.cini ci = some .bare) (hg : Gl X x) (hm : X.mg x = some (.ref (G.cls ci))) (hdb : (x == ("__debug__" : Str)) = false := by decide) : PE X (.Call (.Name x p2) [] [] pos) (rdE G X.K W (evalE C (.make ci .nil))) := by
  refine ⟨fun pins s σ H Q I ⟨as, m, δ, R, S, q⟩ => wpAny_Call_Name_kw (ld_glob I hg hm ?_ hdb)⟩
  have q2 : Out G X.K _ as H (C.make ci [] m) _ := q
  rw [E0.make] at q2
  simp only [FS.mk, hb] at q2
  rw [if_pos True.intro] at q2
  obtain ⟨h1, h2, h3, h4, h5⟩ := E0.st.bare ci hb
  refine PySem.W.callWith_K0 I.kIn h3 (run_bare I h1 h2 fun x dx k1 k2 k3 => ?_)
  obtain ⟨g1, R1, n1⟩ := R.newI k2 (.own x)
  have k1' : (upd H dx (.own x)) x = none := by rw [upd_ne (Ne.symm k3)]; exact k1
  obtain ⟨g2, R2, n2⟩ := R1.newI k1' (.ins (G.cls ci) dx [])
  exact q2 _ _ R2 (g1.trans g2) _ (by
    simp only [Rep]
    refine ⟨x, dx, [], rfl, n2, h4, ?_, ?_, reps_nil⟩
    · rw [upd_same]; unfold fsOf; rw [h5]; rfl
    · rw [h5]; rfl)

/-! ### an instance half made -/
/-- nothing that is known stands at x -/
def OffX (G : Gam) (H : Hp) (x : Addr) : Prop := ∃ c dx fs, H x = some (.ins (G.cls c) dx fs) ∧ (G.imm c = true) ∧ fs.length < (G.flds c).length
mutual
theorem Rep.off (GO : GOk G K) {x : Addr} (hx : OffX G H x) (o : HO) : ∀ {d : FS.D} {v : V}, Rep G K as H d v → Rep G K as (upd H x o) d v
  | .non, _, h => by simp only [Rep] at h ⊢; exact h
  | .bl _, _, h => by simp only [Rep] at h ⊢; exact h
  | .int _, _, h => by simp only [Rep] at h ⊢; exact h
  | .str _, _, h => by simp only [Rep] at h ⊢; exact h
  | .tup ds, _, h => by
    simp only [Rep] at h ⊢
    obtain ⟨p, vs, e, hn, hp, r⟩ := h
    refine ⟨p, vs, e, hn, ?_, Reps.off GO hx o r⟩
    rw [upd_ne]
    · exact hp
    · rintro rfl
      obtain ⟨c, dx, fs, e1, _⟩ := hx
      rw [hp] at e1; cases e1
  | .rol ds, _, h => by
    simp only [Rep] at h ⊢
    obtain ⟨p, vs, e, hp, r⟩ := h
    refine ⟨p, vs, e, ?_, Reps.off GO hx o r⟩
    rcases hp with ⟨hn, ob, hp⟩ | hp
    · refine .inl ⟨hn, ob, ?_⟩
      rw [upd_ne]
      · exact hp
      · rintro rfl
        obtain ⟨c, dx, fs, e1, _⟩ := hx
        rw [hp] at e1; cases e1
    · exact .inr hp
  | .ins c ds, _, h => by
    simp only [Rep] at h ⊢
    obtain ⟨p, dx, vs, e, hn, hc, hp, hl, r⟩ := h
    refine ⟨p, dx, vs, e, hn, hc, ?_, hl, Reps.off GO hx o r⟩
    rw [upd_ne]
    · exact hp
    · rintro rfl
      obtain ⟨c', dx', fs, e1, hc', hlt⟩ := hx
      rw [hp] at e1
      injection e1 with e1
      injection e1 with e2 e3 e4
      have := GO.inj c c' (.inl hc) (.inl hc') e2
      subst this
      subst e4
      unfold fsOf at hlt
      rw [List.length_zip, List.length_map, hl] at hlt
      omega
  | .ref n, _, h => by simp only [Rep] at h ⊢; exact h
  | .exc _, _, h => by simp only [Rep] at h
  | .clo _ _, _, h => by simp only [Rep] at h
theorem Reps.off (GO : GOk G K) {x : Addr} (hx : OffX G H x) (o : HO) : ∀ {ds : List FS.D} {vs : List V}, Reps G K as H ds vs → Reps G K as (upd H x o) ds vs
  | [], _, h => by simp only [Reps] at h ⊢; exact h
  | d :: ds, _, h => by
    simp only [Reps] at h ⊢
    obtain ⟨v, r, e, h1, h2⟩ := h
    exact ⟨v, r, e, Rep.off GO hx o h1, Reps.off GO hx o h2⟩
end
theorem KvsK.off (GO : GOk G K) {x : Addr} (hx : OffX G H x) (o : HO) : ∀ {l : List (FS.D × FS.D)} {ks : List (Key × V)}, KvsK G K as H l ks → KvsK G K as (upd H x o) l ks
  | [], _, h => h
  | _ :: _, _, ⟨k, v, t, e, h1, h2, h3⟩ => ⟨k, v, t, e, h1, h2.off GO hx o, KvsK.off GO hx o h3⟩
theorem KvsT.off (GO : GOk G K) {x : Addr} (hx : OffX G H x) (o : HO) : ∀ {l : List (FS.D × FS.D)} {ks : List (List Key × V)}, KvsT G K as H l ks → KvsT G K as (upd H x o) l ks
  | [], _, h => h
  | _ :: _, _, ⟨k, v, t, e, h1, h2, h3⟩ => ⟨k, v, t, e, h1, h2.off GO hx o, KvsT.off GO hx o h3⟩
theorem Flds.off (GO : GOk G K) {x : Addr} (hx : OffX G H x) (o : HO) : ∀ {l : List (Nat × FS.D)} {ks : List (Str × V)}, Flds G K as H l ks → Flds G K as (upd H x o) l ks
  | [], _, h => h
  | _ :: _, _, ⟨v, t, e, hk, h1, h2⟩ => ⟨v, t, e, hk, h1.off GO hx o, Flds.off GO hx o h2⟩
theorem MRep.off (GO : GOk G K) {x : Addr} (hx : OffX G H x) (o : HO) {p : Addr} {mo : MO} (hp : p ≠ x) (h : MRep G K as H p mo) : MRep G K as (upd H x o) p mo := by
  cases mo with
  | lst ds => obtain ⟨vs, e1, r⟩ := h; exact ⟨vs, (upd_ne hp).trans e1, r.off GO hx o⟩
  | obj c fs => obtain ⟨dx, vs, hc, e1, r⟩ := h; exact ⟨dx, vs, hc, (upd_ne hp).trans e1, r.off GO hx o⟩
  | dct t z kvs =>
    cases t <;> cases z
    · obtain ⟨ks, e1, r⟩ := h; exact ⟨ks, (upd_ne hp).trans e1, r.off GO hx o⟩
    · obtain ⟨ks, ob, e1, r⟩ := h; exact ⟨ks, ob, (upd_ne hp).trans e1, r.off GO hx o⟩
    · obtain ⟨ks, e1, r⟩ := h; exact ⟨ks, (upd_ne hp).trans e1, r.off GO hx o⟩
    · obtain ⟨ks, ob, e1, r⟩ := h; exact ⟨ks, ob, (upd_ne hp).trans e1, r.off GO hx o⟩
theorem Rel.off (GO : GOk G K) {x : Addr} (hx : OffX G H x) (o : HO) (hn : x ∉ as) (R : Rel G K as m H) : Rel G K as m (upd H x o) :=
  ⟨R.len, R.nd, fun i p mo e1 e2 => (R.at_ i p mo e1 e2).off GO hx o fun z => hn (z ▸ List.mem_of_getElem? e1)⟩
theorem Out.bind' {Ex : Nat → Hp → Prop} {α β : Type} {r : Res α} {f : α → Mem → Res β} {k : β → List Addr → Mem → Hp → Prop} (h : Out G K Ex as H (r.bind f) k) : Out G K Ex as H r fun a _ m' _ => Out G K Ex as H (f a m') k := by
  cases r with
  | ok a m1 => exact fun as1 H1 R1 g1 => h
  | ex c m1 => exact h
  | no => exact h
def len : Es → Nat
  | .nil => 0
  | .cons _ l => len l + 1
/-- the fields' names ahead of the k-th -/
def nms (G : Gam) (c k : Nat) : List Str := ((G.flds c).take k).map G.fnm
def rdN (G : Gam) (K : PySem.W.Frag) (W : WX) (C : Ctx) (c k : Nat) (l : Es) : TS := fun Z σ H => ∃ as0 H0 as m δ x dx ds vs, σ[0]? = some (some (.ref x)) ∧ H0 x = none ∧ x ∉ as ∧ H x = some (.ins (G.cls c) dx ((nms G c k).zip vs)) ∧ vs.length = k ∧ Grow as0 H0 as H ∧ Rel G K as m H ∧ St2 G K as H δ σ ∧ Reps G K as H ds vs ∧
  Out G K (fun c H' => W (.ref (G.cls c)) none σ H') as0 H0 (evalEs C l δ m) fun es as' m' H' => Rep G K as' H' (.ins c (ds ++ es)) (.ref x) → Z.nx σ H'
theorem sn_nil {c k : Nat} (hc : G.imm c = true) (hk : k = (G.flds c).length) : PSs X [] (rdN G X.K W C c k .nil) := pss_imp pss_nil fun Z σ H ⟨as0, H0, as, m, δ, x, dx, ds, vs, hs, h0, hn, hx, hl, g, R, S, rs, o⟩ => by
  refine o as H R g (by
    rw [List.append_nil]
    simp only [Rep]
    refine ⟨x, dx, vs, rfl, hn, hc, ?_, by omega, rs⟩
    rw [hx]
    unfold nms fsOf
    rw [hk, List.take_length])
theorem putF_new {f : Str} {v : V} : ∀ {fs : List (Str × V)}, (∀ p ∈ fs, p.1 ≠ f) → putF f v fs = fs ++ [(f, v)]
  | [], _ => rfl
  | (g, u) :: r, h => by
    show (if g = f then (g, v) :: r else (g, u) :: putF f v r) = _
    rw [if_neg (h (g, u) List.mem_cons_self), putF_new fun p hp => h p (List.mem_cons_of_mem _ hp)]
    rfl
theorem sn_cons {c k f : Nat} {y : Str} {value : Expr} {sts : List Stmt} {ls : Es} {pself : Pos} {pos' : Pos} {xs : Str} (GO : GOk G X.K) (hc : G.imm c = true) (hf : (G.flds c)[k]? = some f) (hy : y = G.fnm f) (h0 : PE X (.Name xs pself) (tVar 0)) (hv : PE X value (rdE G X.K W (evalE C ea))) (hr : PSs X sts (rdN G X.K W C c (k + 1) ls))
    (hk1 : k < 1000 := by decide) (hsw : swapsWith value (some (.Attribute (.Name xs pself) y pos')) pos.line X.env = pure false := by rfl) : PSs X (.Assign [.Attribute (.Name xs pself) y pos'] value pos :: sts) (rdN G X.K W C c k (.cons ea ls)) :=
  pss_imp (pss_cons (ps_fld h0 hv hsw) hr) fun Z σ H ⟨as0, H0, as, m, δ, x, dx, ds, vs, hs, hx0, hn, hx, hl, g, R, S, rs, o⟩ => by
    subst hy
    have hklt : k < (G.flds c).length := (List.getElem?_eq_some_iff.mp hf).1
    have hfm : f ∈ G.flds c := List.mem_of_getElem? hf
    have o2 := (Out.bind' (show Out G X.K _ as0 H0 ((evalE C ea δ m).bind fun x m1 => (evalEs C ls δ m1).bind fun ds m2 => .ok (x :: ds) m2) _ from o)).later g
    refine ⟨as, m, δ, R, S, o2.imp fun d as1 m1 H1 R1 g1 o3 v r => ?_⟩
    have hx1 : H1 x = some (.ins (G.cls c) dx ((nms G c k).zip vs)) := g1.keep _ _ hx hn
    have hn1 : x ∉ as1 := g1.notin hx hn
    have hnl : (nms G c k).length = k := by unfold nms; rw [List.length_map, List.length_take]; omega
    have hzl : ((nms G c k).zip vs).length = k := by rw [List.length_zip, hnl, hl]; omega
    have hoff : OffX G H1 x := ⟨c, dx, _, hx1, hc, by rw [hzl]; exact hklt⟩
    have hnew : ∀ p ∈ (nms G c k).zip vs, p.1 ≠ G.fnm f := by
      intro p hp z
      have h1 := (List.of_mem_zip hp).1
      unfold nms at h1
      obtain ⟨g', hg', e⟩ := List.mem_map.mp h1
      obtain ⟨j, hj⟩ := List.mem_iff_getElem?.mp hg'
      have hjk : j < k := by
        have := (List.getElem?_eq_some_iff.mp hj).1
        rw [List.length_take] at this
        omega
      rw [List.getElem?_take_of_lt hjk] at hj
      have e2 : g' = f := GO.fin _ _ (GO.fkn c g' hc (List.mem_of_getElem? hj)) (GO.fkn c f hc hfm) (e.trans z)
      subst e2
      have := nd_ix (GO.fnd c hc) hj hf
      omega
    have hzip : putF (G.fnm f) v ((nms G c k).zip vs) = (nms G c (k + 1)).zip (vs ++ [v]) := by
      rw [putF_new hnew]
      have e : nms G c (k + 1) = nms G c k ++ [G.fnm f] := by
        unfold nms
        rw [List.take_add_one, hf, List.map_append]
        rfl
      rw [e, List.zip_append (by rw [hnl, hl])]
      rfl
    refine ⟨.ref x, hs, x, G.cls c, dx, _, rfl, hx1, GO.cls c (.inl hc), GO.noa c f (.inl hc) (GO.fkn c f hc hfm), by rw [hzl]; exact hk1, ?_⟩
    rw [hzip]
    have gg := g.trans g1
    refine ⟨as0, H0, as1, m1, δ, x, dx, ds ++ [d], vs ++ [v], hs, hx0, hn1, upd_same, by rw [List.length_append, hl]; rfl, ⟨gg.pre, gg.new, fun p ob hp hpn => ?_⟩, R1.off GO hoff _ hn1, ?_, reps_app ((rs.grow g1).off GO hoff _) (reps_one (r.off GO hoff _)), ?_⟩
    · rw [upd_ne]
      · exact gg.keep p ob hp hpn
      · rintro rfl
        rw [hx0] at hp; cases hp
    · have S1 := S.grow g1
      exact ⟨S1.len, fun i dd hi => by
        obtain ⟨u, h1, h2⟩ := S1.at_ i dd hi
        exact ⟨u, h1, h2.off GO hoff _⟩⟩
    · refine (Out.bind' o3).imp fun es as2 m2 H2 R2 g2 o4 r2 => ?_
      refine o4 as2 H2 R2 g2 ?_
      rw [List.append_assoc] at r2
      exact r2
end
/-! ### the program -/
section
variable {prog : Program} {w : World} {K : PySem.W.Frag} {mg : Str → Option Value} {base : Heap} {G : Gam} {P : Prog}
theorem call_zero {f : Nat} {ds : List FS.D} {m : Mem} : call P 0 f ds m = .no := rfl
theorem call_succ (n f : Nat) (ds : List FS.D) (m : Mem) : call P (n + 1) f ds m = match P.fns f with
    | some F => runFn (ctx P (call P n) (call P (n - 1))) F ds m
    | none => .no := by
  cases n with
  | zero => rfl
  | succ n => rfl
abbrev WEx (E : XK) : WX := fun cls d _ H => E cls d H
/-- a def, its body walked -/
def BodyFn (prog : Program) (w : World) (K : PySem.W.Frag) (mg : Str → Option Value) (base : Heap) (G : Gam) (P : Prog) (f np nl : Nat) (b : Ss) : Prop :=
  ∃ x qual params body scope fd N, FunD K x qual params body scope [] [] (G.fa f) fd ∧ FnScope N (G.pn f) scope ∧ Binds K fd (G.pn f) [] ∧ N.length = nl ∧ (G.pn f).length = np ∧
    ∀ n cdv A outer s H E, EnvOk G P n (cxOf (CX prog w) prog w K mg base N qual scope (G.fa f) cdv A outer s H E) (WEx E) (ctx P (call P n) (call P (n - 1))) →
      PSs (cxOf (CX prog w) prog w K mg base N qual scope (G.fa f) cdv A outer s H E) body (rdS G K (WEx E) (execSs (ctx P (call P n) (call P (n - 1))) b))
def BodyIni (prog : Program) (w : World) (K : PySem.W.Frag) (mg : Str → Option Value) (base : Heap) (G : Gam) (P : Prog) (f c np nl : Nat) (l : Es) : Prop :=
  ∃ x qual params body scope fd ps N, FunD K x qual params body scope [] [] (G.fa f) fd ∧ FnScope N ps scope ∧ Binds K fd ps [] ∧ N.length = nl ∧ ps.length = np + 1 ∧ G.imm c = true ∧
    ∀ n cdv A outer s H E, EnvOk G P n (cxOf (CX prog w) prog w K mg base N qual scope (G.fa f) cdv A outer s H E) (WEx E) (ctx P (call P n) (call P (n - 1))) →
      PSs (cxOf (CX prog w) prog w K mg base N qual scope (G.fa f) cdv A outer s H E) body (rdN G K (WEx E) (ctx P (call P n) (call P (n - 1))) c 0 l)
theorem len_of {as : List Addr} {H : Hp} {m : Mem} {ds : List FS.D} {n f np nl : Nat} {b : Ss} {Ex : Nat → Hp → Prop} {k : FS.D → List Addr → Mem → Hp → Prop} (hf : P.fns f = some (.fn np nl b)) (o : Out G K Ex as H (call P n f ds m) k) : ds.length = np := by
  cases n with
  | zero => exact o.elim
  | succ n =>
    rw [call_succ, hf] at o
    simp only [runFn] at o
    split at o
    · assumption
    · exact o.elim
theorem len_ofI {as : List Addr} {H : Hp} {m : Mem} {ds : List FS.D} {n f c np nl : Nat} {l : Es} {Ex : Nat → Hp → Prop} {k : FS.D → List Addr → Mem → Hp → Prop} (hf : P.fns f = some (.ini c np nl l)) (o : Out G K Ex as H (call P n f ds m) k) : ds.length = np := by
  cases n with
  | zero => exact o.elim
  | succ n =>
    rw [call_succ, hf] at o
    simp only [runFn] at o
    split at o
    · assumption
    · exact o.elim
theorem st_start {as : List Addr} {H : Hp} {ds : List FS.D} {vs : List V} {N : List Str} {nl : Nat} (hN : N.length = nl) (r : Reps G K as H ds vs) : St2 G K as H (FS.start nl ds) (L2.start N vs) := by
  refine ⟨?_, fun i d hi => ?_⟩
  · unfold FS.start L2.start
    rw [List.length_append, List.length_append, List.length_map, List.length_map, List.length_replicate, List.length_replicate, r.len, hN]
  · unfold FS.start at hi
    unfold L2.start
    by_cases hl : i < ds.length
    · rw [List.getElem?_append_left (by rw [List.length_map]; exact hl), List.getElem?_map] at hi
      obtain ⟨d', hd, e⟩ := Option.map_eq_some_iff.mp hi
      cases e
      obtain ⟨v, h1, h2⟩ := r.get hd
      exact ⟨v, by rw [List.getElem?_append_left (by rw [List.length_map, r.len]; exact hl), List.getElem?_map, h1]; rfl, h2⟩
    · rw [List.getElem?_append_right (by rw [List.length_map]; omega), List.getElem?_replicate] at hi
      split at hi <;> cases hi
theorem fin_out {as : List Addr} {H : Hp} {Q : VK} {E : XK} {r : SR} (o : Out G K (fun c H' => E (.ref (G.cls c)) none H') as H (fin r) fun d as' m' H' => ∀ v, Rep G K as' H' d v → Q v H') : OutS G K (WEx E) { nx := fun _ H' => Q .non H', rt := Q } as H r := by
  cases r with
  | nx δ m => exact fun as' H' σ' R' g' S' => o as' H' R' g' _ (by simp only [Rep])
  | rt d m => exact fun as' H' v R' g' r' => o as' H' R' g' v r'
  | ex c δ m => exact fun as' H' σ' R' g' S' => o as' H' R' g'
  | bk δ m => exact o.elim
  | ct δ m => exact o.elim
  | no => exact o.elim
theorem _root_.L2.FunD.look {x qual : Str} {params : Arguments} {body : List Stmt} {scope : Scope} {dvs : List V} {kws : List (Str × V)} {f : Addr} {fd : FuncData} (F : FunD K x qual params body scope dvs kws f fd) : ∃ oc od osl, K.lookup f = some ⟨oc, od, .func fd, osl⟩ := by
  obtain ⟨oc, od, dV, kV, doc, pm, an, cdv, ct, osl, rfl, lk, _⟩ := F.ex
  exact ⟨oc, od, osl, lk⟩
theorem kn_all (st : Stc K G P) (hfn : ∀ f np nl b, G.kfn f = true → P.fns f = some (.fn np nl b) → BodyFn prog w K mg base G P f np nl b) (hini : ∀ f c np nl l, G.kfn f = true → P.fns f = some (.ini c np nl l) → BodyIni prog w K mg base G P f c np nl l) :
    ∀ n, Kn prog w K mg base G P n ∧ Kn prog w K mg base G P (n - 1) := by
  have h0 : Kn prog w K mg base G P 0 := ⟨fun f np nl b hk hf => by
    obtain ⟨x, qual, params, body, scope, fd, N, F, S, B, hN, hps, hw⟩ := hfn f np nl b hk hf
    exact ⟨fd, ⟨fun vs H Q E ⟨_, _, _, _, _, o⟩ => o.elim, fun A outer s H args us vs Q E _ _ _ _ ⟨_, _, _, _, _, o⟩ => o.elim⟩, B, F.kp, F.look⟩, fun f c np nl l hk hf => by
    obtain ⟨x, qual, params, body, scope, fd, ps, N, F, S, B, hN, hps, hc, hw⟩ := hini f c np nl l hk hf
    exact ⟨fd, ps, ⟨fun vs H Q E ⟨_, _, _, _, _, _, _, _, _, _, _, _, _, _, _, o⟩ => o.elim, fun A outer s H args us vs Q E _ _ _ _ ⟨_, _, _, _, _, _, _, _, _, _, _, _, _, _, _, o⟩ => o.elim⟩, B, F.kp⟩⟩
  intro n
  induction n with
  | zero => exact ⟨h0, h0⟩
  | succ n ih =>
    refine ⟨⟨fun f np nl b hk hf => ?_, fun f c np nl l hk hf => ?_⟩, ih.1⟩
    · obtain ⟨x, qual, params, body, scope, fd, N, F, S, B, hN, hps, hw⟩ := hfn f np nl b hk hf
      refine ⟨fd, F.ok S (fun vs H Q E ⟨as, m, ds, R, r, o⟩ => by rw [r.len, len_of hf o, hps]) fun cdv A outer s H vs Q E hr ⟨as, m, ds, R, r, o⟩ => ?_, B, F.kp, F.look⟩
      refine ⟨_, hw n cdv A outer s H E ⟨st, hr, rfl, takes_of rfl rfl rfl rfl, rfl, ih.1, ih.2, passes_of rfl⟩, as, m, FS.start nl ds, R, st_start hN r, ?_⟩
      have hlen := len_of hf o
      rw [call_succ, hf] at o
      simp only [runFn] at o
      rw [if_pos hlen] at o
      exact fin_out o
    · obtain ⟨x, qual, params, body, scope, fd, ps, N, F, S, B, hN, hps, hc, hw⟩ := hini f c np nl l hk hf
      refine ⟨fd, ps, F.ok S (fun vs H Q E ⟨y, dx, ws, as0, H0, as, m, ds, e, _, _, _, _, _, r, o⟩ => by rw [e, List.length_cons, r.len, len_ofI hf o, hps]) fun cdv A outer s H vs Q E hr ⟨y, dx, ws, as0, H0, as, m, ds, e, h0', hn, hx, g, R, r, o⟩ => ?_, B, F.kp⟩
      subst e
      have hlen := len_ofI hf o
      rw [call_succ, hf] at o
      simp only [runFn] at o
      rw [if_pos hlen] at o
      refine ⟨_, hw n cdv A outer s H E ⟨st, hr, rfl, takes_of rfl rfl rfl rfl, rfl, ih.1, ih.2, passes_of rfl⟩, as0, H0, as, m, none :: FS.start (nl - 1) ds, y, dx, [], [], rfl, h0', hn, by rw [hx]; unfold nms; rfl, rfl, g, R, ?_, reps_nil, ?_⟩
      · have hl := S.pre
        have hle : ps.length ≤ N.length := by
          have := congrArg List.length hl
          rw [List.length_take] at this
          omega
        have hst := st_start (G := G) (K := K) (as := as) (H := H) (N := N.tail) (nl := nl - 1) (by rw [List.length_tail, hN]) r
        have e1 : L2.start N (.ref y :: ws) = some (.ref y) :: L2.start N.tail ws := by
          unfold L2.start
          rw [List.map_cons, List.cons_append, List.length_tail, List.length_cons]
          congr 3
          omega
        rw [e1]
        refine ⟨by simp [hst.len], fun i d hi => ?_⟩
        cases i with
        | zero => cases hi
        | succ i => exact hst.at_ i d hi
      · refine (Out.bind' o).imp fun es as' m' H' R' g' o' r' => ?_
        exact o' as' H' R' g' (by rw [List.nil_append] at r'; exact r')
end
end FS

namespace FS
open PySem L2
structure Tb where
  cn : List (Nat × Str)
  im : List Nat
  mu : List Nat
  fn : List (Nat × Str)
  mn : List (Nat × Str)
  fl : List (Nat × List Nat)
  fs : List (Nat × (Str × Option Str))
  mt : List ((Nat × Nat) × Nat)
  ci : List (Nat × CI)
  sb : List (Nat × Nat)
  pr : List (Nat × Fn)
  ps : List (Nat × List Str)
  fuel : Nat
def Tb.cnm (T : Tb) (c : Nat) : Str := (T.cn.lookup c).getD default
def Tb.fnm (T : Tb) (f : Nat) : Str := (T.fn.lookup f).getD default
def Tb.mnm (T : Tb) (f : Nat) : Str := (T.mn.lookup f).getD default
def Tb.flds (T : Tb) (c : Nat) : List Nat := (T.fl.lookup c).getD []
def Tb.at_ (T : Tb) (f : Nat) : Str × Option Str := (T.fs.lookup f).getD default
def Tb.P (T : Tb) : Prog where
  fns := fun f => T.pr.lookup f
  cini := fun c => T.ci.lookup c
  mt := fun c m => T.mt.lookup (c, m)
  sub := fun c e => T.sb.contains (c, e)
  vale := fun _ => false
  flds := T.flds
  fuel := T.fuel
def Tb.G (T : Tb) (K : PySem.W.Frag) : Gam where
  cls := fun c => He.ga K (T.cnm c)
  fnm := T.fnm
  kf := fun f => (T.fn.lookup f).isSome
  flds := T.flds
  imm := fun c => T.im.contains c
  mu := fun c => T.mu.contains c
  kc := fun c => (T.cn.lookup c).isSome
  fa := fun f => He.fAd K (T.at_ f)
  kfn := fun f => (T.fs.lookup f).isSome
  mn := T.mnm
  pn := fun f => (T.ps.lookup f).getD []
def tys6 : List String := ["int", "bool", "str", "NoneType", "tuple", "list"]
def tys5 : List String := ["int", "bool", "str", "tuple", "list"]
def isFnB : Option Fn → Bool
  | some (.fn _ _ _) => true
  | _ => false
def isIniB (c : Nat) : Option Fn → Bool
  | some (.ini d _ _ _) => d == c
  | _ => false
def methB (K : PySem.W.Frag) (C : Addr) (m : Str) (g : Addr) : Bool := He.eqO (PySem.W.findIn K (.ref C) m) (some (some (.ref g))) && (PySem.W.isFn K (.ref g) && PySem.W.keepIn K (.ref g))
def mkB (K : PySem.W.Frag) (C : Addr) (g : Addr) : Bool := PySem.W.makesIn K C && (He.eqO (PySem.W.findIn K (.ref C) "__init__") (some (some (.ref g))) && (PySem.W.isFn K (.ref g) && PySem.W.keepIn K (.ref C)))
/-- what of the tables is checked with no program in sight -/
def Tb.chk0 (T : Tb) : Bool :=
  (T.fn.all fun p => T.fn.all fun q => (p.1 == q.1) || !decide (p.2 = q.2)) &&
  ((T.fl.all fun p => (p.2.all fun f => (T.fn.lookup f).isSome) && decide p.2.Nodup) &&
  ((T.fn.all fun p => T.mn.all fun q => !decide (p.2 = q.2)) &&
  ((T.mt.all fun p => (T.im ++ T.mu).contains p.1.1 && ((T.fs.lookup p.2).isSome && isFnB (T.pr.lookup p.2))) &&
  ((T.ci.all fun p => match p.2 with
    | .bare => T.im.contains p.1 && (T.flds p.1).isEmpty
    | .imm f => T.im.contains p.1 && ((T.fs.lookup f).isSome && isIniB p.1 (T.pr.lookup f))
    | .chg f => T.mu.contains p.1 && ((T.fs.lookup f).isSome && isFnB (T.pr.lookup f))) &&
  (T.im ++ T.mu).all fun c => (T.cn.lookup c).isSome))))
/-- what is checked in the heap behind the top -/
def Tb.chk (T : Tb) (K : PySem.W.Frag) : Bool :=
  ((T.im ++ T.mu).all fun c => (He.Fa.cls (T.cnm c)).ok K && (He.eqO (PySem.W.findIn K (.ref (He.ga K (T.cnm c))) "__class__") (some (some (.builtin "object.__class__"))) && decide (PySem.W.mroIn K (He.ga K (T.cnm c)) (.type "object") = some true))) &&
  (((T.im ++ T.mu).all fun c => (T.im ++ T.mu).all fun e => (c == e) || !decide (He.ga K (T.cnm c) = He.ga K (T.cnm e))) &&
  (((T.im ++ T.mu).all fun c => T.fn.all fun f => (He.Fa.noat (T.cnm c) f.2).ok K) &&
  ((He.eqO (PySem.W.specialIn K (.builtin "object.__class__") "__get__") (some (some (.builtin "getset_descriptor.__get__"))) && decide (PySem.W.takesIn K (.builtin "object.__class__") = some true)) &&
  (((T.im ++ T.mu).all fun c => T.cn.all fun e => decide (PySem.W.kitOne K (.ref (He.ga K (T.cnm c))) (.ref (He.ga K e.2)) = some (T.sb.contains (c, e.1)))) &&
  ((T.cn.all fun e => tys6.all fun n => decide (PySem.W.kitOne K (.type n) (.ref (He.ga K e.2)) = some false)) &&
  (((T.im ++ T.mu).all fun c => tys5.all fun n => decide (PySem.W.kitOne K (.ref (He.ga K (T.cnm c))) (.type n) = some false)) &&
  ((T.mt.all fun p => methB K (He.ga K (T.cnm p.1.1)) (T.mnm p.1.2) (He.fAd K (T.at_ p.2))) &&
  (T.ci.all fun p => match p.2 with
    | .bare => PySem.W.makesIn K (He.ga K (T.cnm p.1)) && (He.eqO (PySem.W.findIn K (.ref (He.ga K (T.cnm p.1))) "__init__") (some (some (.builtin "object.__init__"))) && PySem.W.keepIn K (.ref (He.ga K (T.cnm p.1))))
    | .imm f => mkB K (He.ga K (T.cnm p.1)) (He.fAd K (T.at_ f))
    | .chg f => mkB K (He.ga K (T.cnm p.1)) (He.fAd K (T.at_ f))))))))))
theorem lookup_mem {α β : Type} [BEq α] [LawfulBEq α] {l : List (α × β)} {a : α} {b : β} (h : l.lookup a = some b) : (a, b) ∈ l := by
  induction l with
  | nil => cases h
  | cons p r ih =>
    obtain ⟨x, y⟩ := p
    rw [List.lookup_cons] at h
    cases q : a == x with
    | true =>
      rw [q] at h
      have : y = b := by simpa using h
      rw [eq_of_beq q, this]
      exact List.mem_cons_self
    | false =>
      rw [q] at h
      exact List.mem_cons_of_mem _ (ih h)
theorem all_mem {α : Type} {l : List α} {p : α → Bool} (h : l.all p = true) {a : α} (ha : a ∈ l) : p a = true := List.all_eq_true.mp h a ha
theorem isFnB_ok {o : Option Fn} (h : isFnB o = true) : ∃ np nl b, o = some (.fn np nl b) := by
  cases o with
  | none => cases h
  | some F =>
    cases F with
    | fn np nl b => exact ⟨_, _, _, rfl⟩
    | ini c np nl l => cases h
theorem isIniB_ok {c : Nat} {o : Option Fn} (h : isIniB c o = true) : ∃ np nl l, o = some (.ini c np nl l) := by
  cases o with
  | none => cases h
  | some F =>
    cases F with
    | fn np nl b => cases h
    | ini d np nl l =>
      have : d = c := eq_of_beq h
      subst this
      exact ⟨_, _, _, rfl⟩
theorem methB_ok {K : PySem.W.Frag} {C g : Addr} {m : Str} (h : methB K C m g = true) : Meth K C m g := by
  obtain ⟨h1, h2⟩ := He.ba h
  obtain ⟨h2, h3⟩ := He.ba h2
  exact ⟨He.eqO_ok h1, h2, h3⟩
theorem mkB_ok {K : PySem.W.Frag} {C g : Addr} (h : mkB K C g = true) : Mk K C g := by
  obtain ⟨h1, h2⟩ := He.ba h
  obtain ⟨h2, h3⟩ := He.ba h2
  obtain ⟨h3, h4⟩ := He.ba h3
  exact ⟨h1, He.eqO_ok h2, h3, h4⟩
theorem some_of {α : Type} {o : Option α} (h : o.isSome = true) : ∃ a, o = some a := Option.isSome_iff_exists.mp h
section
variable {T : Tb} {K : PySem.W.Frag}
theorem im_mu {c : Nat} (h : (T.G K).imm c = true ∨ (T.G K).mu c = true) : c ∈ T.im ++ T.mu := by
  rcases h with h | h
  · exact List.mem_append_left _ (List.contains_iff_mem.mp h)
  · exact List.mem_append_right _ (List.contains_iff_mem.mp h)
theorem nm_of {l : List (Nat × Str)} {i : Nat} (h : (l.lookup i).isSome = true) : (i, (l.lookup i).getD default) ∈ l := by
  obtain ⟨a, ha⟩ := some_of h
  rw [ha]
  exact lookup_mem ha
theorem stc_of (h0 : T.chk0 = true) (h : T.chk K = true) : Stc K (T.G K) T.P := by
  unfold Tb.chk0 at h0
  obtain ⟨a1, h0⟩ := He.ba h0
  obtain ⟨a2, h0⟩ := He.ba h0
  obtain ⟨a3, h0⟩ := He.ba h0
  obtain ⟨a4, h0⟩ := He.ba h0
  obtain ⟨a5, a6⟩ := He.ba h0
  unfold Tb.chk at h
  obtain ⟨b1, h⟩ := He.ba h
  obtain ⟨b2, h⟩ := He.ba h
  obtain ⟨b3, h⟩ := He.ba h
  obtain ⟨b4, h⟩ := He.ba h
  obtain ⟨b5, h⟩ := He.ba h
  obtain ⟨b6, h⟩ := He.ba h
  obtain ⟨b7, h⟩ := He.ba h
  obtain ⟨b8, b9⟩ := He.ba h
  have fl : ∀ {c f : Nat}, f ∈ T.flds c → ∃ l, (c, l) ∈ T.fl ∧ T.flds c = l := by
    intro c f hf
    unfold Tb.flds at hf ⊢
    cases e : T.fl.lookup c with
    | none => rw [e] at hf; cases hf
    | some l => exact ⟨l, lookup_mem e, rfl⟩
  refine ⟨⟨fun i j hi hj e => ?_, fun c f hc hf => ?_, fun c hc => ?_, fun c hc => ?_, fun c e hc he q => ?_, fun c f hc hf => ?_⟩,
    ⟨fun c hc => ?_, ?_, fun c e hc he => ?_, fun n e hn he => ?_, fun c n hn hc => ?_⟩, rfl, fun c i g hm hc => ?_, fun c f hc => ?_, fun c f hc => ?_, fun c hc => ?_⟩
  · have := all_mem (all_mem a1 (nm_of hi)) (nm_of hj)
    rw [Bool.or_eq_true] at this
    rcases this with q | q
    · exact eq_of_beq q
    · rw [Bool.not_eq_true', decide_eq_false_iff_not] at q
      exact absurd e q
  · obtain ⟨l, hl, e⟩ := fl hf
    rw [show (T.G K).flds c = T.flds c from rfl, e] at hf
    exact all_mem (He.ba (all_mem a2 hl)).1 hf
  · show (T.flds c).Nodup
    cases e : T.flds c with
    | nil => exact List.nodup_nil
    | cons f r =>
      obtain ⟨l, hl, e2⟩ := fl (c := c) (f := f) (by rw [e]; exact List.mem_cons_self)
      rw [← e, e2]
      exact of_decide_eq_true (He.ba (all_mem a2 hl)).2
  · exact He.cls_ok (He.ba (all_mem b1 (im_mu hc))).1
  · have := all_mem (all_mem b2 (im_mu hc)) (im_mu he)
    rw [Bool.or_eq_true] at this
    rcases this with r | r
    · exact eq_of_beq r
    · rw [Bool.not_eq_true', decide_eq_false_iff_not] at r
      exact absurd q r
  · exact He.noat_ok (all_mem (all_mem b3 (im_mu hc)) (nm_of hf))
  · obtain ⟨h1, h2⟩ := He.ba (He.ba (all_mem b1 (im_mu hc))).2
    exact ⟨He.eqO_ok h1, of_decide_eq_true h2⟩
  · obtain ⟨h1, h2⟩ := He.ba b4
    exact ⟨He.eqO_ok h1, of_decide_eq_true h2⟩
  · exact of_decide_eq_true (all_mem (all_mem b5 (im_mu hc)) (nm_of he))
  · exact of_decide_eq_true (all_mem (all_mem b6 (nm_of he)) hn)
  · exact of_decide_eq_true (all_mem (all_mem b7 (im_mu hc)) hn)
  · have hp := lookup_mem (show T.mt.lookup (c, i) = some g from hm)
    obtain ⟨h1, h2⟩ := He.ba (all_mem a4 hp)
    obtain ⟨h2, h3⟩ := He.ba h2
    exact ⟨methB_ok (all_mem b8 hp), h2, isFnB_ok h3⟩
  · have hp := lookup_mem (show T.ci.lookup c = some (.imm f) from hc)
    have h1 := all_mem a5 hp
    have h2 := all_mem b9 hp
    obtain ⟨h3, h4⟩ := He.ba h1
    obtain ⟨h4, h5⟩ := He.ba h4
    exact ⟨mkB_ok h2, h3, h4, isIniB_ok h5⟩
  · have hp := lookup_mem (show T.ci.lookup c = some (.chg f) from hc)
    have h1 := all_mem a5 hp
    have h2 := all_mem b9 hp
    obtain ⟨h3, h4⟩ := He.ba h1
    obtain ⟨h4, h5⟩ := He.ba h4
    exact ⟨mkB_ok h2, h3, h4, isFnB_ok h5⟩
  · have hp := lookup_mem (show T.ci.lookup c = some .bare from hc)
    have h1 := all_mem a5 hp
    have h2 := all_mem b9 hp
    obtain ⟨h3, h4⟩ := He.ba h1
    obtain ⟨h5, h6⟩ := He.ba h2
    obtain ⟨h6, h7⟩ := He.ba h6
    exact ⟨h5, He.eqO_ok h6, h7, h3, List.isEmpty_iff.mp h4⟩
theorem mnf_of (h0 : T.chk0 = true) {i : Nat} (hi : (T.mn.lookup i).isSome = true) : ∀ f, (T.G K).kf f = true → (T.G K).fnm f ≠ (T.G K).mn i := by
  unfold Tb.chk0 at h0
  intro f hf
  have := all_mem (all_mem (He.ba (He.ba (He.ba h0).2).2).1 (nm_of hf)) (nm_of hi)
  rw [Bool.not_eq_true', decide_eq_false_iff_not] at this
  exact this
/-- the defs, all walked -/
def BodyAny (prog : Program) (w : World) (K : PySem.W.Frag) (mg : Str → Option Value) (base : Heap) (T : Tb) (f : Nat) : Fn → Prop
  | .fn np nl b => BodyFn prog w K mg base (T.G K) T.P f np nl b
  | .ini c np nl l => BodyIni prog w K mg base (T.G K) T.P f c np nl l
theorem kn_of {prog : Program} {w : World} {mg : Str → Option Value} {base : Heap} (st : Stc K (T.G K) T.P) (hb : ∀ p ∈ T.pr, BodyAny prog w K mg base T p.1 p.2) (n : Nat) : Kn prog w K mg base (T.G K) T.P n :=
  (kn_all st (fun f np nl b _ hf => hb (f, .fn np nl b) (lookup_mem hf)) (fun f c np nl l _ hf => hb (f, .ini c np nl l) (lookup_mem hf)) n).1
end
/-! ### the head's Hook -/
abbrev AlF : Type := He.AlD × Bool
def obsF (n : Nat) (fa : List He.Fa) (fn : List He.DefD) (ex : PySem.W.Frag → Bool) (g : Addr → Option Obj) : AlF := (He.obsDG n fa fn g, ex (He.frG g (He.asD g n)))
def SaysF (fa : List He.Fa) (fn : List He.DefD) (ex : PySem.W.Frag → Bool) (K : PySem.W.Frag) : Prop := He.SaysD fa fn K ∧ ex K = true
def hookF (n : Nat) (fa : List He.Fa) (fn : List He.DefD) (ex : PySem.W.Frag → Bool) : PySem.W.Hook where
  α := AlF
  obs := fun s => obsF n fa fn ex s.heap.get?
  val := fun _ => (He.valD fn, true)
  says := fun _ h => ∃ K : PySem.W.Frag, K.In h ∧ SaysF fa fn ex K
  of := fun _ _ e => ⟨_, He.frG_in, congrArg (fun z : AlF => z.1) e, congrArg (fun z : AlF => z.2) e⟩
  keeps := fun _ _ _ ⟨K, hK, c⟩ k => ⟨K, PySem.W.Frag.In.keeps hK k, c⟩
theorem obsF_eq {n : Nat} {fa : List He.Fa} {fn : List He.DefD} {ex : PySem.W.Frag → Bool} {g : Addr → Option Obj} {s : Shared} (h : ∀ a, g a = s.heap.get? a) : obsF n fa fn ex g = (hookF n fa fn ex).obs s := by
  have e : g = s.heap.get? := funext h
  rw [e] <;> rfl
/-! ### the law's call -/
def spL (G : Gam) (K : PySem.W.Frag) (P : Prog) (n f : Nat) : Sp := fun vs H Q E => spF G K P n f vs H Q fun _ _ _ => False
theorem calm_ok {prog : Program} {w : World} {K : PySem.W.Frag} {mg : Str → Option Value} {base : Heap} {G : Gam} {P : Prog} {n f : Nat} {fd : FuncData} {ps : List Str} {a : Addr} (F : FnOk prog w K mg base (CX prog w) n a fd ps (spF G K P n f)) : FnOk prog w K mg base CX0 n a fd ps (spL G K P n f) :=
  ⟨fun vs H Q E h => F.len _ _ _ _ h, fun A outer s H args us vs Q E hr he hb hv hs => codeAny_mono (F.run A outer s H args us vs Q _ hr he hb hv hs) fun r s' hq => by
    cases r with
    | error e =>
      obtain ⟨_, _, _, _, _, _, _, _, _, _, _, _, z⟩ := hq
      exact z.elim
    | ok fl => cases fl <;> exact hq⟩
theorem MtM_R {X : Cx} {id : String} {r : V → List V → Hp → VK → Prop} (h : MtM X id r) : MtR X id r := h
theorem bmk_append : ∀ k', bmK .append k' = true → k' = .l := by intro k; cases k <;> intro h <;> first | rfl | cases h
theorem bmk_pop : ∀ k', bmK .pop k' = true → k' = .l := by intro k; cases k <;> intro h <;> first | rfl | cases h
theorem bmk_clear : ∀ k', bmK .clear k' = true → k' = .l := by intro k; cases k <;> intro h <;> first | rfl | cases h
theorem bmk_find : ∀ k', bmK .find k' = true → k' = .s := by intro k; cases k <;> intro h <;> first | rfl | cases h
theorem bmk_startswith : ∀ k', bmK .startswith k' = true → k' = .s := by intro k; cases k <;> intro h <;> first | rfl | cases h
theorem bmk_split : ∀ k', bmK .split k' = true → k' = .s := by intro k; cases k <;> intro h <;> first | rfl | cases h
theorem bmk_partition : ∀ k', bmK .partition k' = true → k' = .s := by intro k; cases k <;> intro h <;> first | rfl | cases h
theorem bmk_join : ∀ k', bmK .join k' = true → k' = .s := by intro k; cases k <;> intro h <;> first | rfl | cases h
theorem boot_len' : bootBuiltins "len" = some (.builtin "len") := by kernel_rfl
theorem boot_all' : bootBuiltins "all" = some (.builtin "all") := by kernel_rfl
theorem boot_any' : bootBuiltins "any" = some (.builtin "any") := by kernel_rfl
theorem boot_sum' : bootBuiltins "sum" = some (.builtin "sum") := by kernel_rfl
theorem boot_abs' : bootBuiltins "abs" = some (.builtin "abs") := by kernel_rfl
theorem boot_min' : bootBuiltins "min" = some (.builtin "min") := by kernel_rfl
theorem boot_max' : bootBuiltins "max" = some (.builtin "max") := by kernel_rfl
theorem boot_isinstance' : bootBuiltins "isinstance" = some (.builtin "isinstance") := by kernel_rfl
theorem boot_int' : bootBuiltins "int" = some (.type "int") := by kernel_rfl
theorem boot_bool' : bootBuiltins "bool" = some (.type "bool") := by kernel_rfl
theorem boot_str' : bootBuiltins "str" = some (.type "str") := by kernel_rfl
theorem boot_list' : bootBuiltins "list" = some (.type "list") := by kernel_rfl
theorem boot_tuple' : bootBuiltins "tuple" = some (.type "tuple") := by kernel_rfl
/-- the law's own function object keeps the promise -/
theorem fn_at {prog : Program} {w : World} {K : PySem.W.Frag} {mg : Str → Option Value} {base : Heap} {G : Gam} {P : Prog} {n f : Nat} {x qual : Str} {params : Arguments} {body : List Stmt} {scope : Scope} {dvs : List V} {kws : List (Str × V)} {fd : FuncData}
    (F : FunD K x qual params body scope dvs kws (G.fa f) fd) (kn : Kn prog w K mg base G P n) (hk : G.kfn f = true) (hf : isFn P f) : FnOk prog w K mg base (CX prog w) n (G.fa f) fd (G.pn f) (spF G K P n f) := by
  obtain ⟨np, nl, b, hf⟩ := hf
  obtain ⟨fd', F', _, _, oc', od', osl', h'⟩ := kn.fn f np nl b hk hf
  obtain ⟨oc, od, osl, h⟩ := F.look
  rw [h] at h'
  cases h'
  exact F'
theorem seq_rol {K : PySem.W.Frag} {H : Hp} {a : Addr} {vs : List V} (hO : Only H) (h : SqL K H a vs) : RoL K [] H a vs := by
  rcases h with (h | h) | h
  · rcases hO a with e | ⟨o, xs, e⟩
    · rw [h] at e; cases e
    · rw [h] at e; cases e
  · exact .inl ⟨List.not_mem_nil, h⟩
  · exact .inr h
theorem reps_of_ints {G : Gam} {K : PySem.W.Frag} {as : List Addr} {H : Hp} : ∀ ns : List Int, Reps G K as H (ns.map .int) (ns.map V.int)
  | [] => reps_nil
  | n :: ns => reps_cons (by simp only [Rep]) (reps_of_ints ns)
theorem law_sp {G : Gam} {K : PySem.W.Frag} {P : Prog} {n f : Nat} {H : Hp} {a : Addr} {ns : List Int} (hO : Only H) (h : SqL K H a (ns.map V.int)) (hp : ∃ m, call P n f [.rol (ns.map .int)] [] = .ok (.bl true) m) :
    spL G K P n f [.ref a] H (fun v _ => v = .bl true) fun _ _ _ => False := by
  obtain ⟨m, hp⟩ := hp
  refine ⟨[], [], [.rol (ns.map .int)], ⟨rfl, List.nodup_nil, fun i p mo e => by cases e⟩, reps_one ?_, ?_⟩
  · simp only [Rep]
    exact ⟨a, ns.map V.int, rfl, seq_rol hO h, reps_of_ints ns⟩
  · rw [hp]
    exact fun as' H' R g v r => rep_bl r
end FS

namespace FS
open PySem L2
section
variable {G : Gam} {X : Cx} {W : WX} {e a b c : Expr} {pos p2 p3 : Pos} {m : Mem} {as as' : List Addr} {H H' : Hp} {σ : L2.St} {δ : Sto} {K : PySem.W.Frag} {C : Ctx} {ea eb ec : E}
def kvT (G : Gam) (K : PySem.W.Frag) (W : WX) (C : Ctx) : Kv → List (TE × TE)
  | .nil => []
  | .cons k v l => (rdE G K W (evalE C k), rdE G K W (evalE C v)) :: kvT G K W C l
def RepP (G : Gam) (K : PySem.W.Frag) (as : List Addr) (H : Hp) : List (FS.D × FS.D) → List (V × V) → Prop
  | [], ps => ps = []
  | p :: r, ps => ∃ x y t, ps = (x, y) :: t ∧ Rep G K as H p.1 x ∧ Rep G K as H p.2 y ∧ RepP G K as H r t
theorem kv_pairs : ∀ (l : Kv) (as : List Addr) (m : Mem) (H : Hp) (Q : List (V × V) → Hp → Prop), Rel G K as m H → St2 G K as H δ σ →
    Out G K (fun c H' => W (.ref (G.cls c)) none σ H') as H (evalKV C l δ m) (fun kvs as' m' H' => ∀ ps, RepP G K as' H' kvs ps → Q ps H') → tPairs (kvT G K W C l) σ H Q
  | .nil, as, m, H, Q, R, S, o => Out.here R o [] rfl
  | .cons k v l, as, m, H, Q, R, S, o => ⟨as, m, δ, R, S, o.bind.imp fun d as1 m1 H1 R1 g1 o1 x r1 => ⟨as1, m1, δ, R1, S.grow g1, o1.bind.imp fun d2 as2 m2 H2 R2 g2 o2 y r2 =>
      kv_pairs l as2 m2 H2 _ R2 ((S.grow g1).grow g2) (o2.bind.imp fun kvs as3 m3 H3 R3 g3 o3 ps rp => Out.here R3 o3 ((x, y) :: ps) ⟨x, y, ps, rfl, (r1.grow g2).grow g3, r2.grow g3, rp⟩)⟩⟩
theorem disp_K : ∀ {kvs : List (FS.D × FS.D)} {ps : List (V × V)}, RepP G K as H kvs ps → kvs.all (fun p => keyOk false p.1) = true → ∃ ks : List (Key × V), ps = ks.map (fun kv => (kV kv.1, kv.2)) ∧ KvsK G K as H kvs ks
  | [], _, h, _ => by cases (show _ = _ from h); exact ⟨[], rfl, rfl⟩
  | p :: r, _, ⟨x, y, t, e, h1, h2, h3⟩, hk => by
    subst e
    rw [List.all_cons, Bool.and_eq_true] at hk
    obtain ⟨k, hk1⟩ := keyOk_f hk.1
    obtain ⟨ks, e2, h4⟩ := disp_K h3 hk.2
    subst e2
    exact ⟨(k, y) :: ks, by rw [List.map_cons, rep_key h1 hk1], k, y, ks, rfl, hk1, h2, h4⟩
theorem fold_K : ∀ {kvs base : List (FS.D × FS.D)} {ks bs : List (Key × V)}, KvsK G K as H kvs ks → KvsK G K as H base bs → KvsK G K as H (kvs.foldl (fun a p => dPut a p.1 p.2) base) (mergeK bs ks)
  | [], _, _, _, h, h' => by cases (show _ = _ from h); exact h'
  | p :: r, _, _, _, ⟨k, v, t, e, h1, h2, h3⟩, h' => by
    subst e
    exact fold_K (kvs := r) (ks := t) h3 (kvsK_put h1 h2 h')
theorem es_dctK {keys : List (Option Expr)} {values : List Expr} {l : Kv} (h : PPs X pos keys values (kvT G X.K W C l)) (hall : keys.all (·.isSome) = true := by rfl) (hl : keys.length = values.length := by rfl) (hne : keys ≠ [] := by simp) (h15 : keys.length ≤ 15 := by decide) :
    PE X (.Dict keys values pos) (rdE G X.K W (evalE C (.dct false l))) :=
  pe_imp (pe_disp h hall hl hne h15) fun σ H Q ⟨as, m, δ, R, S, o⟩ p hp => by
    obtain ⟨g1, R1, hi⟩ := R.newM (mo := .dct false false []) (o := .dK []) hp fun g => ⟨[], upd_same, rfl⟩
    refine kv_pairs l (as ++ [p]) _ _ _ R1 (S.grow g1) ((Out.bind (show Out G X.K _ as H ((evalKV C l δ (m ++ [.dct false false []])).bind fun kvs m1 => if kvs.all (fun p => keyOk false p.1) && decide (kvs.length ≤ 15) && decide (m1[m.length]? = some (.dct false false [])) then (Res.ok (D.ref m.length) (m1.set m.length (MO.dct false false (kvs.foldl (fun a p => dPut a p.1 p.2) []))) : Res FS.D) else Res.no) _ from o)).later g1 |>.imp fun kvs as2 m2 H2 R2 g2 o2 ps rp => ?_)
    split at o2
    · rename_i hc
      simp only [Bool.and_eq_true, decide_eq_true_eq] at hc
      obtain ⟨⟨hk, h15'⟩, hm⟩ := hc
      obtain ⟨ks, e, hks⟩ := disp_K rp hk
      have hix := g2.ix hi
      obtain ⟨ks0, h0, hs0⟩ := R2.at_ _ p _ hix hm
      have e0 : ks0 = [] := hs0
      subst e0
      refine ⟨h0, ks, e, by rw [kvsK_len hks]; exact h15', ?_⟩
      obtain ⟨g3, R3⟩ := R2.put hix (o := .dK (mergeK [] ks)) (mo := .dct false false (kvs.foldl (fun a p => dPut a p.1 p.2) [])) fun g => ⟨_, upd_same, fold_K (base := []) (bs := []) (hks.grow g) rfl⟩
      exact o2 _ _ R3 g3 _ (by simp only [Rep]; exact ⟨p, rfl, hix⟩)
    · exact o2.elim
end
end FS

namespace FS
/-- an operator, not to be looked into -/
@[irreducible] def opx (o : O2) (x y : D) (m : Mem) : Res D := op2 o x y m
theorem opx_eq (o : O2) (x y : D) (m : Mem) : opx o x y m = op2 o x y m := by unfold opx; rfl
def varD (o : Option (Option D)) (m : Mem) : Res D := match o with
    | some (some d) => .ok d m
    | _ => .no
def notD (x : D) (m1 : Mem) : Res D := match x with
    | .bl k => .ok (.bl (!k)) m1
    | _ => .no
def iteD (x : D) (a b : Res D) : Res D := match x with
    | .bl true => a
    | .bl false => b
    | _ => .no
def iteS (x : D) (a b : SR) : SR := match x with
    | .bl true => a
    | .bl false => b
    | _ => .no
def optD (x : Option Bool) (a b : Res D) : Res D := match x with
    | some true => a
    | some false => b
    | none => .no
def negD (x : D) (m1 : Mem) : Res D := match x with
    | .int i => .ok (.int (-i)) m1
    | _ => .no
def intD (x : D) (m1 : Mem) : Res (Option Int) := match x with
    | .int i => .ok (Option.some i) m1
    | _ => .no
def unpS (o : Option Sto) (m1 : Mem) : SR := match o with
    | some σ' => .nx σ' m1
    | none => .no
def fldD (fl : Nat → List Nat) (x : D) (f : Nat) (m1 : Mem) : Res D := match x with
    | .ins c ds => (match (fl c).findIdx? (· == f) with
      | some k => opt m1 ds[k]?
      | none => .no)
    | .ref n => (match m1[n]? with
      | some (.obj _ fs) => opt m1 (fs.lookup f)
      | _ => .no)
    | _ => .no
def methD (C : Ctx) (x : D) (i : Nat) (m1 : Mem) (f : D → Nat → Res D) : Res D := match x with
    | .ins c ds => (match C.mt c i with
      | some g => f (.ins c ds) g
      | none => .no)
    | .ref k => (match m1[k]? with
      | some (.obj c _) => (match C.mt c i with
        | some g => f (.ref k) g
        | none => .no)
      | _ => .no)
    | _ => .no
def bmD (b : Bm) (x : D) (m1 : Mem) (r : Res (List D)) : Res D := match bk m1 x with
    | some k => if bmK b k then r.bind fun ds m2 => if bk m2 x = some k then bm b x ds m2 else .no else .no
    | none => .no
def isiD (C : Ctx) (ts : List Ty) (x : D) (m1 : Mem) : Res D := match tagOf m1 x with
    | some g => .ok (.bl (ts.any fun t => tagIs C.sub C.vale g t)) m1
    | none => .no
def seqD (x : D) (m1 : Mem) : Res (List D × Guard) := match seqOf m1 x with
    | some p => .ok p m1
    | none => .no
def rngD (x y : D) (m2 : Mem) : Res (List D × Guard) := match x, y with
    | .int i, .int j => if rngOk i j then .ok (rngL i j, []) m2 else .no
    | _, _ => .no
section
variable {C : Ctx} {σ : Sto} {m : Mem} {a b c e : E} {l : Es} {P : Prog} {c1 c2 : Nat → List D → Mem → Res D}
@[simp] theorem ev_cst {d : D} : evalE C (.cst d) σ m = .ok d m := by simp only [evalE]
@[simp] theorem ev_var {i : Nat} : evalE C (.var i) σ m = varD σ[i]? m := by simp only [evalE]; rfl
@[simp] theorem varD_s {d : D} : varD (some (some d)) m = .ok d m := id rfl
@[simp] theorem ev_op {o : O2} : evalE C (.op o a b) σ m = (evalE C a σ m).bind fun x m1 => (evalE C b σ m1).bind fun y m2 => opx o x y m2 := by simp only [evalE, opx_eq]
@[simp] theorem ev_cmp {o : Cm} : evalE C (.cmp o a b) σ m = (evalE C a σ m).bind fun x m1 => (evalE C b σ m1).bind fun y m2 => ofO m2 (cmp2 o x y m2) := by simp only [evalE]
@[simp] theorem ev_not : evalE C (.not a) σ m = (evalE C a σ m).bind fun x m1 => notD x m1 := by simp only [evalE]; rfl
@[simp] theorem ev_and : evalE C (.and a b) σ m = (evalE C a σ m).bind fun x m1 => iteD x (evalE C b σ m1) (.ok (.bl false) m1) := by simp only [evalE]; rfl
@[simp] theorem ev_or : evalE C (.or a b) σ m = (evalE C a σ m).bind fun x m1 => iteD x (.ok (.bl true) m1) (evalE C b σ m1) := by simp only [evalE]; rfl
@[simp] theorem ev_ife : evalE C (.ife c a b) σ m = (evalE C c σ m).bind fun x m1 => iteD x (evalE C a σ m1) (evalE C b σ m1) := by simp only [evalE]; rfl
@[simp] theorem ev_tup : evalE C (.tup l) σ m = (evalEs C l σ m).bind fun ds m1 => if ds.length ≤ LIM then .ok (.tup ds) m1 else .no := by simp only [evalE]
@[simp] theorem ev_lst : evalE C (.lst l) σ m = (evalEs C l σ m).bind fun ds m1 => if ds.length ≤ LIM then .ok (.ref m1.length) (m1 ++ [.lst ds]) else .no := by simp only [evalE]
@[simp] theorem ev_dct0 {t : Bool} : evalE C (.dct0 t) σ m = .ok (.ref m.length) (m ++ [.dct t false []]) := by simp only [evalE]
@[simp] theorem ev_idx : evalE C (.idx a b) σ m = (evalE C a σ m).bind fun x m1 => (evalE C b σ m1).bind fun y m2 => index x y m2 := by simp only [evalE]
@[simp] theorem ev_slc {lo hi : Oe} : evalE C (.slc a lo hi) σ m = (evalE C a σ m).bind fun x m1 => (evalO C lo σ m1).bind fun l m2 => (evalO C hi σ m2).bind fun h m3 => slice x l h m3 := by simp only [evalE]
@[simp] theorem ev_fld {f : Nat} : evalE C (.fld a f) σ m = (evalE C a σ m).bind fun x m1 => fldD C.flds x f m1 := by simp only [evalE]; rfl
@[simp] theorem ev_call {f : Nat} : evalE C (.call f l) σ m = (evalEs C l σ m).bind fun ds m1 => C.call f ds m1 := by simp only [evalE]
@[simp] theorem ev_make {f : Nat} : evalE C (.make f l) σ m = (evalEs C l σ m).bind fun ds m1 => C.make f ds m1 := by simp only [evalE]
@[simp] theorem ev_meth {k : Nat} : evalE C (.meth a k l) σ m = (evalE C a σ m).bind fun x m1 => methD C x k m1 (fun x g => (evalEs C l σ m1).bind fun ds m2 => C.call g (x :: ds) m2) := by
  simp only [evalE]
  congr 1
  funext x m1
  cases x <;> rfl
@[simp] theorem ev_bi {k : Bi} : evalE C (.bi k l) σ m = (evalEs C l σ m).bind fun ds m1 => bi k ds m1 := by simp only [evalE]
@[simp] theorem ev_bm {k : Bm} : evalE C (.bm a k l) σ m = (evalE C a σ m).bind fun x m1 => bmD k x m1 (evalEs C l σ m1) := by simp only [evalE]; rfl
@[simp] theorem ev_isi {ts : List Ty} : evalE C (.isi a ts) σ m = (evalE C a σ m).bind fun x m1 => isiD C ts x m1 := by simp only [evalE]; rfl
@[simp] theorem ev_es0 : evalEs C .nil σ m = .ok [] m := by simp only [evalEs]
@[simp] theorem ev_es1 : evalEs C (.cons a l) σ m = (evalE C a σ m).bind fun x m1 => (evalEs C l σ m1).bind fun ds m2 => .ok (x :: ds) m2 := by simp only [evalEs]
@[simp] theorem ev_o0 : evalO C .none σ m = .ok Option.none m := by simp only [evalO]
@[simp] theorem ev_o1 : evalO C (.some a) σ m = (evalE C a σ m).bind fun x m1 => intD x m1 := by simp only [evalO]; rfl
@[simp] theorem ev_c0 : evalC C .none σ m = .ok (.bl true) m := by simp only [evalC]
@[simp] theorem ev_c1 : evalC C (.some a) σ m = evalE C a σ m := by simp only [evalC]
@[simp] theorem ev_lc {own : List Nat} {it : It} {tg : Tg} {o : Oe} : evalE C (.lc own it tg o e) σ m = (evalI C it σ m).bind fun p m1 => lcLoop p.2 m1.length tg (evalC C o) (evalE C e) (wipeD σ own) p.1 (m1 ++ [.lst []]) := by simp only [evalE]
@[simp] theorem ev_seq : evalI C (.seq a) σ m = (evalE C a σ m).bind fun x m1 => seqD x m1 := by simp only [evalI]; rfl
@[simp] theorem ev_rng : evalI C (.rng a b) σ m = (evalE C a σ m).bind fun x m1 => (evalE C b σ m1).bind fun y m2 => rngD x y m2 := by simp only [evalI]; rfl
@[simp] theorem ev_chn {o o' : Cm} : evalE C (.chn o o' a b c) σ m = (evalE C a σ m).bind fun x m1 => (evalE C b σ m1).bind fun y m2 => optD (cmp2 o x y m2) ((evalE C c σ m2).bind fun z m3 => ofO m3 (cmp2 o' y z m3)) (.ok (.bl false) m2) := by simp only [evalE]; rfl
@[simp] theorem ev_neg : evalE C (.neg a) σ m = (evalE C a σ m).bind fun x m1 => negD x m1 := by simp only [evalE]; rfl
@[simp] theorem ex_set {i : Nat} : execS C (.set i a) σ m = (evalE C a σ m).toS σ fun d m1 => .nx (σ.set i (some d)) m1 := by simp only [execS]
@[simp] theorem ex_ex : execS C (.ex a) σ m = (evalE C a σ m).toS σ fun _ m1 => .nx σ m1 := by simp only [execS]
@[simp] theorem ex_ret : execS C (.ret a) σ m = (evalE C a σ m).toS σ fun d m1 => .rt d m1 := by simp only [execS]
@[simp] theorem ex_retN : execS C .retN σ m = .rt .non m := by simp only [execS]
@[simp] theorem ex_ifs {p q : Ss} : execS C (.ifs c p q) σ m = (evalE C c σ m).toS σ fun d m1 => iteS d (execSs C p σ m1) (execSs C q σ m1) := by simp only [execS]; rfl
@[simp] theorem ex_whl {p : Ss} : execS C (.whl c p) σ m = whLoop (evalE C c) (execSs C p) C.fuel σ m := by simp only [execS]
@[simp] theorem ex_frs {tg : Tg} {it : It} {p : Ss} : execS C (.frs tg it p) σ m = (evalI C it σ m).toS σ fun q m1 => frLoop q.2 tg (execSs C p) q.1 σ m1 := by simp only [execS]
@[simp] theorem ex_brk : execS C .brk σ m = .bk σ m := by simp only [execS]
@[simp] theorem ex_cnt : execS C .cnt σ m = .ct σ m := by simp only [execS]
@[simp] theorem ex_pss : execS C .pss σ m = .nx σ m := by simp only [execS]
@[simp] theorem ex_unp {t : Tg} : execS C (.unp t a) σ m = (evalE C a σ m).toS σ fun d m1 => unpS (bindT m1 t d σ) m1 := by simp only [execS]; rfl
@[simp] theorem ex_nil : execSs C .nil σ m = .nx σ m := by simp only [execSs]
@[simp] theorem ex_cons {s : S} {r : Ss} : execSs C (.cons s r) σ m = (execS C s σ m).seq fun σ' m' => execSs C r σ' m' := by simp only [execSs]
@[simp] theorem bind_ok {α β : Type} {x : α} {f : α → Mem → Res β} : Res.bind (.ok x m) f = f x m := id rfl
@[simp] theorem bind_ex {α β : Type} {k : Nat} {f : α → Mem → Res β} : Res.bind (.ex k m) f = .ex k m := id rfl
@[simp] theorem bind_no {α β : Type} {f : α → Mem → Res β} : Res.bind (.no) f = .no := id rfl
@[simp] theorem toS_ok {α : Type} {x : α} {f : α → Mem → SR} : Res.toS σ (.ok x m) f = f x m := id rfl
@[simp] theorem toS_ex {α : Type} {k : Nat} {f : α → Mem → SR} : Res.toS σ (.ex k m) f = .ex k σ m := id rfl
@[simp] theorem seq_nx {f : Sto → Mem → SR} : SR.seq (.nx σ m) f = f σ m := id rfl
@[simp] theorem seq_rt {d : D} {f : Sto → Mem → SR} : SR.seq (.rt d m) f = .rt d m := id rfl
@[simp] theorem seq_bk {f : Sto → Mem → SR} : SR.seq (.bk σ m) f = .bk σ m := id rfl
@[simp] theorem seq_ct {f : Sto → Mem → SR} : SR.seq (.ct σ m) f = .ct σ m := id rfl
@[simp] theorem seq_ex {k : Nat} {f : Sto → Mem → SR} : SR.seq (.ex k σ m) f = .ex k σ m := id rfl
@[simp] theorem fin_rt {d : D} : fin (.rt d m) = .ok d m := id rfl
@[simp] theorem fin_nx : fin (.nx σ m) = .ok .non m := id rfl
@[simp] theorem fin_ex {k : Nat} : fin (.ex k σ m) = .ex k m := id rfl
@[simp] theorem calm_ok' {α : Type} {x : α} : Res.calm (.ok x m) = .ok x m := id rfl
@[simp] theorem ctx_call : (ctx P c1 c2).call = c1 := id rfl
@[simp] theorem ctx_make : (ctx P c1 c2).make = mk P c2 := id rfl
@[simp] theorem ctx_mt : (ctx P c1 c2).mt = P.mt := id rfl
@[simp] theorem ctx_flds : (ctx P c1 c2).flds = P.flds := id rfl
@[simp] theorem ctx_sub : (ctx P c1 c2).sub = P.sub := id rfl
@[simp] theorem ctx_fuel : (ctx P c1 c2).fuel = P.fuel := id rfl
@[simp] theorem ofO_some {k : Bool} : ofO m (some k) = .ok (.bl k) m := id rfl
@[simp] theorem opt_some {d : D} : opt m (some d) = .ok d m := id rfl
@[simp] theorem iteD_t {x y : Res D} : iteD (.bl true) x y = x := id rfl
@[simp] theorem iteD_f {x y : Res D} : iteD (.bl false) x y = y := id rfl
@[simp] theorem iteS_t {x y : SR} : iteS (.bl true) x y = x := id rfl
@[simp] theorem iteS_f {x y : SR} : iteS (.bl false) x y = y := id rfl
@[simp] theorem iteD_b {k : Bool} {x y : Res D} : iteD (.bl k) x y = if k then x else y := by cases k <;> rfl
@[simp] theorem iteS_b {k : Bool} {x y : SR} : iteS (.bl k) x y = if k then x else y := by cases k <;> rfl
@[simp] theorem notD_b {k : Bool} : notD (.bl k) m = .ok (.bl (!k)) m := id rfl
@[simp] theorem optD_t {x y : Res D} : optD (some true) x y = x := id rfl
@[simp] theorem optD_f {x y : Res D} : optD (some false) x y = y := id rfl
@[simp] theorem negD_i {i : Int} : negD (.int i) m = .ok (.int (-i)) m := id rfl
@[simp] theorem intD_i {i : Int} : intD (.int i) m = .ok (some i) m := id rfl
@[simp] theorem unpS_some : unpS (some σ) m = .nx σ m := id rfl
def fIx : List Nat → Nat → Option Nat
  | [], _ => none
  | a :: l, f => if a = f then some 0 else (fIx l f).map (· + 1)
@[simp] theorem fIx_n {f : Nat} : fIx [] f = none := id rfl
@[simp] theorem fIx_c {f a : Nat} {l : List Nat} : fIx (a :: l) f = if a = f then some 0 else (fIx l f).map (· + 1) := id rfl
theorem fIx_eq (f : Nat) : ∀ l : List Nat, l.findIdx? (· == f) = fIx l f
  | [] => rfl
  | a :: l => by
    rw [List.findIdx?_cons, fIx_eq f l, fIx_c]
    by_cases h : a = f <;> simp [h]
def atO (m : Mem) (ds : List D) : Option Nat → Res D
  | some j => opt m ds[j]?
  | none => .no
@[simp] theorem atO_s {ds : List D} {j : Nat} : atO m ds (some j) = opt m ds[j]? := id rfl
@[simp] theorem fldD_ins {fl : Nat → List Nat} {k f : Nat} {ds : List D} : fldD fl (.ins k ds) f m = atO m ds (fIx (fl k) f) := by
  show (match (fl k).findIdx? (· == f) with | some j => opt m ds[j]? | none => .no) = _
  rw [fIx_eq]
  cases fIx (fl k) f <;> rfl
@[simp] theorem methD_ins {k i : Nat} {ds : List D} {f : D → Nat → Res D} : methD C (.ins k ds) i m f = (match C.mt k i with | some g => f (.ins k ds) g | none => .no) := id rfl
@[simp] theorem seqD_tup {ds : List D} : seqD (.tup ds) m = .ok (ds, []) m := id rfl
@[simp] theorem seqD_rol {ds : List D} : seqD (.rol ds) m = .ok (ds, []) m := id rfl
@[simp] theorem seqD_str {s : List Nat} : seqD (.str s) m = .ok (s.map fun c => .str [c], []) m := id rfl
@[simp] theorem rngD_i {i j : Int} : rngD (.int i) (.int j) m = if rngOk i j then .ok (rngL i j, []) m else .no := id rfl
@[simp] theorem bmD_s {k : Bm} {s : List Nat} {r : Res (List D)} : bmD k (.str s) m r = if bmK k .s then r.bind fun ds m2 => bm k (.str s) ds m2 else .no := by unfold bmD; simp [bk]
@[simp] theorem op_add {i j : Int} : opx .add (.int i) (.int j) m = .ok (.int (i + j)) m := by rw [opx_eq]; rfl
@[simp] theorem op_sub {i j : Int} : opx .sub (.int i) (.int j) m = .ok (.int (i - j)) m := by rw [opx_eq]; rfl
@[simp] theorem op_mod {i j : Int} (h : 0 < j) : opx .mod (.int i) (.int j) m = .ok (.int (i % j)) m := by simp only [opx_eq, op2, h, if_true]
@[simp] theorem op_fdiv {i j : Int} (h : 0 < j) (h2 : j < 1073741824) : opx .fdiv (.int i) (.int j) m = .ok (.int (i / j)) m := by simp only [opx_eq, op2, h, h2, and_self, if_true]
@[simp] theorem op_adds {s t : List Nat} (h : s.length + t.length ≤ LIM) : opx .add (.str s) (.str t) m = .ok (.str (s ++ t)) m := by simp only [opx_eq, op2, h, if_true]
@[simp] theorem cm_eqI {i j : Int} : cmp2 .eq (.int i) (.int j) m = some (decide (i = j)) := by simp only [cmp2, eqD, scal, if_true, D.beq]; rw [Bool.beq_eq_decide_eq]
@[simp] theorem cm_neI {i j : Int} : cmp2 .ne (.int i) (.int j) m = some (!decide (i = j)) := by simp only [cmp2, eqD, scal, if_true, D.beq]; rw [Bool.beq_eq_decide_eq]; rfl
@[simp] theorem cm_ltI {i j : Int} : cmp2 .lt (.int i) (.int j) m = some (decide (i < j)) := id rfl
@[simp] theorem cm_leI {i j : Int} : cmp2 .le (.int i) (.int j) m = some (decide (i ≤ j)) := id rfl
@[simp] theorem cm_gtI {i j : Int} : cmp2 .gt (.int i) (.int j) m = some (decide (j < i)) := id rfl
@[simp] theorem cm_geI {i j : Int} : cmp2 .ge (.int i) (.int j) m = some (decide (j ≤ i)) := id rfl
@[simp] theorem cm_eqS {s t : List Nat} : cmp2 .eq (.str s) (.str t) m = some (decide (s = t)) := by simp only [cmp2, eqD, scal, if_true, D.beq]; rw [Bool.beq_eq_decide_eq]
@[simp] theorem cm_neS {s t : List Nat} : cmp2 .ne (.str s) (.str t) m = some (!decide (s = t)) := by simp only [cmp2, eqD, scal, if_true, D.beq]; rw [Bool.beq_eq_decide_eq]; rfl
@[simp] theorem cm_isB {k j : Bool} : cmp2 .is (.bl k) (.bl j) m = some (decide (k = j)) := id rfl
@[simp] theorem cm_isnB {k j : Bool} : cmp2 .isn (.bl k) (.bl j) m = some (!decide (k = j)) := id rfl
@[simp] theorem cm_isN {d : D} : cmp2 .is d .non m = some (decide (d = .non)) := by cases d <;> rfl
@[simp] theorem cm_isnN {d : D} : cmp2 .isn d .non m = some (!decide (d = .non)) := by cases d <;> rfl
@[simp] theorem bi_int {i : Int} : bi .int [.int i] m = .ok (.int i) m := id rfl
@[simp] theorem bi_intB {k : Bool} : bi .int [.bl k] m = .ok (.int (if k then 1 else 0)) m := id rfl
@[simp] theorem isi_d {ts : List Ty} {d : D} : isiD C ts d m = (match tagOf m d with | some g => .ok (.bl (ts.any fun t => tagIs C.sub C.vale g t)) m | none => .no) := id rfl
@[simp] theorem bT_nm {i : Nat} {d : D} : bindT m (.nm i) d σ = some (σ.set i (some d)) := by simp only [bindT]
@[simp] theorem bT_tp {l : List Tg} {ds : List D} : bindT m (.tp l) (.tup ds) σ = bindTs m l ds σ := by simp only [bindT]
@[simp] theorem bT_n : bindTs m [] [] σ = some σ := by simp only [bindTs]
@[simp] theorem bT_c {t : Tg} {l : List Tg} {d : D} {ds : List D} : bindTs m (t :: l) (d :: ds) σ = (bindT m t d σ).bind fun σ' => bindTs m l ds σ' := by simp only [bindTs]
@[simp] theorem wipe0 : wipeD σ [] = σ := id rfl
@[simp] theorem wipe1 {i : Nat} {r : List Nat} : wipeD σ (i :: r) = (wipeD σ r).set i none := id rfl
@[simp] theorem bi_sum {n : Nat} : bi .sum [.ref n] m = opt m (((rdL m n).bind allI).map fun ns => .int ns.sum) := id rfl
@[simp] theorem bi_all {n : Nat} : bi .all [.ref n] m = opt m (((rdL m n).bind allB).map fun bs => .bl (bs.all id)) := id rfl
@[simp] theorem bi_any {n : Nat} : bi .any [.ref n] m = opt m (((rdL m n).bind allB).map fun bs => .bl (bs.any id)) := id rfl
@[simp] theorem bi_min1 {n : Nat} : bi .min1 [.ref n] m = opt m ((((rdL m n).bind allI).bind minI).map .int) := id rfl
@[simp] theorem bi_max1 {n : Nat} : bi .max1 [.ref n] m = opt m ((((rdL m n).bind allI).bind maxI).map .int) := id rfl
@[simp] theorem bi_len {d : D} : bi .len [d] m = opt m ((lenD m d).map fun (k : Nat) => D.int (k : Int)) := id rfl
@[simp] theorem allI_map {α : Type} (f : α → Int) : ∀ l : List α, allI (l.map fun a => .int (f a)) = some (l.map f)
  | [] => rfl
  | i :: l => by simp only [List.map_cons, allI, allI_map f l]; rfl
@[simp] theorem allB_map {α : Type} (f : α → Bool) : ∀ l : List α, allB (l.map fun a => .bl (f a)) = some (l.map f)
  | [] => rfl
  | i :: l => by simp only [List.map_cons, allB, allB_map f l]; rfl
@[simp] theorem lenD_rol {l : List D} : lenD m (.rol l) = some l.length := id rfl
@[simp] theorem lenD_tup {l : List D} : lenD m (.tup l) = some l.length := id rfl
@[simp] theorem lenD_str {l : List Nat} (h : l.length ≤ LIM) : lenD m (.str l) = some l.length := by simp only [lenD, h, if_true]
@[simp] theorem le_lim {n : Nat} (h : n ≤ 16777216) : (n ≤ LIM) = True := eq_true h
@[simp] theorem lt_lim {n : Nat} (h : n < 16777216) : (n < LIM) = True := eq_true h
def lstO : Option MO → Option (List D)
  | some (.lst l) => some l
  | _ => none
@[simp] theorem lstO_l {l : List D} : lstO (some (.lst l)) = some l := id rfl
@[simp] theorem rdL_O {n : Nat} : rdL m n = lstO m[n]? := id rfl
def addD (o o' : Option (List D)) (m : Mem) : Res D := match o, o' with
  | some a, some b => if a.length + b.length ≤ LIM then .ok (.ref m.length) (m ++ [.lst (a ++ b)]) else .no
  | _, _ => .no
@[simp] theorem addD_s {a b : List D} : addD (some a) (some b) m = if a.length + b.length ≤ LIM then .ok (.ref m.length) (m ++ [.lst (a ++ b)]) else .no := id rfl
@[simp] theorem op_addL {p q : Nat} : opx .add (.ref p) (.ref q) m = addD (rdL m p) (rdL m q) m := by rw [opx_eq]; rfl
def kindO : Option MO → Option Bk
  | some (.lst _) => some .l
  | some (.dct _ _ _) => some .d
  | _ => none
@[simp] theorem kindO_l {l : List D} : kindO (some (.lst l)) = some .l := id rfl
@[simp] theorem kindO_d {t z : Bool} {l : List (D × D)} : kindO (some (.dct t z l)) = some .d := id rfl
def bmO (b : Bm) (n : Nat) (o : Option Bk) (r : Res (List D)) : Res D := match o with
  | some k => if bmK b k then r.bind fun ds m2 => if kindO m2[n]? = some k then bm b (.ref n) ds m2 else .no else .no
  | none => .no
@[simp] theorem bmO_s {b : Bm} {n : Nat} {k : Bk} {r : Res (List D)} : bmO b n (some k) r = if bmK b k then r.bind fun ds m2 => if kindO m2[n]? = some k then bm b (.ref n) ds m2 else .no else .no := id rfl
theorem bk_O {n : Nat} : bk m (.ref n) = kindO m[n]? := by
  show (match m[n]? with | some (.lst _) => some Bk.l | some (.dct _ _ _) => some Bk.d | _ => none) = _
  cases h : m[n]? with
  | none => rfl
  | some o => cases o <;> rfl
@[simp] theorem bmD_ref {b : Bm} {n : Nat} {r : Res (List D)} : bmD b (.ref n) m r = bmO b n (kindO m[n]?) r := by
  unfold bmD bmO
  simp only [bk_O]
@[simp] theorem bmK_al : bmK .append .l = true := id rfl
@[simp] theorem bmK_pl : bmK .pop .l = true := id rfl
@[simp] theorem bmK_qd : bmK .pop1 .d = true := id rfl
@[simp] theorem bmK_ql : bmK .pop1 .l = true := id rfl
@[simp] theorem bmK_cl : bmK .clear .l = true := id rfl
@[simp] theorem bmK_il : bmK .index .l = true := id rfl
@[simp] theorem bmK_is : bmK .index .s = true := id rfl
@[simp] theorem bmK_fs : bmK .find .s = true := id rfl
@[simp] theorem bmK_ss : bmK .split .s = true := id rfl
@[simp] theorem bmK_ps : bmK .partition .s = true := id rfl
@[simp] theorem bmK_js : bmK .join .s = true := id rfl
@[simp] theorem bmK_ts : bmK .startswith .s = true := id rfl
@[simp] theorem bmK_gd : bmK .get .d = true := id rfl
def appM (n : Nat) (e : D) (o : Option (List D)) (m : Mem) : Res D := match o with
  | some l => if l.length < LIM then .ok .non (m.set n (.lst (l ++ [e]))) else .no
  | none => .no
@[simp] theorem appM_s {n : Nat} {d : D} {l : List D} : appM n d (some l) m = if l.length < LIM then .ok .non (m.set n (.lst (l ++ [d]))) else .no := id rfl
@[simp] theorem bm_app {n : Nat} {d : D} : bm .append (.ref n) [d] m = appM n d (lstO m[n]?) m := by
  show (match m[n]? with | some (.lst ds) => _ | _ => Res.no) = _
  cases h : m[n]? with
  | none => rfl
  | some o => cases o <;> rfl
def popM (n : Nat) (o : Option (List D)) (m : Mem) : Res D := match o with
  | some l => (match l.getLast? with
    | some e => .ok e (m.set n (.lst l.dropLast))
    | none => .no)
  | none => .no
@[simp] theorem popM_s {n : Nat} {l : List D} : popM n (some l) m = (match l.getLast? with | some e => .ok e (m.set n (.lst l.dropLast)) | none => .no) := id rfl
@[simp] theorem bm_pop {n : Nat} : bm .pop (.ref n) [] m = popM n (lstO m[n]?) m := by
  show (match m[n]? with | some (.lst ds) => _ | _ => Res.no) = _
  cases h : m[n]? with
  | none => rfl
  | some o => cases o <;> rfl
@[simp] theorem bm_find {s t : List Nat} : bm .find (.str s) [.str t] m = .ok (.int (findS t s)) m := id rfl
def lenO : Option MO → Option Nat
  | some (.lst l) => some l.length
  | some (.dct false false l) => some l.length
  | some (.dct true false l) => some l.length
  | _ => none
@[simp] theorem lenO_l {l : List D} : lenO (some (.lst l)) = some l.length := id rfl
@[simp] theorem lenD_ref {n : Nat} : lenD m (.ref n) = lenO m[n]? := by
  show (match m[n]? with | some (.lst ds) => some ds.length | some (.dct false false kvs) => some kvs.length | some (.dct true false kvs) => some kvs.length | _ => none) = _
  cases h : m[n]? with
  | none => rfl
  | some o => cases o <;> first | rfl | (rename_i t z l; cases t <;> cases z <;> rfl)
@[simp] theorem cm_eqB {i j : Bool} : cmp2 .eq (.bl i) (.bl j) m = some (decide (i = j)) := by cases i <;> cases j <;> rfl
@[simp] theorem cm_neB {i j : Bool} : cmp2 .ne (.bl i) (.bl j) m = some (!decide (i = j)) := by cases i <;> cases j <;> rfl
@[simp] theorem gOk_n : gOk [] m = true := id rfl
def ixO (k : D) (m : Mem) : Option MO → Res D
  | some (.lst ds) => (match k with
    | .int i => opt m (atI ds i)
    | _ => .no)
  | some (.dct t _ kvs) => if keyOk t k then opt m (dGet kvs k) else .no
  | _ => .no
@[simp] theorem ix_ref {n : Nat} {k : D} : index (.ref n) k m = ixO k m m[n]? := by
  show (match m[n]? with | some (.lst ds) => _ | some (.dct t _ kvs) => _ | _ => Res.no) = _
  cases h : m[n]? with
  | none => rfl
  | some o => cases o <;> rfl
@[simp] theorem ixO_l {ds : List D} {i : Int} : ixO (.int i) m (some (.lst ds)) = opt m (atI ds i) := id rfl
@[simp] theorem ix_tup {ds : List D} {i : Int} : index (.tup ds) (.int i) m = opt m (atI ds i) := id rfl
@[simp] theorem ix_rol {ds : List D} {i : Int} : index (.rol ds) (.int i) m = opt m (atI ds i) := id rfl
@[simp] theorem ix_str {s : List Nat} {i : Int} (h : s.length ≤ LIM) : index (.str s) (.int i) m = opt m ((atI s i).map fun c => .str [c]) := by simp only [index, h, if_true]
@[simp] theorem atI_nat {α : Type} {l : List α} {k : Nat} : atI l (k : Int) = l[k]? := by
  unfold atI ixN
  by_cases h : k < l.length
  · rw [if_pos (Int.natCast_nonneg k), if_pos (by omega)]; simp
  · rw [if_pos (Int.natCast_nonneg k), if_neg (by omega), List.getElem?_eq_none (by omega)]; rfl
@[simp] theorem atI_0 {α : Type} {a : α} {l : List α} : atI (a :: l) 0 = some a := by
  have := atI_nat (l := a :: l) (k := 0); simpa using this
@[simp] theorem atI_1 {α : Type} {a b : α} {l : List α} : atI (a :: b :: l) 1 = some b := by
  have := atI_nat (l := a :: b :: l) (k := 1); simpa using this
@[simp] theorem atI_2 {α : Type} {a b c : α} {l : List α} : atI (a :: b :: c :: l) 2 = some c := by
  have := atI_nat (l := a :: b :: c :: l) (k := 2); simpa using this
@[simp] theorem atI_3 {α : Type} {a b c d : α} {l : List α} : atI (a :: b :: c :: d :: l) 3 = some d := by
  have := atI_nat (l := a :: b :: c :: d :: l) (k := 3); simpa using this
@[simp] theorem atI_lit {α : Type} {l : List α} {k : Nat} : atI l (OfNat.ofNat k) = l[k]? := atI_nat
@[simp] theorem tag_non : tagOf m .non = some .non := id rfl
@[simp] theorem tag_bool {b : Bool} : tagOf m (.bl b) = some .bool := id rfl
@[simp] theorem tag_int {i : Int} : tagOf m (.int i) = some .int := id rfl
@[simp] theorem tag_str {s : List Nat} : tagOf m (.str s) = some .str := id rfl
@[simp] theorem tag_tuple {l : List D} : tagOf m (.tup l) = some .tuple := id rfl
@[simp] theorem tag_list {l : List D} : tagOf m (.rol l) = some .list := id rfl
@[simp] theorem tag_ins {k : Nat} {l : List D} : tagOf m (.ins k l) = some (.own k) := id rfl
@[simp] theorem ti_own_cls {sb : Nat → Nat → Bool} {va : Nat → Bool} {k j : Nat} : tagIs sb va (.own k) (.cls j) = sb k j := id rfl
@[simp] theorem ti_own_int {sb : Nat → Nat → Bool} {va : Nat → Bool} {k : Nat} : tagIs sb va (.own k) .int = false := id rfl
@[simp] theorem ti_own_bool {sb : Nat → Nat → Bool} {va : Nat → Bool} {k : Nat} : tagIs sb va (.own k) .bool = false := id rfl
@[simp] theorem ti_own_str {sb : Nat → Nat → Bool} {va : Nat → Bool} {k : Nat} : tagIs sb va (.own k) .str = false := id rfl
@[simp] theorem ti_own_list {sb : Nat → Nat → Bool} {va : Nat → Bool} {k : Nat} : tagIs sb va (.own k) .list = false := id rfl
@[simp] theorem ti_own_tuple {sb : Nat → Nat → Bool} {va : Nat → Bool} {k : Nat} : tagIs sb va (.own k) .tuple = false := id rfl
@[simp] theorem ti_int_cls {sb : Nat → Nat → Bool} {va : Nat → Bool} {j : Nat} : tagIs sb va .int (.cls j) = false := id rfl
@[simp] theorem ti_int_int {sb : Nat → Nat → Bool} {va : Nat → Bool} : tagIs sb va .int .int = true := id rfl
@[simp] theorem ti_int_bool {sb : Nat → Nat → Bool} {va : Nat → Bool} : tagIs sb va .int .bool = false := id rfl
@[simp] theorem ti_int_str {sb : Nat → Nat → Bool} {va : Nat → Bool} : tagIs sb va .int .str = false := id rfl
@[simp] theorem ti_int_list {sb : Nat → Nat → Bool} {va : Nat → Bool} : tagIs sb va .int .list = false := id rfl
@[simp] theorem ti_int_tuple {sb : Nat → Nat → Bool} {va : Nat → Bool} : tagIs sb va .int .tuple = false := id rfl
@[simp] theorem ti_bool_cls {sb : Nat → Nat → Bool} {va : Nat → Bool} {j : Nat} : tagIs sb va .bool (.cls j) = false := id rfl
@[simp] theorem ti_bool_int {sb : Nat → Nat → Bool} {va : Nat → Bool} : tagIs sb va .bool .int = true := id rfl
@[simp] theorem ti_bool_bool {sb : Nat → Nat → Bool} {va : Nat → Bool} : tagIs sb va .bool .bool = true := id rfl
@[simp] theorem ti_bool_str {sb : Nat → Nat → Bool} {va : Nat → Bool} : tagIs sb va .bool .str = false := id rfl
@[simp] theorem ti_bool_list {sb : Nat → Nat → Bool} {va : Nat → Bool} : tagIs sb va .bool .list = false := id rfl
@[simp] theorem ti_bool_tuple {sb : Nat → Nat → Bool} {va : Nat → Bool} : tagIs sb va .bool .tuple = false := id rfl
@[simp] theorem ti_str_cls {sb : Nat → Nat → Bool} {va : Nat → Bool} {j : Nat} : tagIs sb va .str (.cls j) = false := id rfl
@[simp] theorem ti_str_int {sb : Nat → Nat → Bool} {va : Nat → Bool} : tagIs sb va .str .int = false := id rfl
@[simp] theorem ti_str_bool {sb : Nat → Nat → Bool} {va : Nat → Bool} : tagIs sb va .str .bool = false := id rfl
@[simp] theorem ti_str_str {sb : Nat → Nat → Bool} {va : Nat → Bool} : tagIs sb va .str .str = true := id rfl
@[simp] theorem ti_str_list {sb : Nat → Nat → Bool} {va : Nat → Bool} : tagIs sb va .str .list = false := id rfl
@[simp] theorem ti_str_tuple {sb : Nat → Nat → Bool} {va : Nat → Bool} : tagIs sb va .str .tuple = false := id rfl
@[simp] theorem ti_non_cls {sb : Nat → Nat → Bool} {va : Nat → Bool} {j : Nat} : tagIs sb va .non (.cls j) = false := id rfl
@[simp] theorem ti_non_int {sb : Nat → Nat → Bool} {va : Nat → Bool} : tagIs sb va .non .int = false := id rfl
@[simp] theorem ti_non_bool {sb : Nat → Nat → Bool} {va : Nat → Bool} : tagIs sb va .non .bool = false := id rfl
@[simp] theorem ti_non_str {sb : Nat → Nat → Bool} {va : Nat → Bool} : tagIs sb va .non .str = false := id rfl
@[simp] theorem ti_non_list {sb : Nat → Nat → Bool} {va : Nat → Bool} : tagIs sb va .non .list = false := id rfl
@[simp] theorem ti_non_tuple {sb : Nat → Nat → Bool} {va : Nat → Bool} : tagIs sb va .non .tuple = false := id rfl
@[simp] theorem ti_tuple_cls {sb : Nat → Nat → Bool} {va : Nat → Bool} {j : Nat} : tagIs sb va .tuple (.cls j) = false := id rfl
@[simp] theorem ti_tuple_int {sb : Nat → Nat → Bool} {va : Nat → Bool} : tagIs sb va .tuple .int = false := id rfl
@[simp] theorem ti_tuple_bool {sb : Nat → Nat → Bool} {va : Nat → Bool} : tagIs sb va .tuple .bool = false := id rfl
@[simp] theorem ti_tuple_str {sb : Nat → Nat → Bool} {va : Nat → Bool} : tagIs sb va .tuple .str = false := id rfl
@[simp] theorem ti_tuple_list {sb : Nat → Nat → Bool} {va : Nat → Bool} : tagIs sb va .tuple .list = false := id rfl
@[simp] theorem ti_tuple_tuple {sb : Nat → Nat → Bool} {va : Nat → Bool} : tagIs sb va .tuple .tuple = true := id rfl
@[simp] theorem ti_list_cls {sb : Nat → Nat → Bool} {va : Nat → Bool} {j : Nat} : tagIs sb va .list (.cls j) = false := id rfl
@[simp] theorem ti_list_int {sb : Nat → Nat → Bool} {va : Nat → Bool} : tagIs sb va .list .int = false := id rfl
@[simp] theorem ti_list_bool {sb : Nat → Nat → Bool} {va : Nat → Bool} : tagIs sb va .list .bool = false := id rfl
@[simp] theorem ti_list_str {sb : Nat → Nat → Bool} {va : Nat → Bool} : tagIs sb va .list .str = false := id rfl
@[simp] theorem ti_list_list {sb : Nat → Nat → Bool} {va : Nat → Bool} : tagIs sb va .list .list = true := id rfl
@[simp] theorem ti_list_tuple {sb : Nat → Nat → Bool} {va : Nat → Bool} : tagIs sb va .list .tuple = false := id rfl
@[simp] theorem gOk_c {n : Nat} {o : MO} {g : Guard} : gOk ((n, o) :: g) m = (decide (m[n]? = some o) && gOk g m) := by simp [gOk]
def seqO (n : Nat) (o : Option MO) (m : Mem) : Res (List D × Guard) := match o with
  | some (.lst ds) => .ok (ds, [(n, .lst ds)]) m
  | _ => .no
@[simp] theorem seqO_l {n : Nat} {ds : List D} : seqO n (some (.lst ds)) m = .ok (ds, [(n, .lst ds)]) m := id rfl
@[simp] theorem seqD_ref {n : Nat} : seqD (.ref n) m = seqO n m[n]? m := by
  unfold seqD seqO
  simp only [seqOf]
  cases h : m[n]? with
  | none => rfl
  | some o => cases o <;> rfl
def loopK (r : SR) (k : Sto → Mem → SR) : SR := match r with
  | .nx σ m => k σ m
  | .ct σ m => k σ m
  | .bk σ m => .nx σ m
  | r => r
@[simp] theorem loopK_nx {k : Sto → Mem → SR} : loopK (.nx σ m) k = k σ m := id rfl
@[simp] theorem loopK_ct {k : Sto → Mem → SR} : loopK (.ct σ m) k = k σ m := id rfl
@[simp] theorem loopK_bk {k : Sto → Mem → SR} : loopK (.bk σ m) k = .nx σ m := id rfl
@[simp] theorem loopK_rt {d : D} {k : Sto → Mem → SR} : loopK (.rt d m) k = .rt d m := id rfl
@[simp] theorem loopK_ex {j : Nat} {k : Sto → Mem → SR} : loopK (.ex j σ m) k = .ex j σ m := id rfl
def bindK (o : Option Sto) (k : Sto → SR) : SR := match o with
  | some σ => k σ
  | none => .no
@[simp] theorem bindK_s {k : Sto → SR} : bindK (some σ) k = k σ := id rfl
theorem frLoop_c {g : Guard} {tg : Tg} {body : Sto → Mem → SR} {d : D} {ds : List D} : frLoop g tg body (d :: ds) σ m = if gOk g m then bindK (bindT m tg d σ) (fun σ' => loopK (body σ' m) (fun σ2 m2 => frLoop g tg body ds σ2 m2)) else .no := by
  simp only [frLoop]
  cases h : gOk g m with
  | false => simp
  | true =>
    simp only [if_true]
    cases bindT m tg d σ with
    | none => rfl
    | some σ' => simp only [bindK_s]; cases body σ' m <;> rfl
theorem frLoop_n {g : Guard} {tg : Tg} {body : Sto → Mem → SR} : frLoop g tg body [] σ m = if gOk g m then .nx σ m else .no := by simp only [frLoop]
def lcP (n : Nat) (v : D) (o : Option (List D)) (m : Mem) (k : Mem → Res D) : Res D := match o with
  | some acc => if acc.length < LIM then k (m.set n (.lst (acc ++ [v]))) else .no
  | none => .no
@[simp] theorem lcP_s {n : Nat} {v : D} {acc : List D} {k : Mem → Res D} : lcP n v (some acc) m k = if acc.length < LIM then k (m.set n (.lst (acc ++ [v]))) else .no := id rfl
def bindR (o : Option Sto) (k : Sto → Res D) : Res D := match o with
  | some σ => k σ
  | none => .no
@[simp] theorem bindR_s {k : Sto → Res D} : bindR (some σ) k = k σ := id rfl
theorem lcLoop_c {g : Guard} {n : Nat} {tg : Tg} {c e : Sto → Mem → Res D} {d : D} {ds : List D} : lcLoop g n tg c e σ (d :: ds) m = if gOk g m then bindR (bindT m tg d σ) (fun σ' => (c σ' m).calm.bind fun b m1 => iteD b ((e σ' m1).calm.bind fun v m2 => lcP n v (lstO m2[n]?) m2 (fun m3 => lcLoop g n tg c e σ ds m3)) (lcLoop g n tg c e σ ds m1)) else .no := by
  simp only [lcLoop]
  cases h : gOk g m with
  | false => simp
  | true =>
    simp only [if_true]
    cases bindT m tg d σ with
    | none => rfl
    | some σ' =>
      simp only [bindR_s]
      congr 1
      funext b m1
      cases b <;> first
        | rfl
        | skip
      rename_i kb
      cases kb
      · rfl
      · simp only [iteD_t]
        congr 1
        funext v m2
        cases m2[n]? with
        | none => rfl
        | some o => cases o <;> rfl
theorem lcLoop_n {g : Guard} {n : Nat} {tg : Tg} {c e : Sto → Mem → Res D} : lcLoop g n tg c e σ [] m = if gOk g m then .ok (.ref n) m else .no := by simp only [lcLoop]
end
end FS

namespace FS
theorem call_succ' (P : Prog) (n f : Nat) (ds : List D) (m : Mem) : call P (n + 1) f ds m = match P.fns f with
    | some F => runFn (ctx P (call P n) (call P (n - 1))) F ds m
    | none => .no := by
  cases n with
  | zero => rfl
  | succ n => rfl
/-- a def is entered -/
theorem call_fn {P : Prog} {f np nl : Nat} {b : Ss} (h : P.fns f = some (.fn np nl b)) (n : Nat) (ds : List D) (m : Mem) (hl : ds.length = np) : call P (n + 1) f ds m = fin (execSs (ctx P (call P n) (call P (n - 1))) b (start nl ds) m) := by
  rw [call_succ', h]
  simp only [runFn, hl, if_true]
theorem frLoop_inv {g : Guard} {tg : Tg} {body : Sto → Mem → SR} (Inv : Nat → Sto → Mem → Prop) : ∀ (ds : List D) (k : Nat) (σ : Sto) (m : Mem), Inv k σ m → (∀ i σ m, Inv i σ m → gOk g m = true) →
    (∀ i d σ m, ds[i]? = some d → Inv (k + i) σ m → ∃ σ1, bindT m tg d σ = some σ1 ∧ ∃ σ2 m2, body σ1 m = .nx σ2 m2 ∧ Inv (k + i + 1) σ2 m2) →
    ∃ σ' m', frLoop g tg body ds σ m = .nx σ' m' ∧ Inv (k + ds.length) σ' m'
  | [], k, σ, m, h, hg, _ => ⟨σ, m, by simp only [frLoop, hg k σ m h, if_true], h⟩
  | d :: ds, k, σ, m, h, hg, hs => by
    obtain ⟨σ1, h1, σ2, m2, h2, h3⟩ := hs 0 d σ m rfl h
    obtain ⟨σ', m', h4, h5⟩ := frLoop_inv Inv ds (k + 1) σ2 m2 h3 hg fun i d σ m hd hI => by
      have := hs (i + 1) d σ m (by simpa using hd) (by rwa [show k + (i + 1) = k + 1 + i by omega])
      rwa [show k + (i + 1) + 1 = k + 1 + i + 1 by omega] at this
    refine ⟨σ', m', ?_, by rw [List.length_cons, show k + (ds.length + 1) = k + 1 + ds.length by omega]; exact h5⟩
    simp only [frLoop, hg k σ m h, if_true, h1, h2]
    exact h4
theorem frLoop_nx {g : Guard} {tg : Tg} {body : Sto → Mem → SR} {d : D} {ds : List D} {σ σ1 σ2 : Sto} {m m2 : Mem} (hg : gOk g m = true) (h1 : bindT m tg d σ = some σ1) (h2 : body σ1 m = .nx σ2 m2) :
    frLoop g tg body (d :: ds) σ m = frLoop g tg body ds σ2 m2 := by
  simp only [frLoop, hg, if_true, h1, h2]
/-- a comprehension whose test and element change nothing that was there -/
theorem lcLoop_map {α : Type} {g : Guard} {n : Nat} {tg : Tg} {c e : Sto → Mem → Res D} {σ : Sto} (F : α → D) (p : α → Bool) (v : α → D) :
    ∀ (ds : List α) (m t : Mem) (acc : List D), m.length = n → (∀ m', gOk g (m ++ m') = true) →
    (∀ d ∈ ds, ∀ m', ∃ σ', bindT (m ++ m') tg (F d) σ = some σ' ∧ (∀ m', ∃ u, c σ' (m ++ m') = .ok (.bl (p d)) (m ++ m' ++ u)) ∧ ∀ m', p d = true → ∃ u, e σ' (m ++ m') = .ok (v d) (m ++ m' ++ u)) → acc.length + ds.length ≤ LIM →
    ∃ u, lcLoop g n tg c e σ (ds.map F) (m ++ (.lst acc :: t)) = .ok (.ref n) (m ++ (.lst (acc ++ (ds.filter p).map v) :: u))
  | [], m, t, acc, hn, hg, _, _ => ⟨t, by simp [lcLoop, hg]⟩
  | d :: ds, m, t, acc, hn, hg, hs, hl => by
    rw [List.length_cons] at hl
    obtain ⟨σ', h1, h2, h3⟩ := hs d List.mem_cons_self (.lst acc :: t)
    obtain ⟨u, hu⟩ := h2 (.lst acc :: t)
    have ih := fun t' acc' hl' => lcLoop_map F p v ds m t' acc' hn hg (fun d hd => hs d (List.mem_cons_of_mem _ hd)) hl'
    simp only [List.map_cons, lcLoop, hg, if_true, h1, hu, Res.calm, Res.bind]
    cases hp : p d with
    | false =>
      rw [List.append_assoc, List.cons_append]
      obtain ⟨u', hu'⟩ := ih (t ++ u) acc (by omega)
      exact ⟨u', by simp only; rw [hu', List.filter_cons_of_neg (by simp [hp])]⟩
    | true =>
      obtain ⟨w, hw⟩ := h3 (.lst acc :: t ++ u) hp
      simp only
      rw [List.append_assoc, hw]
      have e1 : m ++ (MO.lst acc :: t ++ u) ++ w = m ++ (.lst acc :: (t ++ u ++ w)) := by simp
      have e2 : (m ++ (MO.lst acc :: (t ++ u ++ w)))[n]? = some (.lst acc) := by rw [List.getElem?_append_right (by omega), hn, Nat.sub_self]; rfl
      have e3 : (m ++ (MO.lst acc :: (t ++ u ++ w))).set n (.lst (acc ++ [v d])) = m ++ (.lst (acc ++ [v d]) :: (t ++ u ++ w)) := by
        rw [List.set_append_right _ _ (by omega), hn, Nat.sub_self]; rfl
      simp only
      rw [e1, e2]
      simp only
      rw [if_pos (by omega), e3]
      obtain ⟨u', hu'⟩ := ih (t ++ u ++ w) (acc ++ [v d]) (by rw [List.length_append, List.length_singleton]; omega)
      exact ⟨u', by rw [hu', List.filter_cons_of_pos (by simp [hp]), List.map_cons, List.append_assoc, List.singleton_append]⟩
@[simp] theorem at_at (m : Mem) (o : MO) (u : Mem) : (m ++ (o :: u))[m.length]? = some o := by
  rw [List.getElem?_append_right (Nat.le_refl _), Nat.sub_self]
  rfl
@[simp] theorem at_k (m : Mem) (l : Mem) (k : Nat) : (m ++ l)[m.length + k]? = l[k]? := by
  rw [List.getElem?_append_right (Nat.le_add_right _ _), Nat.add_sub_cancel_left]
@[simp] theorem at_0 (m : Mem) (l : Mem) : (m ++ l)[m.length]? = l[0]? := at_k m l 0
@[simp] theorem set_k (m : Mem) (l : Mem) (k : Nat) (x : MO) : (m ++ l).set (m.length + k) x = m ++ l.set k x := by
  rw [List.set_append_right _ _ (Nat.le_add_right _ _), Nat.add_sub_cancel_left]
@[simp] theorem set_0 (m : Mem) (l : Mem) (x : MO) : (m ++ l).set m.length x = m ++ l.set 0 x := set_k m l 0 x
/-! ### tests -/
inductive Tst where
  | yes | no | nam (i : Nat) | not (t : Tst) | both (a b : Tst) | either (a b : Tst)
  deriving DecidableEq, Repr
namespace Tst
def D : Tst → FS.D
  | yes => .ins 1 []
  | no => .ins 2 []
  | nam i => .ins 3 [.str [97 + i]]
  | not t => .ins 4 [t.D]
  | both a b => .ins 6 [a.D, b.D]
  | either a b => .ins 7 [a.D, b.D]
def cls : Tst → Nat
  | yes => 1 | no => 2 | nam _ => 3 | not _ => 4 | both _ _ => 6 | either _ _ => 7
def holds : Tst → Nat → Bool
  | yes, _ => true
  | no, _ => false
  | nam i, s => s.testBit i
  | not t, s => !t.holds s
  | both a b, s => a.holds s && b.holds s
  | either a b, s => a.holds s || b.holds s
/-- its letters are letters -/
def ok : Tst → Bool
  | nam i => decide (i < 4)
  | not t => t.ok
  | both a b | either a b => a.ok && b.ok
  | _ => true
def ht : Tst → Nat
  | not t => t.ht + 1
  | both a b | either a b => max a.ht b.ht + 1
  | _ => 0
def fnH : Tst → Nat
  | yes => 4 | no => 0 | nam _ => 8 | not _ => 11 | both _ _ => 14 | either _ _ => 17
theorem D_ins (t : Tst) : ∃ l, t.D = .ins t.cls l := by cases t <;> exact ⟨_, rfl⟩
def maskL (f : Nat → Bool) (l : List Nat) (x : Nat) : Nat := l.foldl (fun x s => if f s then x ||| 1 <<< s else x) x
def maskF (f : Nat → Bool) : Nat := maskL f (List.range 16) 0
def mask (t : Tst) : Nat := maskF t.holds
end Tst
@[simp] theorem tagOf_T (t : Tst) (m : Mem) : tagOf m t.D = some (.own t.cls) := by
  obtain ⟨l, hl⟩ := t.D_ins
  rw [hl]; rfl
@[simp] theorem methD_T {C : Ctx} (t : Tst) (i : Nat) (m : Mem) (f : D → Nat → Res D) : methD C t.D i m f = (match C.mt t.cls i with | some g => f t.D g | none => .no) := by
  obtain ⟨l, hl⟩ := t.D_ins
  rw [hl]; rfl
/-- the program has the tests' classes -/
structure HasH (P : Prog) : Prop where
  f0 : P.fns 0 = some (.fn 2 2 (.cons (.ret (.cst (.bl false))) .nil))
  f4 : P.fns 4 = some (.fn 2 2 (.cons (.ret (.cst (.bl true))) .nil))
  f8 : P.fns 8 = some (.fn 2 2 (.cons (.ret (.cmp .eq (.op .band (.op .shr (.var 1) (.bm (.cst (.str [97, 98, 99, 100])) .find (.cons (.fld (.var 0) 0) .nil))) (.cst (.int 1))) (.cst (.int 1)))) .nil))
  f11 : P.fns 11 = some (.fn 2 2 (.cons (.ret (.not (.meth (.fld (.var 0) 1) 0 (.cons (.var 1) .nil)))) .nil))
  f14 : P.fns 14 = some (.fn 2 2 (.cons (.ret (.and (.meth (.fld (.var 0) 2) 0 (.cons (.var 1) .nil)) (.meth (.fld (.var 0) 3) 0 (.cons (.var 1) .nil)))) .nil))
  f17 : P.fns 17 = some (.fn 2 2 (.cons (.ret (.or (.meth (.fld (.var 0) 2) 0 (.cons (.var 1) .nil)) (.meth (.fld (.var 0) 3) 0 (.cons (.var 1) .nil)))) .nil))
  mh : ∀ t : Tst, P.mt t.cls 0 = some t.fnH
  d3 : P.flds 3 = [0]
  d4 : P.flds 4 = [1]
  d6 : P.flds 6 = [2, 3]
  d7 : P.flds 7 = [2, 3]
  ts : ∀ t : Tst, P.sub t.cls 0 = true
/-- and the masks -/
structure HasT (P : Prog) : Prop extends HasH P where
  f1 : P.fns 1 = some (.fn 1 3 (.cons (.set 1 (.cst (.int 0))) (.cons (.frs (.nm 2) (.rng (.cst (.int 0)) (.cst (.int 16)))
    (.cons (.ifs (.meth (.var 0) 0 (.cons (.var 2) .nil)) (.cons (.set 1 (.op .bor (.var 1) (.op .shl (.cst (.int 1)) (.var 2)))) .nil) .nil) .nil)) (.cons (.ret (.var 1)) .nil))))
  mm : ∀ t : Tst, P.mt t.cls 1 = some 1
/-- a method's call on a test -/
theorem ev_holds {P : Prog} (hT : HasH P) {c1 c2 : Nat → List D → Mem → Res D} {e1 e2 : E} {t : Tst} {d : D} {σ : Sto} {m : Mem} (h1 : evalE (ctx P c1 c2) e1 σ m = .ok t.D m) (h2 : evalE (ctx P c1 c2) e2 σ m = .ok d m) :
    evalE (ctx P c1 c2) (.meth e1 0 (.cons e2 .nil)) σ m = c1 t.fnH [t.D, d] m := by
  obtain ⟨l, hl⟩ := t.D_ins
  simp only [evalE, evalEs, h1, h2, Res.bind, hl]
  simp only [ctx, hT.mh]
theorem ev_mask {P : Prog} (hT : HasT P) {c1 c2 : Nat → List D → Mem → Res D} {e1 : E} {t : Tst} {σ : Sto} {m : Mem} (h1 : evalE (ctx P c1 c2) e1 σ m = .ok t.D m) :
    evalE (ctx P c1 c2) (.meth e1 1 .nil) σ m = c1 1 [t.D] m := by
  obtain ⟨l, hl⟩ := t.D_ins
  simp only [evalE, evalEs, h1, Res.bind, hl]
  simp only [ctx, hT.mm]
theorem find4 : ∀ i : Nat, i < 4 → findS [97 + i] [97, 98, 99, 100] = (i : Int) := by decide
theorem bit_and (s i : Nat) : bAnd ((s : Int) / 2 ^ i) 1 = some (if s.testBit i then 1 else 0) := by
  have e : (s : Int) / 2 ^ i = ((s / 2 ^ i : Nat) : Int) := by norm_cast
  rw [e]
  unfold bAnd
  rw [if_pos (Int.natCast_nonneg _), if_pos (by decide)]
  simp only [Int.toNat_natCast, show (1 : Int).toNat = 1 from rfl, Nat.and_one_is_mod, Nat.testBit_eq_decide_div_mod_eq]
  rcases Nat.mod_two_eq_zero_or_one (s / 2 ^ i) with h | h <;> simp [h]
theorem call_holds {P : Prog} (hT : HasH P) : ∀ (t : Tst), t.ok = true → ∀ (n : Nat), t.ht < n → ∀ (s : Nat) (m : Mem), call P n t.fnH [t.D, .int (s : Int)] m = .ok (.bl (t.holds s)) m
  | .yes, _, n + 1, _, s, m => by
    show call P (n + 1) 4 _ m = _
    rw [call_fn hT.f4 n _ m rfl]
    rfl
  | .no, _, n + 1, _, s, m => by
    show call P (n + 1) 0 _ m = _
    rw [call_fn hT.f0 n _ m rfl]
    rfl
  | .nam i, hk, n + 1, _, s, m => by
    show call P (n + 1) 8 _ m = _
    rw [call_fn hT.f8 n _ m rfl]
    have hi : i < 4 := by simpa [Tst.ok] using hk
    have e : (FS.D.ins 3 [.str [97 + i]]) = Tst.D (.nam i) := rfl
    simp only [execSs, execS, evalE, evalEs, Res.bind, Res.toS, SR.seq, fin, start, Tst.D, List.map_cons, List.map_nil, List.length_cons, List.length_nil, List.cons_append, List.getElem?_cons_zero, List.getElem?_cons_succ, ctx, hT.d3, bk, bmK, bm, opt, if_true]
    simp only [show List.findIdx? (fun x => x == 0) [0] = some 0 from rfl, List.getElem?_cons_zero, bk, bmK, bm, opt, if_true, Res.bind, find4 i hi, op2]
    rw [if_pos (Int.natCast_nonneg i)]
    simp only [Res.bind, op2, Int.toNat_natCast, bit_and]
    simp only [cmp2, eqD, scal, if_true, ofO, D.beq]
    simp only [Tst.holds]
    cases s.testBit i <;> rfl
  | .not t, hk, n + 1, hn, s, m => by
    show call P (n + 1) 11 _ m = _
    rw [call_fn hT.f11 n _ m rfl]
    have ih := call_holds hT t (by simpa [Tst.ok] using hk) n (by simpa [Tst.ht] using hn) s m
    have hf : evalE (ctx P (call P n) (call P (n - 1))) (.fld (.var 0) 1) (start 2 [Tst.D (.not t), .int (s : Int)]) m = .ok t.D m := by
      simp only [evalE, start, Tst.D, List.map_cons, List.map_nil, List.length_cons, List.length_nil, List.cons_append, List.getElem?_cons_zero, Res.bind, ctx, hT.d4]
      rfl
    simp only [execSs, execS, SR.seq]
    rw [evalE, ev_holds hT hf (d := .int (s : Int)) rfl, ih]
    rfl
  | .both a b, hk, n + 1, hn, s, m => by
    show call P (n + 1) 14 _ m = _
    rw [call_fn hT.f14 n _ m rfl]
    simp only [Tst.ok, Bool.and_eq_true] at hk
    simp only [Tst.ht] at hn
    have iha := call_holds hT a hk.1 n (by omega) s m
    have ihb := call_holds hT b hk.2 n (by omega) s m
    have hf : evalE (ctx P (call P n) (call P (n - 1))) (.fld (.var 0) 2) (start 2 [Tst.D (.both a b), .int (s : Int)]) m = .ok a.D m := by
      simp only [evalE, start, Tst.D, List.map_cons, List.map_nil, List.length_cons, List.length_nil, List.cons_append, List.getElem?_cons_zero, Res.bind, ctx, hT.d6]
      rfl
    have hg : evalE (ctx P (call P n) (call P (n - 1))) (.fld (.var 0) 3) (start 2 [Tst.D (.both a b), .int (s : Int)]) m = .ok b.D m := by
      simp only [evalE, start, Tst.D, List.map_cons, List.map_nil, List.length_cons, List.length_nil, List.cons_append, List.getElem?_cons_zero, Res.bind, ctx, hT.d6]
      rfl
    simp only [execSs, execS, SR.seq]
    rw [evalE, ev_holds hT hf (d := .int (s : Int)) rfl, iha]
    simp only [Tst.holds, Res.bind]
    cases a.holds s with
    | false => rfl
    | true =>
      simp only
      rw [ev_holds hT hg (d := .int (s : Int)) rfl, ihb]
      rfl
  | .either a b, hk, n + 1, hn, s, m => by
    show call P (n + 1) 17 _ m = _
    rw [call_fn hT.f17 n _ m rfl]
    simp only [Tst.ok, Bool.and_eq_true] at hk
    simp only [Tst.ht] at hn
    have iha := call_holds hT a hk.1 n (by omega) s m
    have ihb := call_holds hT b hk.2 n (by omega) s m
    have hf : evalE (ctx P (call P n) (call P (n - 1))) (.fld (.var 0) 2) (start 2 [Tst.D (.either a b), .int (s : Int)]) m = .ok a.D m := by
      simp only [evalE, start, Tst.D, List.map_cons, List.map_nil, List.length_cons, List.length_nil, List.cons_append, List.getElem?_cons_zero, Res.bind, ctx, hT.d7]
      rfl
    have hg : evalE (ctx P (call P n) (call P (n - 1))) (.fld (.var 0) 3) (start 2 [Tst.D (.either a b), .int (s : Int)]) m = .ok b.D m := by
      simp only [evalE, start, Tst.D, List.map_cons, List.map_nil, List.length_cons, List.length_nil, List.cons_append, List.getElem?_cons_zero, Res.bind, ctx, hT.d7]
      rfl
    simp only [execSs, execS, SR.seq]
    rw [evalE, ev_holds hT hf (d := .int (s : Int)) rfl, iha]
    simp only [Tst.holds, Res.bind]
    cases a.holds s with
    | true => rfl
    | false =>
      simp only
      rw [ev_holds hT hg (d := .int (s : Int)) rfl, ihb]
      rfl
theorem shl_one (s : Nat) (h : s < 1000) (m : Mem) : opx .shl (.int 1) (.int (s : Int)) m = .ok (.int ((1 <<< s : Nat) : Int)) m := by
  simp only [opx_eq, op2]
  rw [if_pos ⟨Int.natCast_nonneg s, by omega, by decide⟩]
  simp only [Int.toNat_natCast, Nat.one_shiftLeft]
  norm_cast
  rw [Nat.one_mul]
theorem bor_nat (a b : Nat) (m : Mem) : opx .bor (.int (a : Int)) (.int (b : Int)) m = .ok (.int ((a ||| b : Nat) : Int)) m := by
  simp only [opx_eq, op2]
  rw [if_pos ⟨Int.natCast_nonneg a, Int.natCast_nonneg b⟩]
  rfl
/-- 1 << s, as a number -/
def p2 (s : Nat) : Int := ((1 <<< s : Nat) : Int)
theorem shl_p2 (s : Nat) (h : s < 1000) (m : Mem) : opx .shl (.int 1) (.int (s : Int)) m = .ok (.int (p2 s)) m := shl_one s h m
theorem bor_p2 (x s : Nat) (m : Mem) : opx .bor (.int (x : Int)) (.int (p2 s)) m = .ok (.int ((x ||| 1 <<< s : Nat) : Int)) m := bor_nat x (1 <<< s) m
def fN (k : Nat) : D := .int (0 + (k : Int))
theorem rng_eq (n : Nat) : rngL 0 (n : Int) = (List.range n).map fN := by
  unfold rngL fN
  simp
theorem loop_mask {P : Prog} (hT : HasT P) (t : Tst) (ht : t.ok = true) (n : Nat) (hn : t.ht < n) (c2 : Nat → List D → Mem → Res D) (m : Mem) : ∀ (l : List Nat) (x : Nat) (y : Option D), (∀ s ∈ l, s < 1000) →
    ∃ y', frLoop [] (.nm 2) (execSs (ctx P (call P n) c2) (.cons (.ifs (.meth (.var 0) 0 (.cons (.var 2) .nil)) (.cons (.set 1 (.op .bor (.var 1) (.op .shl (.cst (.int 1)) (.var 2)))) .nil) .nil) .nil))
      (l.map fN) [some t.D, some (.int (x : Int)), y] m = .nx [some t.D, some (.int (Tst.maskL t.holds l x : Int)), y'] m
  | [], x, y, _ => ⟨y, rfl⟩
  | s :: l, x, y, hl => by
    have hs := hl s List.mem_cons_self
    have ih := fun x' => loop_mask hT t ht n hn c2 m l x' (some (.int (s : Int))) fun s hs => hl s (List.mem_cons_of_mem _ hs)
    have e0 : fN s = .int (s : Int) := by unfold fN; rw [Int.zero_add]
    have hc := call_holds hT.toHasH t ht n hn s m
    rw [List.map_cons, e0]
    cases hh : t.holds s with
    | true =>
      obtain ⟨y', hy⟩ := ih (x ||| 1 <<< s)
      refine ⟨y', ?_⟩
      rw [frLoop_nx (σ1 := [some t.D, some (.int (x : Int)), some (.int (s : Int))]) (σ2 := [some t.D, some (.int ((x ||| 1 <<< s : Nat) : Int)), some (.int (s : Int))]) (m2 := m) rfl (by simp) (by simp [hT.mh, hc, hh, shl_p2 s hs, bor_p2]), hy]
      simp [Tst.maskL, hh]
    | false =>
      obtain ⟨y', hy⟩ := ih x
      refine ⟨y', ?_⟩
      rw [frLoop_nx (σ1 := [some t.D, some (.int (x : Int)), some (.int (s : Int))]) (σ2 := [some t.D, some (.int (x : Int)), some (.int (s : Int))]) (m2 := m) rfl (by simp) (by simp [hT.mh, hc, hh]), hy]
      simp [Tst.maskL, hh]
theorem call_mask {P : Prog} (hT : HasT P) (t : Tst) (ht : t.ok = true) (n : Nat) (hn : t.ht + 1 < n) (m : Mem) : call P n 1 [t.D] m = .ok (.int (t.mask : Int)) m := by
  cases n with
  | zero => omega
  | succ n =>
    rw [call_fn hT.f1 n _ m rfl]
    obtain ⟨y', hy⟩ := loop_mask hT t ht n (by omega) (call P (n - 1)) m (List.range 16) 0 none fun s hs => by have := List.mem_range.mp hs; omega
    have e' : rngL 0 16 = (List.range 16).map fN := rng_eq 16
    simp only [Int.ofNat_zero, Int.cast_ofNat_Int] at hy
    simp [start, rngOk, e', hy, Tst.mask, Tst.maskF]
/-! ### the classes' instances -/
structure HasC (P : Prog) : Prop where
  c1 : P.cini 1 = some .bare
  c2 : P.cini 2 = some .bare
  c3 : P.cini 3 = some (.imm 103)
  c4 : P.cini 4 = some (.imm 104)
  c6 : P.cini 6 = some (.imm 106)
  c7 : P.cini 7 = some (.imm 107)
  f103 : P.fns 103 = some (.ini 3 1 2 (.cons (.var 1) .nil))
  f104 : P.fns 104 = some (.ini 4 1 2 (.cons (.var 1) .nil))
  f106 : P.fns 106 = some (.ini 6 2 3 (.cons (.var 1) (.cons (.var 2) .nil)))
  f107 : P.fns 107 = some (.ini 7 2 3 (.cons (.var 1) (.cons (.var 2) .nil)))
section
variable {P : Prog} (hC : HasC P) (k : Nat) (m : Mem)
include hC
theorem mk_yes {c : Nat → List D → Mem → Res D} : mk P c 1 [] m = .ok Tst.yes.D m := by simp only [mk, hC.c1, if_true]; rfl
theorem mk_no {c : Nat → List D → Mem → Res D} : mk P c 2 [] m = .ok Tst.no.D m := by simp only [mk, hC.c2, if_true]; rfl
theorem mk_nam (i : Nat) : mk P (call P (k + 1)) 3 [.str [97 + i]] m = .ok (Tst.nam i).D m := by
  simp only [mk, hC.c3, call_succ', hC.f103]; rfl
theorem mk_not (t : Tst) : mk P (call P (k + 1)) 4 [t.D] m = .ok (Tst.not t).D m := by
  simp only [mk, hC.c4, call_succ', hC.f104]; rfl
theorem mk_both (a b : Tst) : mk P (call P (k + 1)) 6 [a.D, b.D] m = .ok (Tst.both a b).D m := by
  simp only [mk, hC.c6, call_succ', hC.f106]; rfl
theorem mk_either (a b : Tst) : mk P (call P (k + 1)) 7 [a.D, b.D] m = .ok (Tst.either a b).D m := by
  simp only [mk, hC.c7, call_succ', hC.f107]; rfl
end
/-! ### masks -/
namespace Tst
theorem maskL_bit (f : Nat → Bool) : ∀ (l : List Nat) (x j : Nat), (maskL f l x).testBit j = (x.testBit j || (decide (j ∈ l) && f j))
  | [], x, j => by simp [maskL]
  | s :: l, x, j => by
    show (maskL f l (if f s then x ||| 1 <<< s else x)).testBit j = _
    rw [maskL_bit f l]
    have e1 : (1 <<< s : Nat).testBit j = decide (s = j) := by rw [Nat.one_shiftLeft, Nat.testBit_two_pow]
    by_cases hs : f s = true
    · rw [if_pos hs, Nat.testBit_or, e1]
      by_cases hj : s = j
      · subst hj; simp [hs]
      · have : ¬ j = s := fun h => hj h.symm
        simp [hj, this]
    · rw [if_neg hs]
      by_cases hj : j = s
      · subst hj
        have : f j = false := by simpa using hs
        simp [this]
      · simp [hj]
theorem maskF_bit (f : Nat → Bool) (j : Nat) : (maskF f).testBit j = (decide (j < 16) && f j) := by
  unfold maskF
  rw [maskL_bit]
  simp
theorem maskF_lt (f : Nat → Bool) : maskF f < 65536 := by
  have : maskF f < 2 ^ 16 := Nat.lt_pow_two_of_testBit _ fun i hi => by
    rw [maskF_bit]
    simp
    intro h
    omega
  simpa using this
theorem maskF_congr {f g : Nat → Bool} (h : ∀ s, s < 16 → f s = g s) : maskF f = maskF g := by
  apply Nat.eq_of_testBit_eq
  intro j
  rw [maskF_bit, maskF_bit]
  by_cases hj : j < 16
  · rw [h j hj]
  · simp [hj]
end Tst
namespace Tst
/-- the sum over the settings is the mask -/
theorem sum_mask (f : Nat → Bool) : ∀ (l : List Nat) (x : Nat), l.Pairwise (· < ·) → (∀ s ∈ l, x < 2 ^ s) → maskL f l x = x + ((l.filter f).map fun s => 1 <<< s).sum
  | [], x, _, _ => by simp [maskL]
  | s :: l, x, hp, hx => by
    rw [List.pairwise_cons] at hp
    show maskL f l (if f s then x ||| 1 <<< s else x) = _
    have hxs := hx s List.mem_cons_self
    by_cases hs : f s = true
    · have e : x ||| 1 <<< s = x + 1 <<< s := by
        have := Nat.two_pow_add_eq_or_of_lt hxs 1
        rw [Nat.one_shiftLeft, Nat.or_comm, Nat.add_comm]
        simpa using this.symm
      rw [if_pos hs, e, sum_mask f l _ hp.2, List.filter_cons_of_pos hs, List.map_cons, List.sum_cons, Nat.add_assoc]
      intro t ht
      have h1 := hp.1 t ht
      have h2 : 2 ^ (s + 1) ≤ 2 ^ t := Nat.pow_le_pow_right (by decide) h1
      rw [Nat.one_shiftLeft]
      rw [Nat.pow_succ] at h2
      omega
    · rw [if_neg hs, sum_mask f l _ hp.2 fun t ht => hx t (List.mem_cons_of_mem _ ht), List.filter_cons_of_neg hs]
theorem sum_p2 : ∀ l : List Nat, (l.map p2).sum = (((l.map fun s => 1 <<< s).sum : Nat) : Int)
  | [] => rfl
  | s :: l => by simp only [List.map_cons, List.sum_cons, sum_p2 l, p2]; rfl
theorem mask_sum (t : Tst) : (((List.range 16).filter t.holds).map p2).sum = (t.mask : Int) := by
  rw [sum_p2]
  unfold mask maskF
  rw [sum_mask t.holds (List.range 16) 0 List.pairwise_lt_range fun s _ => Nat.two_pow_pos s, Nat.zero_add]
end Tst
/-- a script's k-th number, or nought -/
def cell (ns : List Int) (k : Nat) : Int := ns.getD k 0
theorem call_cell {P : Prog} {f : Nat} (hf : P.fns f = some (.fn 2 2 (.cons (.ifs (.cmp .lt (.var 1) (.bi .len (.cons (.var 0) .nil))) (.cons (.ret (.idx (.var 0) (.var 1))) .nil) .nil) (.cons (.ret (.cst (.int 0))) .nil)))) (n k : Nat) (ns : List Int) (m : Mem) :
    call P (n + 1) f [.rol (ns.map .int), .int (k : Int)] m = .ok (.int (cell ns k)) m := by
  unfold cell
  rw [call_fn hf n _ m rfl]
  simp [start]
  by_cases h : k < ns.length
  · simp [h]
  · simp [h]
end FS

namespace FS
namespace Tst
/-- the test as the laws tell it -/
def T : Tst → FS.D
  | yes => .tup [.str [121, 101, 115]]
  | no => .tup [.str [110, 111]]
  | nam i => .tup [.str [110, 97, 109, 101, 100], .str [97 + i]]
  | not t => .tup [.str [110, 111, 116], t.T]
  | both a b => .tup [.str [98, 111, 116, 104], a.T, b.T]
  | either a b => .tup [.str [101, 105, 116, 104, 101, 114], a.T, b.T]
def dat : Tst → Dat
  | yes => .tup [.str [121, 101, 115]]
  | no => .tup [.str [110, 111]]
  | nam i => .tup [.str [110, 97, 109, 101, 100], .str [97 + i]]
  | not t => .tup [.str [110, 111, 116], t.dat]
  | both a b => .tup [.str [98, 111, 116, 104], a.dat, b.dat]
  | either a b => .tup [.str [101, 105, 116, 104, 101, 114], a.dat, b.dat]
theorem toDat_T : ∀ (t : Tst), t.ok = true → ∀ (n : Nat), t.ht < n → ∀ m, toDat n m t.T = some t.dat
  | yes, _, n + 1, _, m => by cases n <;> rfl
  | no, _, n + 1, _, m => by cases n <;> rfl
  | nam i, hk, n + 1, _, m => by
    have hi : i < 4 := by simpa [ok] using hk
    have e1 : toDat n m (.str [110, 97, 109, 101, 100]) = some (.str [110, 97, 109, 101, 100]) := by cases n <;> rfl
    have e2 : toDat n m (.str [97 + i]) = some (.str [97 + i]) := by
      have h : 97 + i < 1114112 := by omega
      cases n <;> simp [toDat, h]
    simp [T, toDat, dat, e1, e2]
  | not t, hk, n + 1, hn, m => by
    have ih := toDat_T t (by simpa [ok] using hk) n (by simpa [ht] using hn) m
    have e : toDat n m (.str [110, 111, 116]) = some (.str [110, 111, 116]) := by cases n <;> rfl
    simp [T, toDat, dat, ih, e]
  | both a b, hk, n + 1, hn, m => by
    simp only [ok, Bool.and_eq_true] at hk
    simp only [ht] at hn
    have iha := toDat_T a hk.1 n (by omega) m
    have ihb := toDat_T b hk.2 n (by omega) m
    have e : toDat n m (.str [98, 111, 116, 104]) = some (.str [98, 111, 116, 104]) := by cases n <;> rfl
    simp [T, toDat, dat, iha, ihb, e]
  | either a b, hk, n + 1, hn, m => by
    simp only [ok, Bool.and_eq_true] at hk
    simp only [ht] at hn
    have iha := toDat_T a hk.1 n (by omega) m
    have ihb := toDat_T b hk.2 n (by omega) m
    have e : toDat n m (.str [101, 105, 116, 104, 101, 114]) = some (.str [101, 105, 116, 104, 101, 114]) := by cases n <;> rfl
    simp [T, toDat, dat, iha, ihb, e]
theorem dat_eqv : ∀ a b : Tst, Dat.eqv a.dat b.dat = decide (a = b)
  | yes, b | no, b => by cases b <;> simp [dat, Dat.eqv, Dat.eqvs]
  | nam i, b => by
    cases b with
    | nam j =>
      by_cases h : i = j
      · subst h; simp [dat, Dat.eqv, Dat.eqvs]
      · have h2 : ¬ 97 + i = 97 + j := by omega
        simp [dat, Dat.eqv, Dat.eqvs, h, h2]
    | _ => rw [decide_eq_false (by simp)]; rfl
  | not t, b => by cases b <;> simp [dat, Dat.eqv, Dat.eqvs, dat_eqv t]
  | both x y, b => by cases b <;> simp [dat, Dat.eqv, Dat.eqvs, dat_eqv x, dat_eqv y]
  | either x y, b => by cases b <;> simp [dat, Dat.eqv, Dat.eqvs, dat_eqv x, dat_eqv y]
/-- two of them held against each other -/
theorem eqD_T (a b : Tst) (ha : a.ok = true) (hb : b.ok = true) (h1 : a.ht < 60) (h2 : b.ht < 60) (m : Mem) : eqD m a.T b.T = some (decide (a = b)) := by
  have hs : scal a.T b.T = false := by cases a <;> rfl
  unfold eqD
  rw [hs, toDat_T a ha 60 h1, toDat_T b hb 60 h2]
  simp [dat_eqv]
end Tst
/-! ### lists as stacks, dict displays -/
@[simp] theorem atI_m1 {α : Type} (l : List α) (x : α) : atI (l ++ [x]) (-1) = some x := by
  unfold atI ixN
  have h1 : ¬ (0 : Int) ≤ -1 := by decide
  rw [if_neg h1, if_pos (by rw [List.length_append, List.length_singleton]; omega)]
  have h2 : ((-1 : Int) + (l ++ [x]).length).toNat = l.length := by rw [List.length_append, List.length_singleton]; omega
  simp only [Option.bind, h2]
  exact List.getElem?_concat_length
def dctE (t : Bool) (n : Nat) (kvs : List (D × D)) (m : Mem) : Res D := if kvs.all (fun p => keyOk t p.1) && decide (kvs.length ≤ 15) && decide (m[n]? = some (.dct t false [])) then .ok (.ref n) (m.set n (.dct t false (kvs.foldl (fun a p => dPut a p.1 p.2) []))) else .no
@[simp] theorem ev_dct {C : Ctx} {σ : Sto} {m : Mem} {t : Bool} {l : Kv} : evalE C (.dct t l) σ m = (evalKV C l σ (m ++ [.dct t false []])).bind fun kvs m1 => dctE t m.length kvs m1 := by simp only [evalE]; rfl
@[simp] theorem ev_kv0 {C : Ctx} {σ : Sto} {m : Mem} : evalKV C .nil σ m = .ok [] m := by simp only [evalKV]
@[simp] theorem ev_kv1 {C : Ctx} {σ : Sto} {m : Mem} {k v : E} {l : Kv} : evalKV C (.cons k v l) σ m = (evalE C k σ m).bind fun x m1 => (evalE C v σ m1).bind fun y m2 => (evalKV C l σ m2).bind fun r m3 => .ok ((x, y) :: r) m3 := by simp only [evalKV]
@[simp] theorem ixO_d {m : Mem} {k : D} {t z : Bool} {l : List (D × D)} : ixO k m (some (.dct t z l)) = if keyOk t k then opt m (dGet l k) else .no := id rfl
theorem dctE_new {t : Bool} {kvs : List (D × D)} {m : Mem} (h : (kvs.all fun p => keyOk t p.1) = true) (h2 : kvs.length ≤ 15) : dctE t m.length kvs (m ++ [.dct t false []]) = .ok (.ref m.length) (m ++ [.dct t false (kvs.foldl (fun a p => dPut a p.1 p.2) [])]) := by
  unfold dctE
  rw [if_pos (by simp [h, h2]), set_0]
  rfl
end FS

namespace HP
open PySem PySem.Spec PyProof.Rows L2 FS
def top (i : Nat) : Stmt := PySem.Challenge.pw_anymeaning_k01_a_test_holds.main.body.getD i (.Pass ⟨0, 0, 0, 0⟩)
def b_0 : Ss :=
 (.cons (.ret (.cst (.bl false)))
 .nil)
def b_4 : Ss :=
 (.cons (.ret (.cst (.bl true)))
 .nil)
def b_8 : Ss :=
 (.cons (.ret (.cmp .eq (.op .band (.op .shr (.var 1) (.bm (.cst (.str [97, 98, 99, 100])) .find (.cons (.fld (.var 0) 0) .nil))) (.cst (.int 1))) (.cst (.int 1))))
 .nil)
def b_11 : Ss :=
 (.cons (.ret (.not (.meth (.fld (.var 0) 1) 0 (.cons (.var 1) .nil))))
 .nil)
def b_14 : Ss :=
 (.cons (.ret (.and (.meth (.fld (.var 0) 2) 0 (.cons (.var 1) .nil)) (.meth (.fld (.var 0) 3) 0 (.cons (.var 1) .nil))))
 .nil)
def b_17 : Ss :=
 (.cons (.ret (.or (.meth (.fld (.var 0) 2) 0 (.cons (.var 1) .nil)) (.meth (.fld (.var 0) 3) 0 (.cons (.var 1) .nil))))
 .nil)
def b_200 : Ss :=
 (.cons (.ifs (.cmp .eq (.op .mod (.var 0) (.cst (.int 6))) (.cst (.int 4)))
 (.cons (.ret (.tup (.cons (.cst (.str [121, 101, 115])) .nil)))
 .nil)
 .nil)
 (.cons (.ifs (.cmp .eq (.op .mod (.var 0) (.cst (.int 6))) (.cst (.int 5)))
 (.cons (.ret (.tup (.cons (.cst (.str [110, 111])) .nil)))
 .nil)
 .nil)
 (.cons (.ret (.tup (.cons (.cst (.str [110, 97, 109, 101, 100])) (.cons (.idx (.cst (.str [97, 98, 99, 100])) (.op .mod (.var 0) (.cst (.int 6)))) .nil))))
 .nil)))
def b_201 : Ss :=
 (.cons (.set 1 (.lst (.cons (.call 200 (.cons (.op .mod (.bi .len (.cons (.var 0) .nil)) (.cst (.int 4))) .nil)) .nil)))
 (.cons (.frs (.nm 2) (.seq (.var 0))
 (.cons (.set 3 (.op .mod (.var 2) (.cst (.int 8))))
 (.cons (.ifs (.or (.cmp .lt (.var 3) (.cst (.int 4))) (.and (.cmp .gt (.var 3) (.cst (.int 5))) (.cmp .eq (.bi .len (.cons (.var 1) .nil)) (.cst (.int 1)))))
 (.cons (.ex (.bm (.var 1) .append (.cons (.call 200 (.cons (.op .fdiv (.var 2) (.cst (.int 8))) .nil)) .nil)))
 .nil)
 (.cons (.ifs (.cmp .eq (.var 3) (.cst (.int 4)))
 (.cons (.ex (.bm (.var 1) .append (.cons (.tup (.cons (.cst (.str [110, 111, 116])) (.cons (.bm (.var 1) .pop .nil) .nil))) .nil)))
 .nil)
 (.cons (.ifs (.cmp .eq (.var 3) (.cst (.int 5)))
 (.cons (.ex (.bm (.var 1) .append (.cons (.tup (.cons (.idx (.lst (.cons (.cst (.str [98, 111, 116, 104])) (.cons (.cst (.str [101, 105, 116, 104, 101, 114])) .nil))) (.op .mod (.op .fdiv (.var 2) (.cst (.int 8))) (.cst (.int 2)))) (.cons (.idx (.var 1) (.neg (.cst (.int 1)))) (.cons (.bm (.var 1) .pop .nil) .nil)))) .nil)))
 .nil)
 (.cons (.set 4 (.bm (.var 1) .pop .nil))
 (.cons (.ex (.bm (.var 1) .append (.cons (.tup (.cons (.idx (.lst (.cons (.cst (.str [98, 111, 116, 104])) (.cons (.cst (.str [101, 105, 116, 104, 101, 114])) .nil))) (.op .sub (.var 3) (.cst (.int 6)))) (.cons (.bm (.var 1) .pop .nil) (.cons (.var 4) .nil)))) .nil)))
 .nil)))
 .nil))
 .nil))
 .nil)))
 (.cons (.whl (.cmp .gt (.bi .len (.cons (.var 1) .nil)) (.cst (.int 1)))
 (.cons (.set 4 (.bm (.var 1) .pop .nil))
 (.cons (.ex (.bm (.var 1) .append (.cons (.tup (.cons (.idx (.lst (.cons (.cst (.str [98, 111, 116, 104])) (.cons (.cst (.str [101, 105, 116, 104, 101, 114])) .nil))) (.op .mod (.bi .len (.cons (.var 1) .nil)) (.cst (.int 2)))) (.cons (.bm (.var 1) .pop .nil) (.cons (.var 4) .nil)))) .nil)))
 .nil)))
 (.cons (.ret (.idx (.var 1) (.cst (.int 0))))
 .nil))))
def b_202 : Ss :=
 (.cons (.ifs (.cmp .eq (.idx (.var 0) (.cst (.int 0))) (.cst (.str [110, 111, 116])))
 (.cons (.ret (.op .add (.cst (.int 1)) (.call 202 (.cons (.idx (.var 0) (.cst (.int 1))) .nil))))
 .nil)
 .nil)
 (.cons (.ifs (.or (.cmp .eq (.idx (.var 0) (.cst (.int 0))) (.cst (.str [98, 111, 116, 104]))) (.cmp .eq (.idx (.var 0) (.cst (.int 0))) (.cst (.str [101, 105, 116, 104, 101, 114]))))
 (.cons (.ret (.op .add (.op .add (.cst (.int 1)) (.call 202 (.cons (.idx (.var 0) (.cst (.int 1))) .nil))) (.call 202 (.cons (.idx (.var 0) (.cst (.int 2))) .nil))))
 .nil)
 .nil)
 (.cons (.ret (.cst (.int 1)))
 .nil)))
def b_203 : Ss :=
 (.cons (.ifs (.cmp .eq (.idx (.var 0) (.cst (.int 0))) (.cst (.str [121, 101, 115])))
 (.cons (.ret (.make 1 .nil))
 .nil)
 .nil)
 (.cons (.ifs (.cmp .eq (.idx (.var 0) (.cst (.int 0))) (.cst (.str [110, 111])))
 (.cons (.ret (.make 2 .nil))
 .nil)
 .nil)
 (.cons (.ifs (.cmp .eq (.idx (.var 0) (.cst (.int 0))) (.cst (.str [110, 97, 109, 101, 100])))
 (.cons (.ret (.make 3 (.cons (.idx (.var 0) (.cst (.int 1))) .nil)))
 .nil)
 .nil)
 (.cons (.ifs (.cmp .eq (.idx (.var 0) (.cst (.int 0))) (.cst (.str [110, 111, 116])))
 (.cons (.ret (.make 4 (.cons (.call 203 (.cons (.idx (.var 0) (.cst (.int 1))) .nil)) .nil)))
 .nil)
 .nil)
 (.cons (.set 1 (.call 203 (.cons (.idx (.var 0) (.cst (.int 1))) .nil)))
 (.cons (.set 2 (.var 1))
 (.cons (.ifs (.cmp .ne (.idx (.var 0) (.cst (.int 1))) (.idx (.var 0) (.cst (.int 2))))
 (.cons (.set 2 (.call 203 (.cons (.idx (.var 0) (.cst (.int 2))) .nil)))
 .nil)
 .nil)
 (.cons (.ifs (.cmp .eq (.idx (.var 0) (.cst (.int 0))) (.cst (.str [98, 111, 116, 104])))
 (.cons (.ret (.make 6 (.cons (.var 1) (.cons (.var 2) .nil))))
 .nil)
 .nil)
 (.cons (.ret (.make 7 (.cons (.var 1) (.cons (.var 2) .nil))))
 .nil)))))))))
def b_204 : Ss :=
 (.cons (.ifs (.or (.cmp .eq (.idx (.var 0) (.cst (.int 0))) (.cst (.str [121, 101, 115]))) (.cmp .eq (.idx (.var 0) (.cst (.int 0))) (.cst (.str [110, 111]))))
 (.cons (.ret (.cmp .eq (.idx (.var 0) (.cst (.int 0))) (.cst (.str [121, 101, 115]))))
 .nil)
 .nil)
 (.cons (.ifs (.cmp .eq (.idx (.var 0) (.cst (.int 0))) (.cst (.str [110, 97, 109, 101, 100])))
 (.cons (.ret (.cmp .eq (.op .mod (.op .fdiv (.var 1) (.idx (.dct false (.cons (.cst (.str [97])) (.cst (.int 1)) (.cons (.cst (.str [98])) (.cst (.int 2)) (.cons (.cst (.str [99])) (.cst (.int 4)) (.cons (.cst (.str [100])) (.cst (.int 8)) .nil))))) (.idx (.var 0) (.cst (.int 1))))) (.cst (.int 2))) (.cst (.int 1))))
 .nil)
 .nil)
 (.cons (.ifs (.cmp .eq (.idx (.var 0) (.cst (.int 0))) (.cst (.str [110, 111, 116])))
 (.cons (.ret (.not (.call 204 (.cons (.idx (.var 0) (.cst (.int 1))) (.cons (.var 1) .nil)))))
 .nil)
 .nil)
 (.cons (.ifs (.cmp .eq (.idx (.var 0) (.cst (.int 0))) (.cst (.str [98, 111, 116, 104])))
 (.cons (.ret (.and (.call 204 (.cons (.idx (.var 0) (.cst (.int 1))) (.cons (.var 1) .nil))) (.call 204 (.cons (.idx (.var 0) (.cst (.int 2))) (.cons (.var 1) .nil)))))
 .nil)
 .nil)
 (.cons (.ret (.or (.call 204 (.cons (.idx (.var 0) (.cst (.int 1))) (.cons (.var 1) .nil))) (.call 204 (.cons (.idx (.var 0) (.cst (.int 2))) (.cons (.var 1) .nil)))))
 .nil)))))
def b_205 : Ss :=
 (.cons (.set 1 (.lst (.cons (.isi (.var 0) [(.cls 1)]) (.cons (.isi (.var 0) [(.cls 2)]) (.cons (.isi (.var 0) [(.cls 3)]) .nil)))))
 (.cons (.set 1 (.op .add (.var 1) (.lst (.cons (.isi (.var 0) [(.cls 4)]) (.cons (.isi (.var 0) [(.cls 6)]) (.cons (.isi (.var 0) [(.cls 7)]) .nil))))))
 (.cons (.ret (.and (.isi (.var 0) [(.cls 0)]) (.cmp .eq (.bi .len (.cons (.lc [2] (.seq (.var 1)) (.nm 2) (.some (.var 2)) (.var 2)) .nil)) (.cst (.int 1)))))
 .nil)))
def b_206 : Ss :=
 (.cons (.ifs (.cmp .eq (.idx (.var 1) (.cst (.int 0))) (.cst (.str [110, 97, 109, 101, 100])))
 (.cons (.ret (.and (.isi (.var 0) [(.cls 3)]) (.cmp .eq (.fld (.var 0) 0) (.idx (.var 1) (.cst (.int 1))))))
 .nil)
 .nil)
 (.cons (.ifs (.cmp .eq (.idx (.var 1) (.cst (.int 0))) (.cst (.str [110, 111, 116])))
 (.cons (.ret (.and (.isi (.var 0) [(.cls 4)]) (.cmp .eq (.meth (.fld (.var 0) 1) 0 (.cons (.var 2) .nil)) (.call 204 (.cons (.idx (.var 1) (.cst (.int 1))) (.cons (.var 2) .nil))))))
 .nil)
 .nil)
 (.cons (.ifs (.or (.and (.cmp .eq (.idx (.var 1) (.cst (.int 0))) (.cst (.str [98, 111, 116, 104]))) (.not (.isi (.var 0) [(.cls 6)]))) (.and (.cmp .eq (.idx (.var 1) (.cst (.int 0))) (.cst (.str [101, 105, 116, 104, 101, 114]))) (.not (.isi (.var 0) [(.cls 7)]))))
 (.cons (.ret (.cst (.bl false)))
 .nil)
 .nil)
 (.cons (.ifs (.or (.cmp .eq (.idx (.var 1) (.cst (.int 0))) (.cst (.str [98, 111, 116, 104]))) (.cmp .eq (.idx (.var 1) (.cst (.int 0))) (.cst (.str [101, 105, 116, 104, 101, 114]))))
 (.cons (.set 3 (.cmp .eq (.meth (.fld (.var 0) 2) 0 (.cons (.var 2) .nil)) (.call 204 (.cons (.idx (.var 1) (.cst (.int 1))) (.cons (.var 2) .nil)))))
 (.cons (.ret (.and (.var 3) (.cmp .eq (.meth (.fld (.var 0) 3) 0 (.cons (.var 2) .nil)) (.call 204 (.cons (.idx (.var 1) (.cst (.int 2))) (.cons (.var 2) .nil))))))
 .nil))
 .nil)
 (.cons (.ret (.and (.cmp .eq (.isi (.var 0) [(.cls 1)]) (.cmp .eq (.idx (.var 1) (.cst (.int 0))) (.cst (.str [121, 101, 115])))) (.cmp .eq (.isi (.var 0) [(.cls 2)]) (.cmp .eq (.idx (.var 1) (.cst (.int 0))) (.cst (.str [110, 111]))))))
 .nil)))))
def b_207 : Ss :=
 (.cons (.set 1 (.call 201 (.cons (.slc (.var 0) .none (.some (.cst (.int 11)))) .nil)))
 (.cons (.ifs (.cmp .gt (.call 202 (.cons (.var 1) .nil)) (.cst (.int 40)))
 (.cons (.set 1 (.call 201 (.cons (.slc (.var 0) .none (.some (.cst (.int 3)))) .nil)))
 .nil)
 .nil)
 (.cons (.set 2 (.call 203 (.cons (.var 1) .nil)))
 (.cons (.ifs (.not (.call 205 (.cons (.var 2) .nil)))
 (.cons (.ret (.cst (.bl false)))
 .nil)
 .nil)
 (.cons (.frs (.nm 3) (.rng (.cst (.int 0)) (.cst (.int 2)))
 (.cons (.frs (.nm 4) (.rng (.cst (.int 0)) (.cst (.int 16)))
 (.cons (.set 5 (.meth (.var 2) 0 (.cons (.var 4) .nil)))
 (.cons (.ifs (.or (.not (.isi (.var 5) [.bool])) (.cmp .ne (.var 5) (.call 204 (.cons (.var 1) (.cons (.var 4) .nil)))))
 (.cons (.ret (.cst (.bl false)))
 .nil)
 .nil)
 (.cons (.ifs (.not (.call 206 (.cons (.var 2) (.cons (.var 1) (.cons (.var 4) .nil)))))
 (.cons (.ret (.cst (.bl false)))
 .nil)
 .nil)
 .nil))))
 .nil))
 (.cons (.ret (.cst (.bl true)))
 .nil))))))
def l_103 : Es := (.cons (.var 1) .nil)
def l_104 : Es := (.cons (.var 1) .nil)
def l_106 : Es := (.cons (.var 1) (.cons (.var 2) .nil))
def l_107 : Es := (.cons (.var 1) (.cons (.var 2) .nil))
def T : Tb where
  cn := [(0, "Test"), (1, "Yes"), (2, "No"), (3, "Named"), (4, "Not"), (5, "Joined"), (6, "Both"), (7, "Either")]
  im := [1, 2, 3, 4, 6, 7]
  mu := []
  fn := [(0, "name"), (1, "inner"), (2, "left"), (3, "right")]
  mn := [(0, "holds")]
  fl := [(3, [0]), (4, [1]), (6, [2, 3]), (7, [2, 3])]
  fs := [(0, ("Test", some "holds")), (4, ("Yes", some "holds")), (8, ("Named", some "holds")), (11, ("Not", some "holds")), (14, ("Both", some "holds")), (17, ("Either", some "holds")), (200, ("_law_leaf", none)), (201, ("_law_tree", none)), (202, ("_law_size", none)), (203, ("_law_made", none)), (204, ("_law_due", none)), (205, ("_law_one_class", none)), (206, ("_law_fields", none)), (207, ("law", none)), (103, ("Named", some "__init__")), (104, ("Not", some "__init__")), (106, ("Both", some "__init__")), (107, ("Either", some "__init__"))]
  mt := [((1, 0), 4), ((2, 0), 0), ((3, 0), 8), ((4, 0), 11), ((6, 0), 14), ((7, 0), 17)]
  ci := [(1, .bare), (2, .bare), (3, .imm 103), (4, .imm 104), (6, .imm 106), (7, .imm 107)]
  sb := [(0, 0), (1, 0), (1, 1), (2, 0), (2, 2), (3, 0), (3, 3), (4, 0), (4, 4), (5, 0), (5, 5), (6, 0), (6, 5), (6, 6), (7, 0), (7, 5), (7, 7)]
  pr := [(0, .fn 2 2 b_0),
    (4, .fn 2 2 b_4),
    (8, .fn 2 2 b_8),
    (11, .fn 2 2 b_11),
    (14, .fn 2 2 b_14),
    (17, .fn 2 2 b_17),
    (200, .fn 1 1 b_200),
    (201, .fn 1 5 b_201),
    (202, .fn 1 1 b_202),
    (203, .fn 1 3 b_203),
    (204, .fn 2 2 b_204),
    (205, .fn 1 3 b_205),
    (206, .fn 3 4 b_206),
    (207, .fn 1 6 b_207),
    (103, .ini 3 1 2 l_103),
    (104, .ini 4 1 2 l_104),
    (106, .ini 6 2 3 l_106),
    (107, .ini 7 2 3 l_107)]
  ps := [(0, ["self", "setting"]), (4, ["self", "setting"]), (8, ["self", "setting"]), (11, ["self", "setting"]), (14, ["self", "setting"]), (17, ["self", "setting"]), (200, ["_law_cell"]), (201, ["_law_cells"]), (202, ["_law_tree_here"]), (203, ["_law_tree_here"]), (204, ["_law_tree_here", "_law_setting"]), (205, ["_law_test"]), (206, ["_law_test", "_law_tree_here", "_law_setting"]), (207, ["_law_script"]), (103, ["self", "name"]), (104, ["self", "inner"]), (106, ["self", "left", "right"]), (107, ["self", "left", "right"])]
  fuel := 4000
end HP
namespace HP
open FS
theorem hT : HasH T.P := ⟨rfl, rfl, rfl, rfl, rfl, rfl, fun t => by cases t <;> rfl, rfl, rfl, rfl, rfl, fun t => by cases t <;> rfl⟩
theorem hC : HasC T.P := ⟨rfl, rfl, rfl, rfl, rfl, rfl, rfl, rfl, rfl, rfl⟩
theorem abcd : ∀ i : Nat, i < 4 → [97, 98, 99, 100][i]? = some (97 + i) := by decide
def leaf (c : Int) : Tst := if c % 6 = 4 then .yes else if c % 6 = 5 then .no else .nam (c % 6).toNat
theorem leaf_ok (c : Int) : (leaf c).ok = true ∧ (leaf c).ht = 0 := by
  unfold leaf
  have h1 := Int.emod_nonneg c (show (6 : Int) ≠ 0 by decide)
  have h2 := Int.emod_lt_of_pos c (show (0 : Int) < 6 by decide)
  split
  · exact ⟨rfl, rfl⟩
  · split
    · exact ⟨rfl, rfl⟩
    · refine ⟨?_, rfl⟩
      simp only [Tst.ok, decide_eq_true_eq]
      omega
theorem call_leaf (n : Nat) (c : Int) (m : Mem) : call T.P (n + 1) 200 [.int c] m = .ok (leaf c).T m := by
  rw [call_fn (f := 200) (np := 1) (nl := 1) (b := b_200) rfl n _ m rfl]
  have h1 := Int.emod_nonneg c (show (6 : Int) ≠ 0 by decide)
  have h2 := Int.emod_lt_of_pos c (show (0 : Int) < 6 by decide)
  unfold leaf
  by_cases h4 : c % 6 = 4
  · simp [b_200, start, h4, Tst.T]
  · by_cases h5 : c % 6 = 5
    · simp [b_200, start, h5, Tst.T]
    · have e : c % 6 = (((c % 6).toNat : Nat) : Int) := by omega
      have hi : (c % 6).toNat < 4 := by omega
      have hp := abcd _ hi
      rw [if_neg h4, if_neg h5]
      generalize (c % 6).toNat = i at *
      simp [b_200, start, h4, h5]
      have k4 : ¬ (i : Int) = 4 := by omega
      have k5 : ¬ (i : Int) = 5 := by omega
      simp [e, k4, k5, hp, Tst.T]
/-- what one number does to the stack -/
def bodyS : Ss := (.cons (.set 3 (.op .mod (.var 2) (.cst (.int 8))))
 (.cons (.ifs (.or (.cmp .lt (.var 3) (.cst (.int 4))) (.and (.cmp .gt (.var 3) (.cst (.int 5))) (.cmp .eq (.bi .len (.cons (.var 1) .nil)) (.cst (.int 1)))))
 (.cons (.ex (.bm (.var 1) .append (.cons (.call 200 (.cons (.op .fdiv (.var 2) (.cst (.int 8))) .nil)) .nil)))
 .nil)
 (.cons (.ifs (.cmp .eq (.var 3) (.cst (.int 4)))
 (.cons (.ex (.bm (.var 1) .append (.cons (.tup (.cons (.cst (.str [110, 111, 116])) (.cons (.bm (.var 1) .pop .nil) .nil))) .nil)))
 .nil)
 (.cons (.ifs (.cmp .eq (.var 3) (.cst (.int 5)))
 (.cons (.ex (.bm (.var 1) .append (.cons (.tup (.cons (.idx (.lst (.cons (.cst (.str [98, 111, 116, 104])) (.cons (.cst (.str [101, 105, 116, 104, 101, 114])) .nil))) (.op .mod (.op .fdiv (.var 2) (.cst (.int 8))) (.cst (.int 2)))) (.cons (.idx (.var 1) (.neg (.cst (.int 1)))) (.cons (.bm (.var 1) .pop .nil) .nil)))) .nil)))
 .nil)
 (.cons (.set 4 (.bm (.var 1) .pop .nil))
 (.cons (.ex (.bm (.var 1) .append (.cons (.tup (.cons (.idx (.lst (.cons (.cst (.str [98, 111, 116, 104])) (.cons (.cst (.str [101, 105, 116, 104, 101, 114])) .nil))) (.op .sub (.var 3) (.cst (.int 6)))) (.cons (.bm (.var 1) .pop .nil) (.cons (.var 4) .nil)))) .nil)))
 .nil)))
 .nil))
 .nil))
 .nil))
theorem snoc {α : Type} {l : List α} (h : l ≠ []) : ∃ r x, l = r ++ [x] := ⟨l.dropLast, l.getLast h, (List.dropLast_concat_getLast h).symm⟩
def good (L : List Tst) (H : Nat) : Prop := ∀ t ∈ L, t.ok = true ∧ t.ht ≤ H
theorem good_push {L : List Tst} {x : Tst} {H : Nat} (h : good L H) (hx : x.ok = true) (hh : x.ht ≤ H) : good (L ++ [x]) H := by
  intro t ht
  rcases List.mem_append.mp ht with h1 | h1
  · exact h t h1
  · rw [List.mem_singleton.mp h1]; exact ⟨hx, hh⟩
theorem good_up {L : List Tst} {H K : Nat} (h : good L H) (hk : H ≤ K) : good L K := fun t ht => ⟨(h t ht).1, Nat.le_trans (h t ht).2 hk⟩
theorem good_pre {L R : List Tst} {H : Nat} (h : good (L ++ R) H) : good L H := fun t ht => h t (List.mem_append_left _ ht)
theorem good_last {L : List Tst} {x : Tst} {H : Nat} (h : good (L ++ [x]) H) : x.ok = true ∧ x.ht ≤ H := h x (List.mem_append_right _ (List.mem_singleton_self x))
theorem run_bodyS (n : Nat) (c : Int) (m : Mem) (v0 a b : Option D) (L : List Tst) (H k : Nat) (u : Mem) (hL : L ≠ []) (hk : L.length + H ≤ k + 1) (hlim : k < 1000) (hg : good L H) :
    ∃ L' H' u' a' b', execSs (ctx T.P (call T.P (n + 1)) (call T.P n)) bodyS [v0, some (.ref m.length), some (.int c), a, b] (m ++ .lst (L.map Tst.T) :: u) = .nx [v0, some (.ref m.length), some (.int c), a', b'] (m ++ .lst (L'.map Tst.T) :: u') ∧
      L' ≠ [] ∧ L'.length + H' ≤ k + 2 ∧ good L' H' := by
  have h1 := Int.emod_nonneg c (show (8 : Int) ≠ 0 by decide)
  have h2 := Int.emod_lt_of_pos c (show (0 : Int) < 8 by decide)
  have hl := leaf_ok (c / 8)
  have hc := fun m => call_leaf n (c / 8) m
  have hlen : L.length < 1002 := by omega
  have hlt : L.length < LIM := by simp only [LIM]; omega
  have hle : L.length ≤ LIM := by simp only [LIM]; omega
  generalize leaf (c / 8) = lf at *
  generalize hw : c % 8 = w at *
  by_cases hA : w < 4 ∨ (w > 5 ∧ L.length = 1)
  · refine ⟨L ++ [lf], H, u, some (.int w), b, ?_, by simp, by simp only [List.length_append, List.length_singleton]; omega, good_push hg hl.1 (by omega)⟩
    rcases hA with hA | ⟨hA, hB⟩
    · simp [bodyS, hw, hA, hc, hlt]
    · have hA' : ¬ w < 4 := by omega
      simp [bodyS, hw, hA, hA', hc, hB]
  · obtain ⟨r, x, rfl⟩ := snoc hL
    have gx := good_last hg
    have gr := good_pre hg
    simp only [List.length_append, List.length_singleton] at *
    have hrl : r.length < LIM := by simp only [LIM]; omega
    have hcw : w = 4 ∨ w = 5 ∨ w = 6 ∨ w = 7 := by omega
    have hd : c / 8 % 2 = 0 ∨ c / 8 % 2 = 1 := by omega
    rcases hcw with rfl | rfl | hcw
    · refine ⟨r ++ [.not x], H + 1, u, some (.int 4), b, ?_, by simp, by simp only [List.length_append, List.length_singleton]; omega, good_push (good_up gr (by omega)) (by simp [Tst.ok, gx]) (by simp only [Tst.ht]; omega)⟩
      simp [bodyS, hw, hrl, Tst.T]
    · rcases hd with hd | hd
      · refine ⟨r ++ [.both x x], H + 1, u ++ [.lst [.str [98, 111, 116, 104], .str [101, 105, 116, 104, 101, 114]]], some (.int 5), b, ?_, by simp, by simp only [List.length_append, List.length_singleton]; omega, good_push (good_up gr (by omega)) (by simp [Tst.ok, gx]) (by simp only [Tst.ht]; omega)⟩
        simp [bodyS, hw, hd, hrl, Tst.T]
      · refine ⟨r ++ [.either x x], H + 1, u ++ [.lst [.str [98, 111, 116, 104], .str [101, 105, 116, 104, 101, 114]]], some (.int 5), b, ?_, by simp, by simp only [List.length_append, List.length_singleton]; omega, good_push (good_up gr (by omega)) (by simp [Tst.ok, gx]) (by simp only [Tst.ht]; omega)⟩
        simp [bodyS, hw, hd, hrl, Tst.T]
    · have hr : r ≠ [] := by
        intro h
        subst h
        simp at hA
        omega
      obtain ⟨q, y, rfl⟩ := snoc hr
      have gy := good_last gr
      have gq := good_pre gr
      simp only [List.length_append, List.length_singleton] at *
      have hql : q.length < LIM := by simp only [LIM]; omega
      have hne : ¬ ((q.length : Int) + 2 = 1) := by omega
      rcases hcw with rfl | rfl
      · refine ⟨q ++ [.both y x], H + 1, u ++ [.lst [.str [98, 111, 116, 104], .str [101, 105, 116, 104, 101, 114]]], some (.int 6), some x.T, ?_, by simp, by simp only [List.length_append, List.length_singleton]; omega, good_push (good_up gq (by omega)) (by simp [Tst.ok, gx, gy]) (by simp only [Tst.ht]; omega)⟩
        simp [bodyS, hw, hql, hne, Tst.T]
      · refine ⟨q ++ [.either y x], H + 1, u ++ [.lst [.str [98, 111, 116, 104], .str [101, 105, 116, 104, 101, 114]]], some (.int 7), some x.T, ?_, by simp, by simp only [List.length_append, List.length_singleton]; omega, good_push (good_up gq (by omega)) (by simp [Tst.ok, gx, gy]) (by simp only [Tst.ht]; omega)⟩
        simp [bodyS, hw, hql, hne, Tst.T]
/-- the stack is folded up -/
def condW : E := (.cmp .gt (.bi .len (.cons (.var 1) .nil)) (.cst (.int 1)))
def bodyW : Ss := (.cons (.set 4 (.bm (.var 1) .pop .nil))
 (.cons (.ex (.bm (.var 1) .append (.cons (.tup (.cons (.idx (.lst (.cons (.cst (.str [98, 111, 116, 104])) (.cons (.cst (.str [101, 105, 116, 104, 101, 114])) .nil))) (.op .mod (.bi .len (.cons (.var 1) .nil)) (.cst (.int 2)))) (.cons (.bm (.var 1) .pop .nil) (.cons (.var 4) .nil)))) .nil)))
 .nil))
theorem whLoop_go {c : Sto → Mem → Res D} {body : Sto → Mem → SR} {k : Nat} {σ σ2 : Sto} {m m1 m2 : Mem} (h1 : c σ m = .ok (.bl true) m1) (h2 : body σ m1 = .nx σ2 m2) : whLoop c body (k + 1) σ m = whLoop c body k σ2 m2 := by
  simp only [whLoop, h1, Res.toS, h2]
theorem whLoop_end {c : Sto → Mem → Res D} {body : Sto → Mem → SR} {k : Nat} {σ : Sto} {m m1 : Mem} (h1 : c σ m = .ok (.bl false) m1) : whLoop c body (k + 1) σ m = .nx σ m1 := by
  simp only [whLoop, h1, Res.toS]
theorem run_while (C : Ctx) (m : Mem) (v0 v2 v3 : Option D) : ∀ (d : Nat) (L : List Tst) (H K k : Nat) (u : Mem) (b : Option D), L.length = d + 1 → d < k → L.length + H ≤ K → K < 1000 → good L H →
    ∃ t u' b', whLoop (evalE C condW) (execSs C bodyW) k [v0, some (.ref m.length), v2, v3, b] (m ++ .lst (L.map Tst.T) :: u) = .nx [v0, some (.ref m.length), v2, v3, b'] (m ++ .lst [Tst.T t] :: u') ∧ t.ok = true ∧ t.ht + 1 ≤ K
  | 0, L, H, K, k, u, b, h1, h2, h3, h4, hg => by
    obtain ⟨t, rfl⟩ := List.length_eq_one_iff.mp h1
    obtain ⟨k, rfl⟩ : ∃ j, k = j + 1 := ⟨k - 1, by omega⟩
    have g := hg t (List.mem_singleton_self t)
    simp only [List.length_singleton] at h3
    refine ⟨t, u, b, ?_, g.1, by omega⟩
    rw [whLoop_end (m1 := m ++ .lst ([t].map Tst.T) :: u) (by simp [condW])]
    rfl
  | d + 1, L, H, K, k, u, b, h1, h2, h3, h4, hg => by
    obtain ⟨k, rfl⟩ : ∃ j, k = j + 1 := ⟨k - 1, by omega⟩
    obtain ⟨r, x, rfl⟩ := snoc (l := L) (by intro h; subst h; simp at h1)
    have gx := good_last hg
    have gr := good_pre hg
    simp only [List.length_append, List.length_singleton] at *
    obtain ⟨q, y, rfl⟩ := snoc (l := r) (by intro h; subst h; simp at h1)
    have gy := good_last gr
    have gq := good_pre gr
    simp only [List.length_append, List.length_singleton] at *
    have hql : q.length < LIM := by simp only [LIM]; omega
    have hgt : (1 : Int) < (q.length : Int) + 1 + 1 := by omega
    have hc : evalE C condW [v0, some (.ref m.length), v2, v3, b] (m ++ .lst ((q ++ [y] ++ [x]).map Tst.T) :: u) = .ok (.bl true) (m ++ .lst ((q ++ [y] ++ [x]).map Tst.T) :: u) := by
      simp [condW]
      omega
    have hp : ((q.length : Int) + 1) % 2 = 0 ∨ ((q.length : Int) + 1) % 2 = 1 := by omega
    rcases hp with hp | hp
    · rw [whLoop_go (m2 := m ++ .lst ((q ++ [Tst.both y x]).map Tst.T) :: (u ++ [.lst [.str [98, 111, 116, 104], .str [101, 105, 116, 104, 101, 114]]])) (σ2 := [v0, some (.ref m.length), v2, v3, some x.T]) hc (by simp [bodyW, hql, hp, Tst.T])]
      exact run_while C m v0 v2 v3 d _ (H + 1) K k _ _ (by simp; omega) (by omega) (by simp; omega) h4 (good_push (good_up gq (by omega)) (by simp [Tst.ok, gx, gy]) (by simp only [Tst.ht]; omega))
    · rw [whLoop_go (m2 := m ++ .lst ((q ++ [Tst.either y x]).map Tst.T) :: (u ++ [.lst [.str [98, 111, 116, 104], .str [101, 105, 116, 104, 101, 114]]])) (σ2 := [v0, some (.ref m.length), v2, v3, some x.T]) hc (by simp [bodyW, hql, hp, Tst.T])]
      exact run_while C m v0 v2 v3 d _ (H + 1) K k _ _ (by simp; omega) (by omega) (by simp; omega) h4 (good_push (good_up gq (by omega)) (by simp [Tst.ok, gx, gy]) (by simp only [Tst.ht]; omega))
/-- a test is told -/
theorem call_tree (n : Nat) (hn : 2 ≤ n) (ns : List Int) (hl : ns.length ≤ 63) (m : Mem) (r : Nat) (hr : m[r]? = some (.lst (ns.map .int))) :
    ∃ t u, call T.P n 201 [.ref r] m = .ok (Tst.T t) (m ++ u) ∧ t.ok = true ∧ t.ht ≤ ns.length + 1 := by
  obtain ⟨n, rfl⟩ : ∃ j, n = j + 2 := ⟨n - 2, by omega⟩
  rw [call_fn (f := 201) (np := 1) (nl := 5) (b := b_201) rfl (n + 1) _ m rfl]
  have hrl : r < m.length := (List.getElem?_eq_some_iff.mp hr).1
  have hru : ∀ u, (m ++ u)[r]? = some (.lst (ns.map .int)) := fun u => by rw [List.getElem?_append_left hrl, hr]
  have h4 := leaf_ok ((ns.length : Int) % 4)
  have c4 := fun m => call_leaf n ((ns.length : Int) % 4) m
  generalize leaf ((ns.length : Int) % 4) = lf at *
  obtain ⟨σ', m', g1, L, H, u, a, b, e1, e2, g2, g3, g4⟩ := frLoop_inv (g := [(r, .lst (ns.map .int))]) (tg := .nm 2) (body := execSs (ctx T.P (call T.P (n + 1)) (call T.P n)) bodyS)
    (fun k σ m' => ∃ L H u a b, m' = m ++ .lst (L.map Tst.T) :: u ∧ (∃ v2, σ = [some (.ref r), some (.ref m.length), v2, a, b]) ∧ L ≠ [] ∧ L.length + H ≤ k + 1 ∧ good L H) (ns.map .int) 0 [some (.ref r), some (.ref m.length), none, none, none] (m ++ [.lst [lf.T]])
    ⟨[lf], 0, [], none, none, rfl, ⟨none, rfl⟩, by simp, by simp, fun t ht => by rw [List.mem_singleton.mp ht]; exact ⟨h4.1, by omega⟩⟩
    (fun i σ m' ⟨L, H, u, a, b, h, _⟩ => by
      subst h
      simp [hru])
    (fun i d σ m' hd ⟨L, H, u, a, b, h, ⟨v2, hs⟩, k1, k2, k3⟩ => by
      subst h hs
      have hi : i < ns.length := by
        have := (List.getElem?_eq_some_iff.mp hd).1
        simpa using this
      rw [List.getElem?_map] at hd
      obtain ⟨c, hc, rfl⟩ := Option.map_eq_some_iff.mp hd
      refine ⟨[some (.ref r), some (.ref m.length), some (.int c), a, b], by simp, ?_⟩
      obtain ⟨L', H', u', a', b', f1, f2, f3, f4⟩ := run_bodyS n c m (some (.ref r)) a b L H (0 + i) u k1 k2 (by omega) k3
      exact ⟨_, _, f1, L', H', u', a', b', rfl, ⟨_, rfl⟩, f2, by omega, f4⟩)
  obtain ⟨v2, e2⟩ := e2
  subst e1 e2
  simp only [List.length_map] at g3
  obtain ⟨t, u', b', f1, f2, f3⟩ := run_while (ctx T.P (call T.P (n + 1)) (call T.P n)) m (some (.ref r)) v2 a (L.length - 1) L H (0 + ns.length + 1) 4000 u b (by have := List.length_pos_iff.mpr g2; omega) (by omega) g3 (by omega) g4
  refine ⟨t, .lst [t.T] :: u', ?_, f2, by omega⟩
  have hb : b_201 = .cons (.set 1 (.lst (.cons (.call 200 (.cons (.op .mod (.bi .len (.cons (.var 0) .nil)) (.cst (.int 4))) .nil)) .nil))) (.cons (.frs (.nm 2) (.seq (.var 0)) bodyS) (.cons (.whl condW bodyW) (.cons (.ret (.idx (.var 1) (.cst (.int 0)))) .nil))) := rfl
  have hf : T.P.fuel = 4000 := rfl
  rw [hb]
  simp [start, hr, hru, c4, g1, hf, f1]
theorem eqD_ne (a b : Tst) (ha : a.ok = true) (hb : b.ok = true) (h1 : a.ht < 60) (h2 : b.ht < 60) (m : Mem) : cmp2 .ne a.T b.T m = some (!decide (a = b)) := by
  show (eqD m a.T b.T).map (!·) = _
  rw [Tst.eqD_T a b ha hb h1 h2]
  rfl
def size : Tst → Int
  | .not t => 1 + size t
  | .both a b | .either a b => 1 + size a + size b
  | _ => 1
theorem call_size : ∀ (t : Tst) (n : Nat), t.ht < n → ∀ m, call T.P n 202 [t.T] m = .ok (.int (size t)) m
  | .yes, n + 1, _, m | .no, n + 1, _, m | .nam _, n + 1, _, m => by
    rw [call_fn (f := 202) (np := 1) (nl := 1) (b := b_202) rfl n _ m rfl]
    simp [b_202, start, Tst.T, size]
  | .not t, n + 1, h, m => by
    have ih := call_size t n (by simpa [Tst.ht] using h)
    rw [call_fn (f := 202) (np := 1) (nl := 1) (b := b_202) rfl n _ m rfl]
    simp [b_202, start, Tst.T, size, ih]
  | .both a b, n + 1, h, m => by
    simp only [Tst.ht] at h
    have iha := call_size a n (by omega)
    have ihb := call_size b n (by omega)
    rw [call_fn (f := 202) (np := 1) (nl := 1) (b := b_202) rfl n _ m rfl]
    simp [b_202, start, Tst.T, size, iha, ihb]
  | .either a b, n + 1, h, m => by
    simp only [Tst.ht] at h
    have iha := call_size a n (by omega)
    have ihb := call_size b n (by omega)
    rw [call_fn (f := 202) (np := 1) (nl := 1) (b := b_202) rfl n _ m rfl]
    simp [b_202, start, Tst.T, size, iha, ihb]
theorem call_made : ∀ (t : Tst) (n : Nat), t.ok = true → t.ht < 60 → t.ht + 2 < n → ∀ m, call T.P n 203 [t.T] m = .ok t.D m
  | .yes, n + 3, _, _, _, m | .no, n + 3, _, _, _, m | .nam _, n + 3, _, _, _, m => by
    rw [call_fn (f := 203) (np := 1) (nl := 3) (b := b_203) rfl (n + 2) _ m rfl]
    first
      | (simp [b_203, start, Tst.T, mk_yes hC]; done)
      | (simp [b_203, start, Tst.T, mk_no hC]; done)
      | (simp [b_203, start, Tst.T, mk_nam hC]; done)
  | .not t, n + 2, ho, h6, h, m => by
    simp only [Tst.ht] at h h6
    have ih := call_made t (n + 1) (by simpa [Tst.ok] using ho) (by omega) (by omega)
    obtain ⟨n, rfl⟩ : ∃ j, n = j + 1 := ⟨n - 1, by omega⟩
    rw [call_fn (f := 203) (np := 1) (nl := 3) (b := b_203) rfl (n + 2) _ m rfl]
    simp [b_203, start, Tst.T, ih, mk_not hC]
  | .both a b, n + 2, ho, h6, h, m => by
    simp only [Tst.ht] at h h6
    simp only [Tst.ok, Bool.and_eq_true] at ho
    have iha := call_made a (n + 1) ho.1 (by omega) (by omega)
    have ihb := call_made b (n + 1) ho.2 (by omega) (by omega)
    have he := eqD_ne a b ho.1 ho.2 (by omega) (by omega)
    obtain ⟨n, rfl⟩ : ∃ j, n = j + 1 := ⟨n - 1, by omega⟩
    rw [call_fn (f := 203) (np := 1) (nl := 3) (b := b_203) rfl (n + 2) _ m rfl]
    by_cases hab : a = b
    · subst hab
      simp [b_203, start, Tst.T, iha, he, mk_both hC]
    · simp [b_203, start, Tst.T, iha, ihb, he, hab, mk_both hC]
  | .either a b, n + 2, ho, h6, h, m => by
    simp only [Tst.ht] at h h6
    simp only [Tst.ok, Bool.and_eq_true] at ho
    have iha := call_made a (n + 1) ho.1 (by omega) (by omega)
    have ihb := call_made b (n + 1) ho.2 (by omega) (by omega)
    have he := eqD_ne a b ho.1 ho.2 (by omega) (by omega)
    obtain ⟨n, rfl⟩ : ∃ j, n = j + 1 := ⟨n - 1, by omega⟩
    rw [call_fn (f := 203) (np := 1) (nl := 3) (b := b_203) rfl (n + 2) _ m rfl]
    by_cases hab : a = b
    · subst hab
      simp [b_203, start, Tst.T, iha, he, mk_either hC]
    · simp [b_203, start, Tst.T, iha, ihb, he, hab, mk_either hC]
def lets4 : List (D × D) := [(.str [97], .int 1), (.str [98], .int 2), (.str [99], .int 4), (.str [100], .int 8)]
theorem get4 : ∀ i : Nat, i < 4 → dGet lets4 (.str [97 + i]) = some (.int ((2 ^ i : Nat) : Int)) := by decide
theorem dctE4 (m : Mem) : dctE false m.length lets4 (m ++ [.dct false false []]) = .ok (.ref m.length) (m ++ [.dct false false lets4]) := by
  rw [dctE_new (by decide) (by decide)]
  rfl
theorem call_due : ∀ (t : Tst) (n : Nat), t.ok = true → t.ht < n → ∀ (s : Nat) (m : Mem), ∃ u, call T.P n 204 [t.T, .int (s : Int)] m = .ok (.bl (t.holds s)) (m ++ u)
  | .yes, n + 1, _, _, s, m => ⟨[], by
    rw [call_fn (f := 204) (np := 2) (nl := 2) (b := b_204) rfl n _ m rfl]
    simp [b_204, start, Tst.T, Tst.holds]⟩
  | .no, n + 1, _, _, s, m => ⟨[], by
    rw [call_fn (f := 204) (np := 2) (nl := 2) (b := b_204) rfl n _ m rfl]
    simp [b_204, start, Tst.T, Tst.holds]⟩
  | .nam i, n + 1, ho, _, s, m => ⟨[.dct false false lets4], by
    rw [call_fn (f := 204) (np := 2) (nl := 2) (b := b_204) rfl n _ m rfl]
    have hi : i < 4 := by simpa [Tst.ok] using ho
    have hd := dctE4 m
    have hg := get4 i hi
    have hlt : ((2 ^ i : Nat) : Int) < 1073741824 := by
      have : i = 0 ∨ i = 1 ∨ i = 2 ∨ i = 3 := by omega
      rcases this with rfl | rfl | rfl | rfl <;> decide
    have hpos : (0 : Int) < ((2 ^ i : Nat) : Int) := by have := Nat.two_pow_pos i; omega
    have hb : ((s : Int) / ((2 ^ i : Nat) : Int) % 2 = 1) ↔ s.testBit i = true := by
      rw [Nat.testBit_eq_decide_div_mod_eq, decide_eq_true_eq]
      have : (s : Int) / ((2 ^ i : Nat) : Int) % 2 = ((s / 2 ^ i % 2 : Nat) : Int) := by simp only [Int.natCast_emod, Int.natCast_ediv]; rfl
      rw [this]
      omega
    unfold lets4 at hd hg
    generalize ((2 ^ i : Nat) : Int) = p at *
    simp [b_204, start, Tst.T, hd, hg, keyOk, isKeyT, op_fdiv hpos hlt, Tst.holds, lets4, hb]⟩
  | .not t, n + 1, ho, h, s, m => by
    obtain ⟨u, ih⟩ := call_due t n (by simpa [Tst.ok] using ho) (by simpa [Tst.ht] using h) s m
    refine ⟨u, ?_⟩
    rw [call_fn (f := 204) (np := 2) (nl := 2) (b := b_204) rfl n _ m rfl]
    simp [b_204, start, Tst.T, ih, Tst.holds]
  | .both a b, n + 1, ho, h, s, m => by
    simp only [Tst.ht] at h
    simp only [Tst.ok, Bool.and_eq_true] at ho
    obtain ⟨u, iha⟩ := call_due a n ho.1 (by omega) s m
    obtain ⟨w, ihb⟩ := call_due b n ho.2 (by omega) s (m ++ u)
    cases ha : a.holds s with
    | false =>
      refine ⟨u, ?_⟩
      rw [call_fn (f := 204) (np := 2) (nl := 2) (b := b_204) rfl n _ m rfl]
      simp [b_204, start, Tst.T, iha, Tst.holds, ha]
    | true =>
      refine ⟨u ++ w, ?_⟩
      rw [call_fn (f := 204) (np := 2) (nl := 2) (b := b_204) rfl n _ m rfl]
      simp [b_204, start, Tst.T, iha, ihb, Tst.holds, ha]
  | .either a b, n + 1, ho, h, s, m => by
    simp only [Tst.ht] at h
    simp only [Tst.ok, Bool.and_eq_true] at ho
    obtain ⟨u, iha⟩ := call_due a n ho.1 (by omega) s m
    obtain ⟨w, ihb⟩ := call_due b n ho.2 (by omega) s (m ++ u)
    cases ha : a.holds s with
    | true =>
      refine ⟨u, ?_⟩
      rw [call_fn (f := 204) (np := 2) (nl := 2) (b := b_204) rfl n _ m rfl]
      simp [b_204, start, Tst.T, iha, Tst.holds, ha]
    | false =>
      refine ⟨u ++ w, ?_⟩
      rw [call_fn (f := 204) (np := 2) (nl := 2) (b := b_204) rfl n _ m rfl]
      simp [b_204, start, Tst.T, iha, ihb, Tst.holds, ha]
theorem call_one (t : Tst) (n : Nat) (m : Mem) : ∃ u, call T.P (n + 1) 205 [t.D] m = .ok (.bl true) (m ++ u) := by
  rw [call_fn (f := 205) (np := 1) (nl := 3) (b := b_205) rfl n _ m rfl]
  have h0 : ∀ c, c ∈ [1, 2, 3, 4, 6, 7] → T.P.sub c 0 = true := by decide
  have h1 : ∀ c, c ∈ [1, 2, 3, 4, 6, 7] → ∀ d, d ∈ [1, 2, 3, 4, 6, 7] → T.P.sub c d = decide (c = d) := by decide
  simp at h0 h1
  cases t <;> exact ⟨_, by simp [b_205, start, h0, h1, Tst.cls, lcLoop_c, lcLoop_n]; rfl⟩
/-- its fields hold as its parts do -/
theorem call_fields (t : Tst) (n : Nat) (ho : t.ok = true) (hn : t.ht < n) (s : Nat) (m : Mem) : ∃ u, call T.P (n + 1) 206 [t.D, t.T, .int (s : Int)] m = .ok (.bl true) (m ++ u) := by
  have h1 : ∀ c, c ∈ [1, 2, 3, 4, 6, 7] → ∀ d, d ∈ [1, 2, 3, 4, 6, 7] → T.P.sub c d = decide (c = d) := by decide
  simp at h1
  rw [call_fn (f := 206) (np := 3) (nl := 4) (b := b_206) rfl n _ m rfl]
  cases t with
  | yes => exact ⟨[], by simp [b_206, start, Tst.T, Tst.D, h1]⟩
  | no => exact ⟨[], by simp [b_206, start, Tst.T, Tst.D, h1]⟩
  | nam i => exact ⟨[], by simp [b_206, start, Tst.T, Tst.D, h1, hT.d3]⟩
  | not t =>
    obtain ⟨u, hu⟩ := call_due t n (by simpa [Tst.ok] using ho) (by simp only [Tst.ht] at hn; omega) s m
    have hh := fun m => call_holds hT t (by simpa [Tst.ok] using ho) n (by simp only [Tst.ht] at hn; omega) s m
    exact ⟨u, by simp [b_206, start, Tst.T, Tst.D, h1, hT.d4, hT.mh, hh, hu]⟩
  | both a b =>
    simp only [Tst.ok, Bool.and_eq_true] at ho
    simp only [Tst.ht] at hn
    obtain ⟨u, hu⟩ := call_due a n ho.1 (by omega) s m
    obtain ⟨w, hw⟩ := call_due b n ho.2 (by omega) s (m ++ u)
    have ha := fun m => call_holds hT a ho.1 n (by omega) s m
    have hb := fun m => call_holds hT b ho.2 n (by omega) s m
    exact ⟨u ++ w, by simp [b_206, start, Tst.T, Tst.D, h1, hT.d6, hT.mh, ha, hb, hu, hw]⟩
  | either a b =>
    simp only [Tst.ok, Bool.and_eq_true] at ho
    simp only [Tst.ht] at hn
    obtain ⟨u, hu⟩ := call_due a n ho.1 (by omega) s m
    obtain ⟨w, hw⟩ := call_due b n ho.2 (by omega) s (m ++ u)
    have ha := fun m => call_holds hT a ho.1 n (by omega) s m
    have hb := fun m => call_holds hT b ho.2 n (by omega) s m
    exact ⟨u ++ w, by simp [b_206, start, Tst.T, Tst.D, h1, hT.d7, hT.mh, ha, hb, hu, hw]⟩
def body4 : Ss := (.cons (.set 5 (.meth (.var 2) 0 (.cons (.var 4) .nil)))
 (.cons (.ifs (.or (.not (.isi (.var 5) [.bool])) (.cmp .ne (.var 5) (.call 204 (.cons (.var 1) (.cons (.var 4) .nil)))))
 (.cons (.ret (.cst (.bl false)))
 .nil)
 .nil)
 (.cons (.ifs (.not (.call 206 (.cons (.var 2) (.cons (.var 1) (.cons (.var 4) .nil)))))
 (.cons (.ret (.cst (.bl false)))
 .nil)
 .nil)
 .nil)))
theorem run_body4 (t : Tst) (ho : t.ok = true) (hh : t.ht < 100) (s : Nat) (m : Mem) (v0 v3 v5 : Option D) :
    ∃ a u, execSs (ctx T.P (call T.P 229) (call T.P 228)) body4 [v0, some t.T, some t.D, v3, some (.int (s : Int)), v5] m = .nx [v0, some t.T, some t.D, v3, some (.int (s : Int)), a] (m ++ u) := by
  obtain ⟨u, hu⟩ := call_due t 229 ho (by omega) s m
  obtain ⟨w, hw⟩ := call_fields t 228 ho (by omega) s (m ++ u)
  have h := fun m => call_holds hT t ho 229 (by omega) s m
  exact ⟨_, u ++ w, by simp [body4, hT.mh, h, hu, hw]; rfl⟩
theorem loop4 (t : Tst) (ho : t.ok = true) (hh : t.ht < 100) (m : Mem) (v0 v3 v4 v5 : Option D) :
    ∃ b a u, frLoop [] (.nm 4) (execSs (ctx T.P (call T.P 229) (call T.P 228)) body4) (rngL 0 16) [v0, some t.T, some t.D, v3, v4, v5] m = .nx [v0, some t.T, some t.D, v3, b, a] (m ++ u) := by
  have e : rngL 0 16 = (List.range 16).map fN := rng_eq 16
  rw [e]
  obtain ⟨σ', m', g1, b, a, u, g2, g3⟩ := frLoop_inv (g := []) (tg := .nm 4) (body := execSs (ctx T.P (call T.P 229) (call T.P 228)) body4)
    (fun _ σ m' => ∃ b a u, σ = [v0, some t.T, some t.D, v3, b, a] ∧ m' = m ++ u) ((List.range 16).map fN) 0 [v0, some t.T, some t.D, v3, v4, v5] m ⟨v4, v5, [], rfl, by simp⟩ (fun _ _ _ _ => rfl)
    (fun i d σ m' hd ⟨b, a, u, hs, hm⟩ => by
      subst hs hm
      rw [List.getElem?_map] at hd
      obtain ⟨c, hc, rfl⟩ := Option.map_eq_some_iff.mp hd
      have e0 : fN c = .int (c : Int) := by unfold fN; rw [Int.zero_add]
      refine ⟨[v0, some t.T, some t.D, v3, some (.int (c : Int)), a], by simp [e0], ?_⟩
      obtain ⟨a', w, hw⟩ := run_body4 t ho hh c (m ++ u) v0 v3 a
      exact ⟨_, _, hw, _, a', u ++ w, rfl, by simp⟩)
  subst g2 g3
  exact ⟨b, a, u, g1⟩
theorem pure_law (ns : List Int) (h : ns.length ≤ 63) : ∃ m, call T.P 230 207 [.rol (ns.map .int)] [] = .ok (.bl true) m := by
  rw [call_fn (f := 207) (np := 1) (nl := 6) (b := b_207) rfl 229 _ [] rfl]
  have cutm : ∀ k : Nat, cut (ns.map D.int) none (some (k : Int)) = (ns.take k).map .int := by
    intro k
    have : ¬ ((k : Int) < 0) := by omega
    simp [cut, sIx, this, List.map_take]
  have c11 := cutm 11
  have c3 := cutm 3
  simp only [Int.cast_ofNat_Int] at c11 c3
  obtain ⟨t, u, t1, t2, t3⟩ := call_tree 229 (by omega) (ns.take 11) (by rw [List.length_take]; omega) ([] ++ [.lst ((ns.take 11).map .int)]) 0 rfl
  have hfin : ∀ (t : Tst) (u : Mem), t.ok = true → t.ht < 50 → ∃ m, fin (execSs (ctx T.P (call T.P 229) (call T.P 228)) (.cons (.set 2 (.call 203 (.cons (.var 1) .nil)))
 (.cons (.ifs (.not (.call 205 (.cons (.var 2) .nil)))
 (.cons (.ret (.cst (.bl false)))
 .nil)
 .nil)
 (.cons (.frs (.nm 3) (.rng (.cst (.int 0)) (.cst (.int 2)))
 (.cons (.frs (.nm 4) (.rng (.cst (.int 0)) (.cst (.int 16))) body4)
 .nil))
 (.cons (.ret (.cst (.bl true)))
 .nil)))) [some (.rol (ns.map .int)), some t.T, none, none, none, none] u) = .ok (.bl true) m := by
    intro t u k1 k2
    have d1 := call_made t 229 k1 (by omega) (by omega) u
    obtain ⟨w, d2⟩ := call_one t 228 u
    obtain ⟨b1, a1, w1, d3⟩ := loop4 t k1 (by omega) (u ++ w) (some (.rol (ns.map .int))) (some (.int 0)) none none
    obtain ⟨b2, a2, w2, d4⟩ := loop4 t k1 (by omega) (u ++ w ++ w1) (some (.rol (ns.map .int))) (some (.int 1)) b1 a1
    have e2 : rngL 0 2 = [.int 0, .int 1] := by decide
    simp only [List.append_assoc] at d3 d4
    exact ⟨_, by simp [d1, d2, rngOk, e2, frLoop_c, frLoop_n, d3, d4]; rfl⟩
  have hb : b_207 = (.cons (.set 1 (.call 201 (.cons (.slc (.var 0) .none (.some (.cst (.int 11)))) .nil)))
 (.cons (.ifs (.cmp .gt (.call 202 (.cons (.var 1) .nil)) (.cst (.int 40)))
 (.cons (.set 1 (.call 201 (.cons (.slc (.var 0) .none (.some (.cst (.int 3)))) .nil)))
 .nil)
 .nil)
 (.cons (.set 2 (.call 203 (.cons (.var 1) .nil)))
 (.cons (.ifs (.not (.call 205 (.cons (.var 2) .nil)))
 (.cons (.ret (.cst (.bl false)))
 .nil)
 .nil)
 (.cons (.frs (.nm 3) (.rng (.cst (.int 0)) (.cst (.int 2)))
 (.cons (.frs (.nm 4) (.rng (.cst (.int 0)) (.cst (.int 16))) body4)
 .nil))
 (.cons (.ret (.cst (.bl true)))
 .nil)))))) := rfl
  have hs : ∀ (k : Int) (m : Mem), slice (.rol (ns.map .int)) none (some k) m = .ok (.ref m.length) (m ++ [.lst (cut (ns.map D.int) none (some k))]) := fun _ _ => rfl
  have l11 : (ns.take 11).length ≤ 11 := by rw [List.length_take]; omega
  have l3 : (ns.take 3).length ≤ 3 := by rw [List.length_take]; omega
  rw [hb]
  have hz := fun m => call_size t 229 (by omega) m
  simp only [List.nil_append, List.length_singleton, List.length_nil] at t1
  by_cases hbig : 40 < size t
  · obtain ⟨t', u', q1, q2, q3⟩ := call_tree 229 (by omega) (ns.take 3) (by omega) (([MO.lst ((ns.take 11).map .int)] ++ u) ++ [MO.lst ((ns.take 3).map .int)]) ([MO.lst ((ns.take 11).map .int)] ++ u).length (by simp)
    obtain ⟨m', hm⟩ := hfin t' ((([MO.lst ((ns.take 11).map .int)] ++ u) ++ [MO.lst ((ns.take 3).map .int)]) ++ u') q2 (by omega)
    refine ⟨m', ?_⟩
    rw [← hm]
    simp at t1 q1
    generalize (Ss.cons (.set 2 (.call 203 (.cons (.var 1) .nil))) _) = rest
    simp [start, hs, c11, c3, t1, hz, hbig, q1]
  · obtain ⟨m', hm⟩ := hfin t ([MO.lst ((ns.take 11).map .int)] ++ u) t2 (by omega)
    refine ⟨m', ?_⟩
    rw [← hm]
    simp at t1
    generalize (Ss.cons (.set 2 (.call 203 (.cons (.var 1) .nil))) _) = rest
    simp [start, hs, c11, c3, t1, hz, hbig]
end HP

namespace HP
open PySem PySem.Spec PyProof.Rows L2 FS
theorem chk0 : T.chk0 = true := by decide +kernel
theorem s_0 : ("abcd" : Str) = ⟨([97, 98, 99, 100] : List Nat).toArray⟩ := by rfl
theorem s_1 : ("yes" : Str) = ⟨([121, 101, 115] : List Nat).toArray⟩ := by rfl
theorem s_2 : ("no" : Str) = ⟨([110, 111] : List Nat).toArray⟩ := by rfl
theorem s_3 : ("named" : Str) = ⟨([110, 97, 109, 101, 100] : List Nat).toArray⟩ := by rfl
theorem s_4 : ("not" : Str) = ⟨([110, 111, 116] : List Nat).toArray⟩ := by rfl
theorem s_5 : ("both" : Str) = ⟨([98, 111, 116, 104] : List Nat).toArray⟩ := by rfl
theorem s_6 : ("either" : Str) = ⟨([101, 105, 116, 104, 101, 114] : List Nat).toArray⟩ := by rfl
theorem s_7 : ("d" : Str) = ⟨([100] : List Nat).toArray⟩ := by rfl
theorem s_8 : ("c" : Str) = ⟨([99] : List Nat).toArray⟩ := by rfl
theorem s_9 : ("b" : Str) = ⟨([98] : List Nat).toArray⟩ := by rfl
theorem s_10 : ("a" : Str) = ⟨([97] : List Nat).toArray⟩ := by rfl
section
variable {K : PySem.W.Frag}
theorem fn_0 : ("name" : Str) = (T.G K).fnm 0 := rfl
theorem kf_0 (K : PySem.W.Frag) : (T.G K).kf 0 = true := rfl
theorem fn_1 : ("inner" : Str) = (T.G K).fnm 1 := rfl
theorem kf_1 (K : PySem.W.Frag) : (T.G K).kf 1 = true := rfl
theorem fn_2 : ("left" : Str) = (T.G K).fnm 2 := rfl
theorem kf_2 (K : PySem.W.Frag) : (T.G K).kf 2 = true := rfl
theorem fn_3 : ("right" : Str) = (T.G K).fnm 3 := rfl
theorem kf_3 (K : PySem.W.Frag) : (T.G K).kf 3 = true := rfl
theorem mn_0 : ("holds" : Str) = (T.G K).mn 0 := rfl
theorem mnf_0 (K : PySem.W.Frag) : ∀ f, (T.G K).kf f = true → (T.G K).fnm f ≠ (T.G K).mn 0 := mnf_of chk0 rfl
theorem kfn_0 (K : PySem.W.Frag) : (T.G K).kfn 0 = true := rfl
theorem isf_0 : isFn T.P 0 := ⟨_, _, _, rfl⟩
theorem kfn_4 (K : PySem.W.Frag) : (T.G K).kfn 4 = true := rfl
theorem isf_4 : isFn T.P 4 := ⟨_, _, _, rfl⟩
theorem kfn_8 (K : PySem.W.Frag) : (T.G K).kfn 8 = true := rfl
theorem isf_8 : isFn T.P 8 := ⟨_, _, _, rfl⟩
theorem kfn_11 (K : PySem.W.Frag) : (T.G K).kfn 11 = true := rfl
theorem isf_11 : isFn T.P 11 := ⟨_, _, _, rfl⟩
theorem kfn_14 (K : PySem.W.Frag) : (T.G K).kfn 14 = true := rfl
theorem isf_14 : isFn T.P 14 := ⟨_, _, _, rfl⟩
theorem kfn_17 (K : PySem.W.Frag) : (T.G K).kfn 17 = true := rfl
theorem isf_17 : isFn T.P 17 := ⟨_, _, _, rfl⟩
theorem kfn_200 (K : PySem.W.Frag) : (T.G K).kfn 200 = true := rfl
theorem isf_200 : isFn T.P 200 := ⟨_, _, _, rfl⟩
theorem kfn_201 (K : PySem.W.Frag) : (T.G K).kfn 201 = true := rfl
theorem isf_201 : isFn T.P 201 := ⟨_, _, _, rfl⟩
theorem kfn_202 (K : PySem.W.Frag) : (T.G K).kfn 202 = true := rfl
theorem isf_202 : isFn T.P 202 := ⟨_, _, _, rfl⟩
theorem kfn_203 (K : PySem.W.Frag) : (T.G K).kfn 203 = true := rfl
theorem isf_203 : isFn T.P 203 := ⟨_, _, _, rfl⟩
theorem kfn_204 (K : PySem.W.Frag) : (T.G K).kfn 204 = true := rfl
theorem isf_204 : isFn T.P 204 := ⟨_, _, _, rfl⟩
theorem kfn_205 (K : PySem.W.Frag) : (T.G K).kfn 205 = true := rfl
theorem isf_205 : isFn T.P 205 := ⟨_, _, _, rfl⟩
theorem kfn_206 (K : PySem.W.Frag) : (T.G K).kfn 206 = true := rfl
theorem isf_206 : isFn T.P 206 := ⟨_, _, _, rfl⟩
theorem kfn_207 (K : PySem.W.Frag) : (T.G K).kfn 207 = true := rfl
theorem isf_207 : isFn T.P 207 := ⟨_, _, _, rfl⟩
variable {n : Nat} {X : Cx} {W : WX} {C : FS.Ctx}
theorem ci_1 : T.P.cini 1 = some .bare := rfl
theorem ci_2 : T.P.cini 2 = some .bare := rfl
theorem ci_3 : T.P.cini 3 = some (.imm 103) := rfl
theorem ne_3 : T.P.cini 3 ≠ some .bare := by rw [ci_3]; exact nofun
theorem kp_3 (E0 : EnvOk (T.G K) T.P n X W C) : PySem.W.keepIn X.K (.ref ((T.G K).cls 3)) = true := (E0.st.imm 3 103 rfl).1.kp
theorem ci_4 : T.P.cini 4 = some (.imm 104) := rfl
theorem ne_4 : T.P.cini 4 ≠ some .bare := by rw [ci_4]; exact nofun
theorem kp_4 (E0 : EnvOk (T.G K) T.P n X W C) : PySem.W.keepIn X.K (.ref ((T.G K).cls 4)) = true := (E0.st.imm 4 104 rfl).1.kp
theorem ci_6 : T.P.cini 6 = some (.imm 106) := rfl
theorem ne_6 : T.P.cini 6 ≠ some .bare := by rw [ci_6]; exact nofun
theorem kp_6 (E0 : EnvOk (T.G K) T.P n X W C) : PySem.W.keepIn X.K (.ref ((T.G K).cls 6)) = true := (E0.st.imm 6 106 rfl).1.kp
theorem ci_7 : T.P.cini 7 = some (.imm 107) := rfl
theorem ne_7 : T.P.cini 7 ≠ some .bare := by rw [ci_7]; exact nofun
theorem kp_7 (E0 : EnvOk (T.G K) T.P n X W C) : PySem.W.keepIn X.K (.ref ((T.G K).cls 7)) = true := (E0.st.imm 7 107 rfl).1.kp
end
structure Mg (K : PySem.W.Frag) (mg : Str → Option Value) : Prop where
  k_LETTERS : ∃ t, mg "LETTERS" = some (.str "abcd" t)
  g_bool : mg "bool" = none
  g_isinstance : mg "isinstance" = none
  g_len : mg "len" = none
  g_range : mg "range" = none
  c_0 : mg "Test" = some (.ref ((T.G K).cls 0))
  c_1 : mg "Yes" = some (.ref ((T.G K).cls 1))
  c_2 : mg "No" = some (.ref ((T.G K).cls 2))
  c_3 : mg "Named" = some (.ref ((T.G K).cls 3))
  c_4 : mg "Not" = some (.ref ((T.G K).cls 4))
  c_5 : mg "Joined" = some (.ref ((T.G K).cls 5))
  c_6 : mg "Both" = some (.ref ((T.G K).cls 6))
  c_7 : mg "Either" = some (.ref ((T.G K).cls 7))
  f_200 : mg "_law_leaf" = some (.ref ((T.G K).fa 200))
  f_201 : mg "_law_tree" = some (.ref ((T.G K).fa 201))
  f_202 : mg "_law_size" = some (.ref ((T.G K).fa 202))
  f_203 : mg "_law_made" = some (.ref ((T.G K).fa 203))
  f_204 : mg "_law_due" = some (.ref ((T.G K).fa 204))
  f_205 : mg "_law_one_class" = some (.ref ((T.G K).fa 205))
  f_206 : mg "_law_fields" = some (.ref ((T.G K).fa 206))
  f_207 : mg "law" = some (.ref ((T.G K).fa 207))
def fa : List He.Fa := [.str "LETTERS" "abcd", .free "bool", .free "isinstance", .free "len", .free "range", .glo "Test", .glo "Yes", .glo "No", .glo "Named", .glo "Not", .glo "Joined", .glo "Both", .glo "Either", .glo "_law_leaf", .glo "_law_tree", .glo "_law_size", .glo "_law_made", .glo "_law_due", .glo "_law_one_class", .glo "_law_fields", .glo "law"]
def d_0 : He.DefD := ⟨("Test", some "holds"), "holds", "Test.holds", defArgs (inClass (top 3) 0), defBody (inClass (top 3) 0), defScope (inClass (top 3) 0), [], []⟩
def d_4 : He.DefD := ⟨("Yes", some "holds"), "holds", "Yes.holds", defArgs (inClass (top 4) 0), defBody (inClass (top 4) 0), defScope (inClass (top 4) 0), [], []⟩
def d_8 : He.DefD := ⟨("Named", some "holds"), "holds", "Named.holds", defArgs (inClass (top 6) 1), defBody (inClass (top 6) 1), defScope (inClass (top 6) 1), [], []⟩
def d_11 : He.DefD := ⟨("Not", some "holds"), "holds", "Not.holds", defArgs (inClass (top 7) 1), defBody (inClass (top 7) 1), defScope (inClass (top 7) 1), [], []⟩
def d_14 : He.DefD := ⟨("Both", some "holds"), "holds", "Both.holds", defArgs (inClass (top 9) 0), defBody (inClass (top 9) 0), defScope (inClass (top 9) 0), [], []⟩
def d_17 : He.DefD := ⟨("Either", some "holds"), "holds", "Either.holds", defArgs (inClass (top 10) 0), defBody (inClass (top 10) 0), defScope (inClass (top 10) 0), [], []⟩
def d_200 : He.DefD := ⟨("_law_leaf", none), "_law_leaf", "_law_leaf", defArgs (top 12), defBody (top 12), defScope (top 12), [], []⟩
def d_201 : He.DefD := ⟨("_law_tree", none), "_law_tree", "_law_tree", defArgs (top 13), defBody (top 13), defScope (top 13), [], []⟩
def d_202 : He.DefD := ⟨("_law_size", none), "_law_size", "_law_size", defArgs (top 14), defBody (top 14), defScope (top 14), [], []⟩
def d_203 : He.DefD := ⟨("_law_made", none), "_law_made", "_law_made", defArgs (top 15), defBody (top 15), defScope (top 15), [], []⟩
def d_204 : He.DefD := ⟨("_law_due", none), "_law_due", "_law_due", defArgs (top 16), defBody (top 16), defScope (top 16), [], []⟩
def d_205 : He.DefD := ⟨("_law_one_class", none), "_law_one_class", "_law_one_class", defArgs (top 17), defBody (top 17), defScope (top 17), [], []⟩
def d_206 : He.DefD := ⟨("_law_fields", none), "_law_fields", "_law_fields", defArgs (top 18), defBody (top 18), defScope (top 18), [], []⟩
def d_207 : He.DefD := ⟨("law", none), "law", "law", defArgs (top 19), defBody (top 19), defScope (top 19), [], []⟩
def d_103 : He.DefD := ⟨("Named", some "__init__"), "__init__", "Named.__init__", defArgs (inClass (top 6) 0), defBody (inClass (top 6) 0), defScope (inClass (top 6) 0), [], []⟩
def d_104 : He.DefD := ⟨("Not", some "__init__"), "__init__", "Not.__init__", defArgs (inClass (top 7) 0), defBody (inClass (top 7) 0), defScope (inClass (top 7) 0), [], []⟩
def d_106 : He.DefD := ⟨("Both", some "__init__"), "__init__", "Joined.__init__", defArgs (inClass (top 8) 0), defBody (inClass (top 8) 0), defScope (inClass (top 8) 0), [], []⟩
def d_107 : He.DefD := ⟨("Either", some "__init__"), "__init__", "Joined.__init__", defArgs (inClass (top 8) 0), defBody (inClass (top 8) 0), defScope (inClass (top 8) 0), [], []⟩
def fnl : List He.DefD := [d_0, d_4, d_8, d_11, d_14, d_17, d_200, d_201, d_202, d_203, d_204, d_205, d_206, d_207, d_103, d_104, d_106, d_107]
theorem mg_of {K : PySem.W.Frag} {h : Heap} {mg : Str → Option Value} (X : K.In h) (G : h.Ns mainGlobals mg) (c : He.SaysD fa fnl K) : Mg K mg :=
  ⟨He.str_ok X G (c.fact 0 (f := .str "LETTERS" "abcd") rfl),
   He.free_ok X G (c.fact 1 (f := .free "bool") rfl),
   He.free_ok X G (c.fact 2 (f := .free "isinstance") rfl),
   He.free_ok X G (c.fact 3 (f := .free "len") rfl),
   He.free_ok X G (c.fact 4 (f := .free "range") rfl),
   He.glo_ok X G (c.fact 5 (f := .glo "Test") rfl),
   He.glo_ok X G (c.fact 6 (f := .glo "Yes") rfl),
   He.glo_ok X G (c.fact 7 (f := .glo "No") rfl),
   He.glo_ok X G (c.fact 8 (f := .glo "Named") rfl),
   He.glo_ok X G (c.fact 9 (f := .glo "Not") rfl),
   He.glo_ok X G (c.fact 10 (f := .glo "Joined") rfl),
   He.glo_ok X G (c.fact 11 (f := .glo "Both") rfl),
   He.glo_ok X G (c.fact 12 (f := .glo "Either") rfl),
   He.glo_ok X G (c.fact 13 (f := .glo "_law_leaf") rfl),
   He.glo_ok X G (c.fact 14 (f := .glo "_law_tree") rfl),
   He.glo_ok X G (c.fact 15 (f := .glo "_law_size") rfl),
   He.glo_ok X G (c.fact 16 (f := .glo "_law_made") rfl),
   He.glo_ok X G (c.fact 17 (f := .glo "_law_due") rfl),
   He.glo_ok X G (c.fact 18 (f := .glo "_law_one_class") rfl),
   He.glo_ok X G (c.fact 19 (f := .glo "_law_fields") rfl),
   He.glo_ok X G (c.fact 20 (f := .glo "law") rfl)⟩
section
variable {prog : Program} {w : World} {K : PySem.W.Frag} {mg : Str → Option Value} {base : Heap}
theorem sc_0 : FnScope ["self", "setting"] ["self", "setting"] (defScope (inClass (top 3) 0)) := ⟨rfl, rfl, rfl, by decide +kernel, rfl, by decide +kernel, by decide +kernel⟩
theorem w_0 (c : He.SaysD fa fnl K) (M : Mg K mg) : BodyFn prog w K mg base (T.G K) T.P 0 2 2 b_0 := by
  obtain ⟨fd, F⟩ := c.def_ 0 (d := d_0) rfl
  have nd := sc_0.nd
  exact ⟨_, _, _, _, _, fd, _, F, sc_0, (F.bindsN fun _ _ _ _ _ _ us hl => match us, hl with | [_, _], _ => rfl), rfl, rfl, fun n cdv A outer s H E E0 =>
 (ss_cons (ss_ret es_bl)
 ss_nil)⟩
theorem sc_4 : FnScope ["self", "setting"] ["self", "setting"] (defScope (inClass (top 4) 0)) := ⟨rfl, rfl, rfl, by decide +kernel, rfl, by decide +kernel, by decide +kernel⟩
theorem w_4 (c : He.SaysD fa fnl K) (M : Mg K mg) : BodyFn prog w K mg base (T.G K) T.P 4 2 2 b_4 := by
  obtain ⟨fd, F⟩ := c.def_ 1 (d := d_4) rfl
  have nd := sc_4.nd
  exact ⟨_, _, _, _, _, fd, _, F, sc_4, (F.bindsN fun _ _ _ _ _ _ us hl => match us, hl with | [_, _], _ => rfl), rfl, rfl, fun n cdv A outer s H E E0 =>
 (ss_cons (ss_ret es_bl)
 ss_nil)⟩
theorem sc_8 : FnScope ["self", "setting"] ["self", "setting"] (defScope (inClass (top 6) 1)) := ⟨rfl, rfl, rfl, by decide +kernel, rfl, by decide +kernel, by decide +kernel⟩
theorem w_8 (c : He.SaysD fa fnl K) (M : Mg K mg) : BodyFn prog w K mg base (T.G K) T.P 8 2 2 b_8 := by
  obtain ⟨fd, F⟩ := c.def_ 2 (d := d_8) rfl
  have nd := sc_8.nd
  exact ⟨_, _, _, _, _, fd, _, F, sc_8, (F.bindsN fun _ _ _ _ _ _ us hl => match us, hl with | [_, _], _ => rfl), rfl, rfl, fun n cdv A outer s H E E0 =>
 (ss_cons (ss_ret (es_cmp (op_eq.or (op_eqD E0.room.units)) rfl cm_eq (es_band (es_shr (es_var 1) (es_bm (bm' := .find) (k := .s) PySem.F.plainAttrs_str PySem.F.slot_str_find PySem.F.type_str_find mt_find (by decide) bmk_find mo_find (es_gstr rfl M.k_LETTERS s_0) (ea_cons (es_fld E0.st.GO fn_0 (kf_0 _) E0.flds (es_var 0)) ea_nil))) es_int) es_int))
 ss_nil)⟩
theorem sc_11 : FnScope ["self", "setting"] ["self", "setting"] (defScope (inClass (top 7) 1)) := ⟨rfl, rfl, rfl, by decide +kernel, rfl, by decide +kernel, by decide +kernel⟩
theorem w_11 (c : He.SaysD fa fnl K) (M : Mg K mg) : BodyFn prog w K mg base (T.G K) T.P 11 2 2 b_11 := by
  obtain ⟨fd, F⟩ := c.def_ 3 (d := d_11) rfl
  have nd := sc_11.nd
  exact ⟨_, _, _, _, _, fd, _, F, sc_11, (F.bindsN fun _ _ _ _ _ _ us hl => match us, hl with | [_, _], _ => rfl), rfl, rfl, fun n cdv A outer s H E E0 =>
 (ss_cons (ss_ret (es_not (es_meth E0 mn_0 (mnf_0 _) (es_fld E0.st.GO fn_1 (kf_1 _) E0.flds (es_var 0)) (ea_cons (es_var 1) ea_nil))))
 ss_nil)⟩
theorem sc_14 : FnScope ["self", "setting"] ["self", "setting"] (defScope (inClass (top 9) 0)) := ⟨rfl, rfl, rfl, by decide +kernel, rfl, by decide +kernel, by decide +kernel⟩
theorem w_14 (c : He.SaysD fa fnl K) (M : Mg K mg) : BodyFn prog w K mg base (T.G K) T.P 14 2 2 b_14 := by
  obtain ⟨fd, F⟩ := c.def_ 4 (d := d_14) rfl
  have nd := sc_14.nd
  exact ⟨_, _, _, _, _, fd, _, F, sc_14, (F.bindsN fun _ _ _ _ _ _ us hl => match us, hl with | [_, _], _ => rfl), rfl, rfl, fun n cdv A outer s H E E0 =>
 (ss_cons (ss_ret (es_and (es_meth E0 mn_0 (mnf_0 _) (es_fld E0.st.GO fn_2 (kf_2 _) E0.flds (es_var 0)) (ea_cons (es_var 1) ea_nil)) (es_one (es_meth E0 mn_0 (mnf_0 _) (es_fld E0.st.GO fn_3 (kf_3 _) E0.flds (es_var 0)) (ea_cons (es_var 1) ea_nil)))))
 ss_nil)⟩
theorem sc_17 : FnScope ["self", "setting"] ["self", "setting"] (defScope (inClass (top 10) 0)) := ⟨rfl, rfl, rfl, by decide +kernel, rfl, by decide +kernel, by decide +kernel⟩
theorem w_17 (c : He.SaysD fa fnl K) (M : Mg K mg) : BodyFn prog w K mg base (T.G K) T.P 17 2 2 b_17 := by
  obtain ⟨fd, F⟩ := c.def_ 5 (d := d_17) rfl
  have nd := sc_17.nd
  exact ⟨_, _, _, _, _, fd, _, F, sc_17, (F.bindsN fun _ _ _ _ _ _ us hl => match us, hl with | [_, _], _ => rfl), rfl, rfl, fun n cdv A outer s H E E0 =>
 (ss_cons (ss_ret (es_or (es_meth E0 mn_0 (mnf_0 _) (es_fld E0.st.GO fn_2 (kf_2 _) E0.flds (es_var 0)) (ea_cons (es_var 1) ea_nil)) (es_one (es_meth E0 mn_0 (mnf_0 _) (es_fld E0.st.GO fn_3 (kf_3 _) E0.flds (es_var 0)) (ea_cons (es_var 1) ea_nil)))))
 ss_nil)⟩
theorem sc_200 : FnScope ["_law_cell"] ["_law_cell"] (defScope (top 12)) := ⟨rfl, rfl, rfl, by decide +kernel, rfl, by decide +kernel, by decide +kernel⟩
theorem w_200 (c : He.SaysD fa fnl K) (M : Mg K mg) : BodyFn prog w K mg base (T.G K) T.P 200 1 1 b_200 := by
  obtain ⟨fd, F⟩ := c.def_ 6 (d := d_200) rfl
  have nd := sc_200.nd
  exact ⟨_, _, _, _, _, fd, _, F, sc_200, (F.bindsN fun _ _ _ _ _ _ us hl => match us, hl with | [_], _ => rfl), rfl, rfl, fun n cdv A outer s H E E0 =>
 (ss_cons (ss_if (ts_cmp (op_eq.or (op_eqD E0.room.units)) rfl cm_eq (es_mod (es_var 0) es_int) es_int)
 (ss_cons (ss_ret (es_tup (ea_cons (es_str s_1) ea_nil)))
 ss_nil)
 ss_nil)
 (ss_cons (ss_if (ts_cmp (op_eq.or (op_eqD E0.room.units)) rfl cm_eq (es_mod (es_var 0) es_int) es_int)
 (ss_cons (ss_ret (es_tup (ea_cons (es_str s_2) ea_nil)))
 ss_nil)
 ss_nil)
 (ss_cons (ss_ret (es_tup (ea_cons (es_str s_3) (ea_cons (es_idx E0.hu (es_str s_0) (es_mod (es_var 0) es_int)) ea_nil))))
 ss_nil)))⟩
theorem sc_201 : FnScope ["_law_cells", "_law_held", "_law_cell", "_law_way", "_law_right"] ["_law_cells"] (defScope (top 13)) := ⟨rfl, rfl, rfl, by decide +kernel, rfl, by decide +kernel, by decide +kernel⟩
theorem w_201 (c : He.SaysD fa fnl K) (M : Mg K mg) : BodyFn prog w K mg base (T.G K) T.P 201 1 5 b_201 := by
  obtain ⟨fd, F⟩ := c.def_ 7 (d := d_201) rfl
  have nd := sc_201.nd
  exact ⟨_, _, _, _, _, fd, _, F, sc_201, (F.bindsN fun _ _ _ _ _ _ us hl => match us, hl with | [_], _ => rfl), rfl, rfl, fun n cdv A outer s H E E0 =>
 (ss_cons (ss_set (i := 1) nd (es_lst (ea_cons (es_call E0 (kfn_200 _) isf_200 rfl M.f_200 (ea_cons (es_mod (es_bi cr_len' bo_len rfl M.g_len boot_len' (ea_cons (es_var 0) ea_nil)) es_int) ea_nil)) ea_nil)))
 (ss_cons (ss_for E0.own E0.calm (ei_seq (es_var 0)) (gg_name (i := 2) nd)
 (ss_cons (ss_set (i := 3) nd (es_mod (es_var 2) es_int))
 (ss_cons (ss_if (PW.pt (ws_or (ts_cmp (op_lt.or op_lt_str) rfl cm_lt (es_var 3) es_int) (ws_or1 (PW.pt (ws_and (ts_cmp op_gt rfl cm_gt (es_var 3) es_int) (ws_and1 (ts_cmp (op_eq.or (op_eqD E0.room.units)) rfl cm_eq (es_bi cr_len' bo_len rfl M.g_len boot_len' (ea_cons (es_var 1) ea_nil)) es_int)))))))
 (ss_cons (ss_expr (es_bm (bm' := .append) (k := .l) PySem.F.plainAttrs_list PySem.F.slot_list_append PySem.F.type_list_append (MtM_R mt_append) (by decide) bmk_append mo_append (es_var 1) (ea_cons (es_call E0 (kfn_200 _) isf_200 rfl M.f_200 (ea_cons (es_fdiv (es_var 2) es_int) ea_nil)) ea_nil)))
 ss_nil)
 (ss_cons (ss_if (ts_cmp (op_eq.or (op_eqD E0.room.units)) rfl cm_eq (es_var 3) es_int)
 (ss_cons (ss_expr (es_bm (bm' := .append) (k := .l) PySem.F.plainAttrs_list PySem.F.slot_list_append PySem.F.type_list_append (MtM_R mt_append) (by decide) bmk_append mo_append (es_var 1) (ea_cons (es_tup (ea_cons (es_str s_4) (ea_cons (es_bm0 (bm' := .pop) (k := .l) PySem.F.plainAttrs_list PySem.F.slot_list_pop PySem.F.type_list_pop (MtM_R mt_pop) (by decide) bmk_pop mo_pop (es_var 1)) ea_nil))) ea_nil)))
 ss_nil)
 (ss_cons (ss_if (ts_cmp (op_eq.or (op_eqD E0.room.units)) rfl cm_eq (es_var 3) es_int)
 (ss_cons (ss_expr (es_bm (bm' := .append) (k := .l) PySem.F.plainAttrs_list PySem.F.slot_list_append PySem.F.type_list_append (MtM_R mt_append) (by decide) bmk_append mo_append (es_var 1) (ea_cons (es_tup (ea_cons (es_idx E0.hu (es_lst (ea_cons (es_str s_5) (ea_cons (es_str s_6) ea_nil))) (es_mod (es_fdiv (es_var 2) es_int) es_int)) (ea_cons (es_idx E0.hu (es_var 1) (es_neg es_int)) (ea_cons (es_bm0 (bm' := .pop) (k := .l) PySem.F.plainAttrs_list PySem.F.slot_list_pop PySem.F.type_list_pop (MtM_R mt_pop) (by decide) bmk_pop mo_pop (es_var 1)) ea_nil)))) ea_nil)))
 ss_nil)
 (ss_cons (ss_set (i := 4) nd (es_bm0 (bm' := .pop) (k := .l) PySem.F.plainAttrs_list PySem.F.slot_list_pop PySem.F.type_list_pop (MtM_R mt_pop) (by decide) bmk_pop mo_pop (es_var 1)))
 (ss_cons (ss_expr (es_bm (bm' := .append) (k := .l) PySem.F.plainAttrs_list PySem.F.slot_list_append PySem.F.type_list_append (MtM_R mt_append) (by decide) bmk_append mo_append (es_var 1) (ea_cons (es_tup (ea_cons (es_idx E0.hu (es_lst (ea_cons (es_str s_5) (ea_cons (es_str s_6) ea_nil))) (es_sub (es_var 3) es_int)) (ea_cons (es_bm0 (bm' := .pop) (k := .l) PySem.F.plainAttrs_list PySem.F.slot_list_pop PySem.F.type_list_pop (MtM_R mt_pop) (by decide) bmk_pop mo_pop (es_var 1)) (ea_cons (es_var 4) ea_nil)))) ea_nil)))
 ss_nil)))
 ss_nil))
 ss_nil))
 ss_nil)))
 (ss_cons (ss_whl E0.own (ts_cmp op_gt rfl cm_gt (es_bi cr_len' bo_len rfl M.g_len boot_len' (ea_cons (es_var 1) ea_nil)) es_int)
 (ss_cons (ss_set (i := 4) nd (es_bm0 (bm' := .pop) (k := .l) PySem.F.plainAttrs_list PySem.F.slot_list_pop PySem.F.type_list_pop (MtM_R mt_pop) (by decide) bmk_pop mo_pop (es_var 1)))
 (ss_cons (ss_expr (es_bm (bm' := .append) (k := .l) PySem.F.plainAttrs_list PySem.F.slot_list_append PySem.F.type_list_append (MtM_R mt_append) (by decide) bmk_append mo_append (es_var 1) (ea_cons (es_tup (ea_cons (es_idx E0.hu (es_lst (ea_cons (es_str s_5) (ea_cons (es_str s_6) ea_nil))) (es_mod (es_bi cr_len' bo_len rfl M.g_len boot_len' (ea_cons (es_var 1) ea_nil)) es_int)) (ea_cons (es_bm0 (bm' := .pop) (k := .l) PySem.F.plainAttrs_list PySem.F.slot_list_pop PySem.F.type_list_pop (MtM_R mt_pop) (by decide) bmk_pop mo_pop (es_var 1)) (ea_cons (es_var 4) ea_nil)))) ea_nil)))
 ss_nil)))
 (ss_cons (ss_ret (es_idx E0.hu (es_var 1) es_int))
 ss_nil))))⟩
theorem sc_202 : FnScope ["_law_tree_here"] ["_law_tree_here"] (defScope (top 14)) := ⟨rfl, rfl, rfl, by decide +kernel, rfl, by decide +kernel, by decide +kernel⟩
theorem w_202 (c : He.SaysD fa fnl K) (M : Mg K mg) : BodyFn prog w K mg base (T.G K) T.P 202 1 1 b_202 := by
  obtain ⟨fd, F⟩ := c.def_ 8 (d := d_202) rfl
  have nd := sc_202.nd
  exact ⟨_, _, _, _, _, fd, _, F, sc_202, (F.bindsN fun _ _ _ _ _ _ us hl => match us, hl with | [_], _ => rfl), rfl, rfl, fun n cdv A outer s H E E0 =>
 (ss_cons (ss_if (ts_cmp (op_eq.or (op_eqD E0.room.units)) rfl cm_eq (es_idx E0.hu (es_var 0) es_int) (es_str s_4))
 (ss_cons (ss_ret (es_add es_int (es_call E0 (kfn_202 _) isf_202 rfl M.f_202 (ea_cons (es_idx E0.hu (es_var 0) es_int) ea_nil))))
 ss_nil)
 ss_nil)
 (ss_cons (ss_if (PW.pt (ws_or (ts_cmp (op_eq.or (op_eqD E0.room.units)) rfl cm_eq (es_idx E0.hu (es_var 0) es_int) (es_str s_5)) (ws_or1 (ts_cmp (op_eq.or (op_eqD E0.room.units)) rfl cm_eq (es_idx E0.hu (es_var 0) es_int) (es_str s_6)))))
 (ss_cons (ss_ret (es_add (es_add es_int (es_call E0 (kfn_202 _) isf_202 rfl M.f_202 (ea_cons (es_idx E0.hu (es_var 0) es_int) ea_nil))) (es_call E0 (kfn_202 _) isf_202 rfl M.f_202 (ea_cons (es_idx E0.hu (es_var 0) es_int) ea_nil))))
 ss_nil)
 ss_nil)
 (ss_cons (ss_ret es_int)
 ss_nil)))⟩
theorem sc_203 : FnScope ["_law_tree_here", "_law_left", "_law_right"] ["_law_tree_here"] (defScope (top 15)) := ⟨rfl, rfl, rfl, by decide +kernel, rfl, by decide +kernel, by decide +kernel⟩
theorem w_203 (c : He.SaysD fa fnl K) (M : Mg K mg) : BodyFn prog w K mg base (T.G K) T.P 203 1 3 b_203 := by
  obtain ⟨fd, F⟩ := c.def_ 9 (d := d_203) rfl
  have nd := sc_203.nd
  exact ⟨_, _, _, _, _, fd, _, F, sc_203, (F.bindsN fun _ _ _ _ _ _ us hl => match us, hl with | [_], _ => rfl), rfl, rfl, fun n cdv A outer s H E E0 =>
 (ss_cons (ss_if (ts_cmp (op_eq.or (op_eqD E0.room.units)) rfl cm_eq (es_idx E0.hu (es_var 0) es_int) (es_str s_1))
 (ss_cons (ss_ret (es_bare E0 ci_1 rfl M.c_1))
 ss_nil)
 ss_nil)
 (ss_cons (ss_if (ts_cmp (op_eq.or (op_eqD E0.room.units)) rfl cm_eq (es_idx E0.hu (es_var 0) es_int) (es_str s_2))
 (ss_cons (ss_ret (es_bare E0 ci_2 rfl M.c_2))
 ss_nil)
 ss_nil)
 (ss_cons (ss_if (ts_cmp (op_eq.or (op_eqD E0.room.units)) rfl cm_eq (es_idx E0.hu (es_var 0) es_int) (es_str s_3))
 (ss_cons (ss_ret (es_make E0 ne_3 (kp_3 E0) rfl M.c_3 (ea_cons (es_idx E0.hu (es_var 0) es_int) ea_nil)))
 ss_nil)
 ss_nil)
 (ss_cons (ss_if (ts_cmp (op_eq.or (op_eqD E0.room.units)) rfl cm_eq (es_idx E0.hu (es_var 0) es_int) (es_str s_4))
 (ss_cons (ss_ret (es_make E0 ne_4 (kp_4 E0) rfl M.c_4 (ea_cons (es_call E0 (kfn_203 _) isf_203 rfl M.f_203 (ea_cons (es_idx E0.hu (es_var 0) es_int) ea_nil)) ea_nil)))
 ss_nil)
 ss_nil)
 (ss_cons (ss_set (i := 1) nd (es_call E0 (kfn_203 _) isf_203 rfl M.f_203 (ea_cons (es_idx E0.hu (es_var 0) es_int) ea_nil)))
 (ss_cons (ss_set (i := 2) nd (es_var 1))
 (ss_cons (ss_if (ts_cmp (op_ne.or (op_neD E0.room.units)) rfl cm_ne (es_idx E0.hu (es_var 0) es_int) (es_idx E0.hu (es_var 0) es_int))
 (ss_cons (ss_set (i := 2) nd (es_call E0 (kfn_203 _) isf_203 rfl M.f_203 (ea_cons (es_idx E0.hu (es_var 0) es_int) ea_nil)))
 ss_nil)
 ss_nil)
 (ss_cons (ss_if (ts_cmp (op_eq.or (op_eqD E0.room.units)) rfl cm_eq (es_idx E0.hu (es_var 0) es_int) (es_str s_5))
 (ss_cons (ss_ret (es_make E0 ne_6 (kp_6 E0) rfl M.c_6 (ea_cons (es_var 1) (ea_cons (es_var 2) ea_nil))))
 ss_nil)
 ss_nil)
 (ss_cons (ss_ret (es_make E0 ne_7 (kp_7 E0) rfl M.c_7 (ea_cons (es_var 1) (ea_cons (es_var 2) ea_nil))))
 ss_nil)))))))))⟩
theorem sc_204 : FnScope ["_law_tree_here", "_law_setting"] ["_law_tree_here", "_law_setting"] (defScope (top 16)) := ⟨rfl, rfl, rfl, by decide +kernel, rfl, by decide +kernel, by decide +kernel⟩
theorem w_204 (c : He.SaysD fa fnl K) (M : Mg K mg) : BodyFn prog w K mg base (T.G K) T.P 204 2 2 b_204 := by
  obtain ⟨fd, F⟩ := c.def_ 10 (d := d_204) rfl
  have nd := sc_204.nd
  exact ⟨_, _, _, _, _, fd, _, F, sc_204, (F.bindsN fun _ _ _ _ _ _ us hl => match us, hl with | [_, _], _ => rfl), rfl, rfl, fun n cdv A outer s H E E0 =>
 (ss_cons (ss_if (PW.pt (ws_or (ts_cmp (op_eq.or (op_eqD E0.room.units)) rfl cm_eq (es_idx E0.hu (es_var 0) es_int) (es_str s_1)) (ws_or1 (ts_cmp (op_eq.or (op_eqD E0.room.units)) rfl cm_eq (es_idx E0.hu (es_var 0) es_int) (es_str s_2)))))
 (ss_cons (ss_ret (es_cmp (op_eq.or (op_eqD E0.room.units)) rfl cm_eq (es_idx E0.hu (es_var 0) es_int) (es_str s_1)))
 ss_nil)
 ss_nil)
 (ss_cons (ss_if (ts_cmp (op_eq.or (op_eqD E0.room.units)) rfl cm_eq (es_idx E0.hu (es_var 0) es_int) (es_str s_3))
 (ss_cons (ss_ret (es_cmp (op_eq.or (op_eqD E0.room.units)) rfl cm_eq (es_mod (es_fdiv (es_var 1) (es_idx E0.hu (es_dctK (pps_cons (es_str s_10) es_int (pps_cons (es_str s_9) es_int (pps_cons (es_str s_8) es_int (pps_cons (es_str s_7) es_int pps_nil))))) (es_idx E0.hu (es_var 0) es_int))) es_int) es_int))
 ss_nil)
 ss_nil)
 (ss_cons (ss_if (ts_cmp (op_eq.or (op_eqD E0.room.units)) rfl cm_eq (es_idx E0.hu (es_var 0) es_int) (es_str s_4))
 (ss_cons (ss_ret (es_not (es_call E0 (kfn_204 _) isf_204 rfl M.f_204 (ea_cons (es_idx E0.hu (es_var 0) es_int) (ea_cons (es_var 1) ea_nil)))))
 ss_nil)
 ss_nil)
 (ss_cons (ss_if (ts_cmp (op_eq.or (op_eqD E0.room.units)) rfl cm_eq (es_idx E0.hu (es_var 0) es_int) (es_str s_5))
 (ss_cons (ss_ret (es_and (es_call E0 (kfn_204 _) isf_204 rfl M.f_204 (ea_cons (es_idx E0.hu (es_var 0) es_int) (ea_cons (es_var 1) ea_nil))) (es_one (es_call E0 (kfn_204 _) isf_204 rfl M.f_204 (ea_cons (es_idx E0.hu (es_var 0) es_int) (ea_cons (es_var 1) ea_nil))))))
 ss_nil)
 ss_nil)
 (ss_cons (ss_ret (es_or (es_call E0 (kfn_204 _) isf_204 rfl M.f_204 (ea_cons (es_idx E0.hu (es_var 0) es_int) (ea_cons (es_var 1) ea_nil))) (es_one (es_call E0 (kfn_204 _) isf_204 rfl M.f_204 (ea_cons (es_idx E0.hu (es_var 0) es_int) (ea_cons (es_var 1) ea_nil))))))
 ss_nil)))))⟩
theorem sc_205 : FnScope ["_law_test", "_law_found", "_law_one"] ["_law_test"] (defScope (top 17)) := ⟨rfl, rfl, rfl, by decide +kernel, rfl, by decide +kernel, by decide +kernel⟩
theorem w_205 (c : He.SaysD fa fnl K) (M : Mg K mg) : BodyFn prog w K mg base (T.G K) T.P 205 1 3 b_205 := by
  obtain ⟨fd, F⟩ := c.def_ 11 (d := d_205) rfl
  have nd := sc_205.nd
  exact ⟨_, _, _, _, _, fd, _, F, sc_205, (F.bindsN fun _ _ _ _ _ _ us hl => match us, hl with | [_], _ => rfl), rfl, rfl, fun n cdv A outer s H E E0 =>
 (ss_cons (ss_set (i := 1) nd (es_lst (ea_cons (es_isi E0.st.GO E0.sub rfl M.g_isinstance boot_isinstance' (es_var 0) (pe_glob (by rfl) M.c_1 rfl) rfl) (ea_cons (es_isi E0.st.GO E0.sub rfl M.g_isinstance boot_isinstance' (es_var 0) (pe_glob (by rfl) M.c_2 rfl) rfl) (ea_cons (es_isi E0.st.GO E0.sub rfl M.g_isinstance boot_isinstance' (es_var 0) (pe_glob (by rfl) M.c_3 rfl) rfl) ea_nil)))))
 (ss_cons (ss_set (i := 1) nd (es_add (es_var 1) (es_lst (ea_cons (es_isi E0.st.GO E0.sub rfl M.g_isinstance boot_isinstance' (es_var 0) (pe_glob (by rfl) M.c_4 rfl) rfl) (ea_cons (es_isi E0.st.GO E0.sub rfl M.g_isinstance boot_isinstance' (es_var 0) (pe_glob (by rfl) M.c_6 rfl) rfl) (ea_cons (es_isi E0.st.GO E0.sub rfl M.g_isinstance boot_isinstance' (es_var 0) (pe_glob (by rfl) M.c_7 rfl) rfl) ea_nil))))))
 (ss_cons (ss_ret (es_and (es_isi E0.st.GO E0.sub rfl M.g_isinstance boot_isinstance' (es_var 0) (pe_glob (by rfl) M.c_0 rfl) rfl) (es_one (es_cmp (op_eq.or (op_eqD E0.room.units)) rfl cm_eq (es_bi cr_len' bo_len rfl M.g_len boot_len' (ea_cons (es_lc (own := [("_law_one", 2)]) E0.calm nd (ei_seq (es_var 1)) (blkOk_by (by rfl)) (fun _ _ _ _ _ => (gg_name (i := 2) nd)) (fun _ _ _ _ _ => (tt_one (ts_val (es_var 2)))) (fun _ _ _ _ _ => (es_var 2)) (by decide)) ea_nil)) es_int))))
 ss_nil)))⟩
theorem sc_206 : FnScope ["_law_test", "_law_tree_here", "_law_setting", "_law_left"] ["_law_test", "_law_tree_here", "_law_setting"] (defScope (top 18)) := ⟨rfl, rfl, rfl, by decide +kernel, rfl, by decide +kernel, by decide +kernel⟩
theorem w_206 (c : He.SaysD fa fnl K) (M : Mg K mg) : BodyFn prog w K mg base (T.G K) T.P 206 3 4 b_206 := by
  obtain ⟨fd, F⟩ := c.def_ 12 (d := d_206) rfl
  have nd := sc_206.nd
  exact ⟨_, _, _, _, _, fd, _, F, sc_206, (F.bindsN fun _ _ _ _ _ _ us hl => match us, hl with | [_, _, _], _ => rfl), rfl, rfl, fun n cdv A outer s H E E0 =>
 (ss_cons (ss_if (ts_cmp (op_eq.or (op_eqD E0.room.units)) rfl cm_eq (es_idx E0.hu (es_var 1) es_int) (es_str s_3))
 (ss_cons (ss_ret (es_and (es_isi E0.st.GO E0.sub rfl M.g_isinstance boot_isinstance' (es_var 0) (pe_glob (by rfl) M.c_3 rfl) rfl) (es_one (es_cmp (op_eq.or (op_eqD E0.room.units)) rfl cm_eq (es_fld E0.st.GO fn_0 (kf_0 _) E0.flds (es_var 0)) (es_idx E0.hu (es_var 1) es_int)))))
 ss_nil)
 ss_nil)
 (ss_cons (ss_if (ts_cmp (op_eq.or (op_eqD E0.room.units)) rfl cm_eq (es_idx E0.hu (es_var 1) es_int) (es_str s_4))
 (ss_cons (ss_ret (es_and (es_isi E0.st.GO E0.sub rfl M.g_isinstance boot_isinstance' (es_var 0) (pe_glob (by rfl) M.c_4 rfl) rfl) (es_one (es_cmp (op_eq.or (op_eqD E0.room.units)) rfl cm_eq (es_meth E0 mn_0 (mnf_0 _) (es_fld E0.st.GO fn_1 (kf_1 _) E0.flds (es_var 0)) (ea_cons (es_var 2) ea_nil)) (es_call E0 (kfn_204 _) isf_204 rfl M.f_204 (ea_cons (es_idx E0.hu (es_var 1) es_int) (ea_cons (es_var 2) ea_nil)))))))
 ss_nil)
 ss_nil)
 (ss_cons (ss_if (PW.pt (ws_or (PW.pt (ws_and (ts_cmp (op_eq.or (op_eqD E0.room.units)) rfl cm_eq (es_idx E0.hu (es_var 1) es_int) (es_str s_5)) (ws_and1 (ts_not (ts_val (es_isi E0.st.GO E0.sub rfl M.g_isinstance boot_isinstance' (es_var 0) (pe_glob (by rfl) M.c_6 rfl) rfl)))))) (ws_or1 (PW.pt (ws_and (ts_cmp (op_eq.or (op_eqD E0.room.units)) rfl cm_eq (es_idx E0.hu (es_var 1) es_int) (es_str s_6)) (ws_and1 (ts_not (ts_val (es_isi E0.st.GO E0.sub rfl M.g_isinstance boot_isinstance' (es_var 0) (pe_glob (by rfl) M.c_7 rfl) rfl)))))))))
 (ss_cons (ss_ret es_bl)
 ss_nil)
 ss_nil)
 (ss_cons (ss_if (PW.pt (ws_or (ts_cmp (op_eq.or (op_eqD E0.room.units)) rfl cm_eq (es_idx E0.hu (es_var 1) es_int) (es_str s_5)) (ws_or1 (ts_cmp (op_eq.or (op_eqD E0.room.units)) rfl cm_eq (es_idx E0.hu (es_var 1) es_int) (es_str s_6)))))
 (ss_cons (ss_set (i := 3) nd (es_cmp (op_eq.or (op_eqD E0.room.units)) rfl cm_eq (es_meth E0 mn_0 (mnf_0 _) (es_fld E0.st.GO fn_2 (kf_2 _) E0.flds (es_var 0)) (ea_cons (es_var 2) ea_nil)) (es_call E0 (kfn_204 _) isf_204 rfl M.f_204 (ea_cons (es_idx E0.hu (es_var 1) es_int) (ea_cons (es_var 2) ea_nil)))))
 (ss_cons (ss_ret (es_and (es_var 3) (es_one (es_cmp (op_eq.or (op_eqD E0.room.units)) rfl cm_eq (es_meth E0 mn_0 (mnf_0 _) (es_fld E0.st.GO fn_3 (kf_3 _) E0.flds (es_var 0)) (ea_cons (es_var 2) ea_nil)) (es_call E0 (kfn_204 _) isf_204 rfl M.f_204 (ea_cons (es_idx E0.hu (es_var 1) es_int) (ea_cons (es_var 2) ea_nil)))))))
 ss_nil))
 ss_nil)
 (ss_cons (ss_ret (es_and (es_cmp (op_eq.or (op_eqD E0.room.units)) rfl cm_eq (es_isi E0.st.GO E0.sub rfl M.g_isinstance boot_isinstance' (es_var 0) (pe_glob (by rfl) M.c_1 rfl) rfl) (es_cmp (op_eq.or (op_eqD E0.room.units)) rfl cm_eq (es_idx E0.hu (es_var 1) es_int) (es_str s_1))) (es_one (es_cmp (op_eq.or (op_eqD E0.room.units)) rfl cm_eq (es_isi E0.st.GO E0.sub rfl M.g_isinstance boot_isinstance' (es_var 0) (pe_glob (by rfl) M.c_2 rfl) rfl) (es_cmp (op_eq.or (op_eqD E0.room.units)) rfl cm_eq (es_idx E0.hu (es_var 1) es_int) (es_str s_2))))))
 ss_nil)))))⟩
theorem sc_207 : FnScope ["_law_script", "_law_tree_here", "_law_test", "_law_turn", "_law_setting", "_law_found"] ["_law_script"] (defScope (top 19)) := ⟨rfl, rfl, rfl, by decide +kernel, rfl, by decide +kernel, by decide +kernel⟩
theorem w_207 (c : He.SaysD fa fnl K) (M : Mg K mg) : BodyFn prog w K mg base (T.G K) T.P 207 1 6 b_207 := by
  obtain ⟨fd, F⟩ := c.def_ 13 (d := d_207) rfl
  have nd := sc_207.nd
  exact ⟨_, _, _, _, _, fd, _, F, sc_207, (F.bindsN fun _ _ _ _ _ _ us hl => match us, hl with | [_], _ => rfl), rfl, rfl, fun n cdv A outer s H E E0 =>
 (ss_cons (ss_set (i := 1) nd (es_call E0 (kfn_201 _) isf_201 rfl M.f_201 (ea_cons (es_slc (es_var 0) eo_none (eo_some es_int)) ea_nil)))
 (ss_cons (ss_if (ts_cmp op_gt rfl cm_gt (es_call E0 (kfn_202 _) isf_202 rfl M.f_202 (ea_cons (es_var 1) ea_nil)) es_int)
 (ss_cons (ss_set (i := 1) nd (es_call E0 (kfn_201 _) isf_201 rfl M.f_201 (ea_cons (es_slc (es_var 0) eo_none (eo_some es_int)) ea_nil)))
 ss_nil)
 ss_nil)
 (ss_cons (ss_set (i := 2) nd (es_call E0 (kfn_203 _) isf_203 rfl M.f_203 (ea_cons (es_var 1) ea_nil)))
 (ss_cons (ss_if (ts_not (ts_val (es_call E0 (kfn_205 _) isf_205 rfl M.f_205 (ea_cons (es_var 2) ea_nil))))
 (ss_cons (ss_ret es_bl)
 ss_nil)
 ss_nil)
 (ss_cons (ss_for E0.own E0.calm (ei_rng1 rfl M.g_range es_int) (gg_name (i := 3) nd)
 (ss_cons (ss_for E0.own E0.calm (ei_rng1 rfl M.g_range es_int) (gg_name (i := 4) nd)
 (ss_cons (ss_set (i := 5) nd (es_meth E0 mn_0 (mnf_0 _) (es_var 2) (ea_cons (es_var 4) ea_nil)))
 (ss_cons (ss_if (PW.pt (ws_or (ts_not (ts_val (es_isi E0.st.GO E0.sub rfl M.g_isinstance boot_isinstance' (es_var 5) (pe_bltn (by rfl) M.g_bool boot_bool' rfl) rfl))) (ws_or1 (ts_cmp (op_ne.or (op_neD E0.room.units)) rfl cm_ne (es_var 5) (es_call E0 (kfn_204 _) isf_204 rfl M.f_204 (ea_cons (es_var 1) (ea_cons (es_var 4) ea_nil)))))))
 (ss_cons (ss_ret es_bl)
 ss_nil)
 ss_nil)
 (ss_cons (ss_if (ts_not (ts_val (es_call E0 (kfn_206 _) isf_206 rfl M.f_206 (ea_cons (es_var 2) (ea_cons (es_var 1) (ea_cons (es_var 4) ea_nil))))))
 (ss_cons (ss_ret es_bl)
 ss_nil)
 ss_nil)
 ss_nil))))
 ss_nil))
 (ss_cons (ss_ret es_bl)
 ss_nil))))))⟩
theorem sc_103 : FnScope ["self", "name"] ["self", "name"] (defScope (inClass (top 6) 0)) := ⟨rfl, rfl, rfl, by decide +kernel, rfl, by decide +kernel, by decide +kernel⟩
theorem w_103 (c : He.SaysD fa fnl K) (M : Mg K mg) : BodyIni prog w K mg base (T.G K) T.P 103 3 1 2 l_103 := by
  obtain ⟨fd, F⟩ := c.def_ 14 (d := d_103) rfl
  have nd := sc_103.nd
  exact ⟨_, _, _, _, _, fd, _, _, F, sc_103, (F.bindsN fun _ _ _ _ _ _ us hl => match us, hl with | [_, _], _ => rfl), rfl, rfl, rfl, fun n cdv A outer s H E E0 =>
 (sn_cons E0.st.GO rfl rfl fn_0 (pv 0) (es_var 1) (sn_nil rfl rfl))⟩
theorem sc_104 : FnScope ["self", "inner"] ["self", "inner"] (defScope (inClass (top 7) 0)) := ⟨rfl, rfl, rfl, by decide +kernel, rfl, by decide +kernel, by decide +kernel⟩
theorem w_104 (c : He.SaysD fa fnl K) (M : Mg K mg) : BodyIni prog w K mg base (T.G K) T.P 104 4 1 2 l_104 := by
  obtain ⟨fd, F⟩ := c.def_ 15 (d := d_104) rfl
  have nd := sc_104.nd
  exact ⟨_, _, _, _, _, fd, _, _, F, sc_104, (F.bindsN fun _ _ _ _ _ _ us hl => match us, hl with | [_, _], _ => rfl), rfl, rfl, rfl, fun n cdv A outer s H E E0 =>
 (sn_cons E0.st.GO rfl rfl fn_1 (pv 0) (es_var 1) (sn_nil rfl rfl))⟩
theorem sc_106 : FnScope ["self", "left", "right"] ["self", "left", "right"] (defScope (inClass (top 8) 0)) := ⟨rfl, rfl, rfl, by decide +kernel, rfl, by decide +kernel, by decide +kernel⟩
theorem w_106 (c : He.SaysD fa fnl K) (M : Mg K mg) : BodyIni prog w K mg base (T.G K) T.P 106 6 2 3 l_106 := by
  obtain ⟨fd, F⟩ := c.def_ 16 (d := d_106) rfl
  have nd := sc_106.nd
  exact ⟨_, _, _, _, _, fd, _, _, F, sc_106, (F.bindsN fun _ _ _ _ _ _ us hl => match us, hl with | [_, _, _], _ => rfl), rfl, rfl, rfl, fun n cdv A outer s H E E0 =>
 (sn_cons E0.st.GO rfl rfl fn_2 (pv 0) (es_var 1) (sn_cons E0.st.GO rfl rfl fn_3 (pv 0) (es_var 2) (sn_nil rfl rfl)))⟩
theorem sc_107 : FnScope ["self", "left", "right"] ["self", "left", "right"] (defScope (inClass (top 8) 0)) := ⟨rfl, rfl, rfl, by decide +kernel, rfl, by decide +kernel, by decide +kernel⟩
theorem w_107 (c : He.SaysD fa fnl K) (M : Mg K mg) : BodyIni prog w K mg base (T.G K) T.P 107 7 2 3 l_107 := by
  obtain ⟨fd, F⟩ := c.def_ 17 (d := d_107) rfl
  have nd := sc_107.nd
  exact ⟨_, _, _, _, _, fd, _, _, F, sc_107, (F.bindsN fun _ _ _ _ _ _ us hl => match us, hl with | [_, _, _], _ => rfl), rfl, rfl, rfl, fun n cdv A outer s H E E0 =>
 (sn_cons E0.st.GO rfl rfl fn_2 (pv 0) (es_var 1) (sn_cons E0.st.GO rfl rfl fn_3 (pv 0) (es_var 2) (sn_nil rfl rfl)))⟩
theorem all_ok (c : He.SaysD fa fnl K) (M : Mg K mg) : ∀ p ∈ T.pr, BodyAny prog w K mg base T p.1 p.2 :=
  List.forall_mem_cons.mpr ⟨w_0 c M, List.forall_mem_cons.mpr ⟨w_4 c M, List.forall_mem_cons.mpr ⟨w_8 c M, List.forall_mem_cons.mpr ⟨w_11 c M, List.forall_mem_cons.mpr ⟨w_14 c M, List.forall_mem_cons.mpr ⟨w_17 c M, List.forall_mem_cons.mpr ⟨w_200 c M, List.forall_mem_cons.mpr ⟨w_201 c M, List.forall_mem_cons.mpr ⟨w_202 c M, List.forall_mem_cons.mpr ⟨w_203 c M, List.forall_mem_cons.mpr ⟨w_204 c M, List.forall_mem_cons.mpr ⟨w_205 c M, List.forall_mem_cons.mpr ⟨w_206 c M, List.forall_mem_cons.mpr ⟨w_207 c M, List.forall_mem_cons.mpr ⟨w_103 c M, List.forall_mem_cons.mpr ⟨w_104 c M, List.forall_mem_cons.mpr ⟨w_106 c M, List.forall_mem_cons.mpr ⟨w_107 c M, List.forall_mem_nil _⟩⟩⟩⟩⟩⟩⟩⟩⟩⟩⟩⟩⟩⟩⟩⟩⟩⟩
end
abbrev R : PySem.W.OpenRow := PySem.W.OpenLaw.row PySem.Challenge.rw_anymeaning_k01_a_test_holds
def names : List PySem.Str := (["_wall", "__name__", "LETTERS", "Test", "Yes", "No", "Named", "Not", "Joined", "Both", "Either", "_law_leaf", "_law_tree", "_law_size", "_law_made", "_law_due", "_law_one_class", "_law_fields"] : List PySem.Str)
abbrev hk : PySem.W.Hook := hookF 5 fa fnl T.chk
def ob (s : PySem.W.SharedT) : AlF := obsF 5 fa fnl T.chk (HandSHeadRun.getT s)
theorem ob_eq (s : PySem.W.SharedT) : ob s = hk.obs s.abs := obsF_eq (HandSHeadRun.getT_eq s)
theorem run (w : World) : HandSHeadRun.RunEq R (PySem.W.view R.prog [19]) hk ob 6000 names w := by
  intro os
  kernel_rfl
theorem law_fn {P : Program} {w : World} {K : PySem.W.Frag} {h : Heap} {mg : Str → Option Value} {f : Addr} (X : K.In h) (G : h.Ns mainGlobals mg) (hfa : mg ("law" : Str) = some (.ref f)) (c : SaysF fa fnl T.chk K) :
    ∃ fd : FuncData, (∀ (s : Shared) (v : Value), BindsTo s fd ⟨[v], []⟩ [("_law_script", v)]) ∧ ∀ base : Heap, K.In base → base.Ns mainGlobals mg → FnOk P w K mg base CX0 230 f fd ["_law_script"] (spL (T.G K) K T.P 230 207) := by
  have M := mg_of X G c.1
  have e := hfa.symm.trans M.f_207
  cases e
  obtain ⟨fd, F⟩ := c.1.def_ 13 (d := d_207) rfl
  have b := FunD.bindsA (ps := ["_law_script"]) F fun _ _ _ _ _ _ us hl => match us, hl with | [_], _ => rfl
  refine ⟨fd, fun s v => b s [v] rfl, fun base _ _ => ?_⟩
  exact calm_ok (fn_at F (kn_of (stc_of chk0 c.2) (all_ok c.1 M) 230) (kfn_207 K) isf_207)
end HP
open PySem PySem.W PySem.Calls PyProof.Rows
theorem PySem.Challenge.cw_anymeaning_k01_a_test_holds_holds : PySem.Challenge.rw_anymeaning_k01_a_test_holds.Holds := by
  w_on; o_law
  refine HandSHeadRun.head_any (r := OpenLaw.row PySem.Challenge.rw_anymeaning_k01_a_test_holds) (q := view (OpenLaw.row PySem.Challenge.rw_anymeaning_k01_a_test_holds).prog [19]) (H := HP.hk) (ob := HP.ob) (M := 6000) (loose := HP.names) (d := HandSHeadRun.topDef (OpenLaw.row PySem.Challenge.rw_anymeaning_k01_a_test_holds).prog 19) (kwd := []) HP.ob_eq
    (by kernel_rfl) (fun s => by kernel_rfl) HP.run (by kernel_rfl) (by kernel_rfl) (by kernel_rfl) (by rfl) (by first | assumption | decide +kernel) (by decide +kernel) ⟨rfl, rfl, rfl, rfl, rfl, by decide +kernel⟩ ?hw ?hc
  case hw => w_witness2
  case hc =>
    refine L2.walk_ofE (l := PySem.Challenge.rw_anymeaning_k01_a_test_holds) (n := 63) (k := 230) (x := "_law_script") (CX := L2.CX0) rfl (by decide) (by kernel_rfl) ⟨rfl, by decide, by decide⟩ ?F (fun _ _ _ _ z => z)
    intro w mg fa h Y G hmg0
    obtain ⟨K, KX, c⟩ := Y
    have hmg : mg ("law" : PySem.Str) = some (.ref fa) := by
      have e : (HandSHeadRun.topDef (OpenLaw.row PySem.Challenge.rw_anymeaning_k01_a_test_holds).prog 19).name = ("law" : PySem.Str) := by kernel_rfl
      rw [← e]
      exact hmg0
    obtain ⟨fd, hb, hF⟩ := HP.law_fn (P := (PySem.Challenge.rw_anymeaning_k01_a_test_holds).prog) (w := w) KX G hmg c
    exact ⟨K, fd, FS.spL (HP.T.G K) K HP.T.P 230 207, KX, hb, fun H a ns hl hO hS => FS.law_sp hO hS (HP.pure_law ns hl), hF⟩
