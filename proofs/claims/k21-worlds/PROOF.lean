import PyProof.Rows.All
import Wide.All
import OpenK.AllK
import Wide.FinOn
import HandS.ForMost
import HandS.ForExc
import HandS.TupAny
import HandS.TryOnly
import HandS.Conv
import HandS.Lambda
import HandS.Nested
import HandS.Style
import KE.KEqDict
import HandS.DeepEq
import HandS.StrMore
import HandS.IsInst
import HandS.TupLen
import HandS.Replace
import HandS.Deep
import HandS.ExcIs
import HandS.ExcOwn
import HandS.CallSlots
import HandS.Comp
import HandS.Defaults
import HandS.WordsExc
import HandS.HeadHook4
import HandS.HeadWalk
import KE.KStateDown
import HandS.Ends
import HandS.More
import HandS.Head0
import HandS.Head1
import HandS.Head2
import HandS.HeadEnd
import HandS.HeadHook1
import HandS.HeadHook2
import PyProof.ExcBaseAll.ValueError
import HandS.ExcValue
import HandS.Codes
import HandS.Rev
import HandS.Zip
import KE.GoesMore
import KE.KDictWalk
import HandS.Iter
import KE.KDictDisplayH
import HandS.SortRule
import HandS.Finally
import PyProof.ListStr
import Lean
import PySem.Challenge.RW_anymeaning_k21_worlds
set_option Elab.async false
set_option linter.all false
set_option maxRecDepth 100000
set_option maxHeartbeats 0
namespace FS
inductive D where
  | non
  | bl (b : Bool)
  | int (i : Int)
  | str (s : List Nat)
  | tup (ds : List D)
  | rol (ds : List D)
  | ins (c : Nat) (ds : List D)
  | ref (n : Nat)
  | exc (c : Nat)
  | clo (f : Nat) (ds : List D)
  deriving Inhabited, Repr
mutual
def D.beq : D → D → Bool
  | .non, .non => true
  | .bl x0, .bl y0 => x0 == y0
  | .int x0, .int y0 => x0 == y0
  | .str x0, .str y0 => x0 == y0
  | .tup x0, .tup y0 => D.beqs x0 y0
  | .rol x0, .rol y0 => D.beqs x0 y0
  | .ins x0 x1, .ins y0 y1 => x0 == y0 && D.beqs x1 y1
  | .ref x0, .ref y0 => x0 == y0
  | .exc x0, .exc y0 => x0 == y0
  | .clo x0 x1, .clo y0 y1 => x0 == y0 && D.beqs x1 y1
  | .non, _ | .bl _, _ | .int _, _ | .str _, _ | .tup _, _ | .rol _, _ | .ins _ _, _ | .ref _, _ | .exc _, _ | .clo _ _, _ => false
def D.beqs : List D → List D → Bool
  | [], [] => true
  | a :: r, b :: t => D.beq a b && D.beqs r t
  | [], _ :: _ => false
  | _ :: _, [] => false
end
mutual
theorem D.eq_of_beq : ∀ {a b : D}, D.beq a b = true → a = b
  | .non, .non, _ => rfl
  | .bl x0, .bl y0, h => by simp only [D.beq, beq_iff_eq] at h; rw [h]
  | .int x0, .int y0, h => by simp only [D.beq, beq_iff_eq] at h; rw [h]
  | .str x0, .str y0, h => by simp only [D.beq, beq_iff_eq] at h; rw [h]
  | .tup x0, .tup y0, h => by simp only [D.beq] at h; rw [D.eqs_of_beqs h]
  | .rol x0, .rol y0, h => by simp only [D.beq] at h; rw [D.eqs_of_beqs h]
  | .ins x0 x1, .ins y0 y1, h => by simp only [D.beq, Bool.and_eq_true, beq_iff_eq] at h; rw [h.1, D.eqs_of_beqs h.2]
  | .ref x0, .ref y0, h => by simp only [D.beq, beq_iff_eq] at h; rw [h]
  | .exc x0, .exc y0, h => by simp only [D.beq, beq_iff_eq] at h; rw [h]
  | .clo x0 x1, .clo y0 y1, h => by simp only [D.beq, Bool.and_eq_true, beq_iff_eq] at h; rw [h.1, D.eqs_of_beqs h.2]
  | .non, .bl _, h | .non, .int _, h | .non, .str _, h | .non, .tup _, h | .non, .rol _, h | .non, .ins _ _, h | .non, .ref _, h | .non, .exc _, h | .non, .clo _ _, h => by simp [D.beq] at h
  | .bl _, .non, h | .bl _, .int _, h | .bl _, .str _, h | .bl _, .tup _, h | .bl _, .rol _, h | .bl _, .ins _ _, h | .bl _, .ref _, h | .bl _, .exc _, h | .bl _, .clo _ _, h => by simp [D.beq] at h
  | .int _, .non, h | .int _, .bl _, h | .int _, .str _, h | .int _, .tup _, h | .int _, .rol _, h | .int _, .ins _ _, h | .int _, .ref _, h | .int _, .exc _, h | .int _, .clo _ _, h => by simp [D.beq] at h
  | .str _, .non, h | .str _, .bl _, h | .str _, .int _, h | .str _, .tup _, h | .str _, .rol _, h | .str _, .ins _ _, h | .str _, .ref _, h | .str _, .exc _, h | .str _, .clo _ _, h => by simp [D.beq] at h
  | .tup _, .non, h | .tup _, .bl _, h | .tup _, .int _, h | .tup _, .str _, h | .tup _, .rol _, h | .tup _, .ins _ _, h | .tup _, .ref _, h | .tup _, .exc _, h | .tup _, .clo _ _, h => by simp [D.beq] at h
  | .rol _, .non, h | .rol _, .bl _, h | .rol _, .int _, h | .rol _, .str _, h | .rol _, .tup _, h | .rol _, .ins _ _, h | .rol _, .ref _, h | .rol _, .exc _, h | .rol _, .clo _ _, h => by simp [D.beq] at h
  | .ins _ _, .non, h | .ins _ _, .bl _, h | .ins _ _, .int _, h | .ins _ _, .str _, h | .ins _ _, .tup _, h | .ins _ _, .rol _, h | .ins _ _, .ref _, h | .ins _ _, .exc _, h | .ins _ _, .clo _ _, h => by simp [D.beq] at h
  | .ref _, .non, h | .ref _, .bl _, h | .ref _, .int _, h | .ref _, .str _, h | .ref _, .tup _, h | .ref _, .rol _, h | .ref _, .ins _ _, h | .ref _, .exc _, h | .ref _, .clo _ _, h => by simp [D.beq] at h
  | .exc _, .non, h | .exc _, .bl _, h | .exc _, .int _, h | .exc _, .str _, h | .exc _, .tup _, h | .exc _, .rol _, h | .exc _, .ins _ _, h | .exc _, .ref _, h | .exc _, .clo _ _, h => by simp [D.beq] at h
  | .clo _ _, .non, h | .clo _ _, .bl _, h | .clo _ _, .int _, h | .clo _ _, .str _, h | .clo _ _, .tup _, h | .clo _ _, .rol _, h | .clo _ _, .ins _ _, h | .clo _ _, .ref _, h | .clo _ _, .exc _, h => by simp [D.beq] at h
theorem D.eqs_of_beqs : ∀ {a b : List D}, D.beqs a b = true → a = b
  | [], [], _ => rfl
  | x :: r, y :: t, h => by simp only [D.beqs, Bool.and_eq_true] at h; rw [D.eq_of_beq h.1, D.eqs_of_beqs h.2]
  | [], _ :: _, h => by simp [D.beqs] at h
  | _ :: _, [], h => by simp [D.beqs] at h
end
mutual
theorem D.beq_refl : ∀ a : D, D.beq a a = true
  | .non => by simp [D.beq]
  | .bl x0 => by simp [D.beq]
  | .int x0 => by simp [D.beq]
  | .str x0 => by simp [D.beq]
  | .tup x0 => by simp [D.beq, D.beqs_refl x0]
  | .rol x0 => by simp [D.beq, D.beqs_refl x0]
  | .ins x0 x1 => by simp [D.beq, D.beqs_refl x1]
  | .ref x0 => by simp [D.beq]
  | .exc x0 => by simp [D.beq]
  | .clo x0 x1 => by simp [D.beq, D.beqs_refl x1]
theorem D.beqs_refl : ∀ a : List D, D.beqs a a = true
  | [] => rfl
  | x :: r => by simp [D.beqs, D.beq_refl x, D.beqs_refl r]
end
theorem D.beq_iff {a b : D} : D.beq a b = true ↔ a = b := ⟨D.eq_of_beq, fun h => h ▸ D.beq_refl a⟩
instance : DecidableEq D := fun a b => if h : D.beq a b = true then isTrue (D.eq_of_beq h) else isFalse fun e => h (e ▸ D.beq_refl a)
inductive MO where
  | lst (ds : List D)
  | dct (t z : Bool) (kvs : List (D × D))
  | obj (c : Nat) (fs : List (Nat × D))
  deriving DecidableEq, Inhabited, Repr
abbrev Mem := List MO
abbrev Sto := List (Option D)
inductive Res (α : Type) where
  | ok (a : α) (m : Mem)
  | ex (c : Nat) (m : Mem)
  | no
  deriving Inhabited, Repr
def Res.bind {α β : Type} : Res α → (α → Mem → Res β) → Res β
  | .ok a m, f => f a m
  | .ex c m, _ => .ex c m
  | .no, _ => .no
def Res.map {α β : Type} (f : α → β) : Res α → Res β
  | .ok a m => .ok (f a) m
  | .ex c m => .ex c m
  | .no => .no
inductive SR where
  | nx (σ : Sto) (m : Mem)
  | rt (d : D) (m : Mem)
  | bk (σ : Sto) (m : Mem)
  | ct (σ : Sto) (m : Mem)
  | ex (c : Nat) (σ : Sto) (m : Mem)
  | no
  deriving Inhabited, Repr
def Res.toS {α : Type} (σ : Sto) : Res α → (α → Mem → SR) → SR
  | .ok a m, f => f a m
  | .ex c m, _ => .ex c σ m
  | .no, _ => .no
def SR.cal : SR → SR
  | .ex _ _ _ => .no
  | r => r
def SR.seq : SR → (Sto → Mem → SR) → SR
  | .nx σ m, f => f σ m
  | r, _ => r
def LIM : Nat := 16777216
def rdL (m : Mem) (n : Nat) : Option (List D) := match m[n]? with
  | some (.lst ds) => some ds
  | _ => none
def seqL (m : Mem) : D → Option (List D)
  | .ref n => rdL m n
  | .rol ds => some ds
  | _ => none
inductive Dat where
  | non | bl (b : Bool) | int (i : Int) | str (s : List Nat) | lst (l : List Dat) | tup (l : List Dat)
  deriving Inhabited
mutual
def Dat.eqv : Dat → Dat → Bool
  | .non, .non => true
  | .bl a, .bl b => a == b
  | .bl a, .int j => (if a then 1 else 0) == j
  | .int i, .bl b => i == (if b then 1 else 0)
  | .int i, .int j => i == j
  | .str x, .str y => x == y
  | .lst xs, .lst ys => Dat.eqvs xs ys
  | .tup xs, .tup ys => Dat.eqvs xs ys
  | .non, _ | .bl _, _ | .int _, _ | .str _, _ | .lst _, _ | .tup _, _ => false
def Dat.eqvs : List Dat → List Dat → Bool
  | [], [] => true
  | x :: xs, y :: ys => Dat.eqv x y && Dat.eqvs xs ys
  | [], _ :: _ => false
  | _ :: _, [] => false
end
def toDat : Nat → Mem → D → Option Dat
  | _, _, .non => some .non
  | _, _, .bl b => some (.bl b)
  | _, _, .int i => some (.int i)
  | _, _, .str s => if s.all (fun c => decide (c < 1114112)) then some (.str s) else none
  | n + 1, m, .tup ds => (ds.mapM fun d => toDat n m d).map Dat.tup
  | n + 1, m, .rol ds => (ds.mapM fun d => toDat n m d).map Dat.lst
  | n + 1, m, .ref k => (rdL m k).bind fun ds => (ds.mapM fun d => toDat n m d).map Dat.lst
  | _, _, _ => none
def scal : D → D → Bool
  | .non, .non | .non, .int _ | .int _, .non | .non, .bl _ | .bl _, .non | .non, .str _ | .str _, .non => true
  | .int _, .int _ | .bl _, .bl _ | .str _, .str _ => true
  | .int _, .str _ | .str _, .int _ | .bl _, .str _ | .str _, .bl _ => true
  | _, _ => false
def lenL (m : Mem) : D → Option Nat
  | .rol ds => some ds.length
  | .ref k => (rdL m k).map List.length
  | _ => none
def neqL (m : Mem) (a b : D) : Option Bool := match lenL m a, lenL m b with
  | some i, some j => if i = j then none else some false
  | _, _ => none
def dctOf (m : Mem) : D → Option (Bool × List (D × D))
  | .ref n => match m[n]? with
    | some (.dct t false kvs) => some (t, kvs)
    | _ => none
  | _ => none
def datEq (m : Mem) (a b : D) : Option Bool := match toDat 58 m a, toDat 58 m b with
  | some x, some y => some (Dat.eqv x y)
  | _, _ => none
def dGet (kvs : List (D × D)) (k : D) : Option D := (kvs.find? fun p => D.beq p.1 k).map (·.2)
def eqKv (m : Mem) (ls : List (D × D)) : List (D × D) → Option Bool
  | [] => some true
  | p :: r => match dGet ls p.1 with
    | none => some false
    | some y => match datEq m p.2 y, eqKv m ls r with
      | some b, some c => some (b && c)
      | _, _ => none
def eqDct (m : Mem) (a b : D) : Option Bool := match dctOf m a, dctOf m b with
  | some (t, ks), some (u, ls) => if ks.length = ls.length then (if ks = [] then some true else if t || u then none else eqKv m ls ks) else some false
  | _, _ => none
def eqD (m : Mem) (a b : D) : Option Bool :=
  if scal a b then some (D.beq a b) else match toDat 60 m a, toDat 60 m b with
    | some x, some y => some (Dat.eqv x y)
    | _, _ => match neqL m a b with
      | some r => some r
      | none => eqDct m a b
inductive O2 where
  | add | sub | mul | fdiv | mod | pow | shl | shr | band | bor | bxor
  deriving DecidableEq, Repr
inductive Cm where
  | eq | ne | lt | le | gt | ge | is | isn | inn | nin
  deriving DecidableEq, Repr
def bNot (x : Int) : Int := -x - 1
def bAnd (x y : Int) : Option Int :=
  if 0 ≤ x then (if 0 ≤ y then some ((x.toNat &&& y.toNat : Nat) : Int) else some (x - ((x.toNat &&& (bNot y).toNat : Nat) : Int)))
  else if 0 ≤ y then some (y - ((y.toNat &&& (bNot x).toNat : Nat) : Int)) else none
def small (i : Int) : Bool := decide (-18446744073709551616 < i) && decide (i < 18446744073709551616)
def op2 : O2 → D → D → Mem → Res D
  | .add, .int a, .int b, m => .ok (.int (a + b)) m
  | .add, .str a, .str b, m => if a.length + b.length ≤ LIM then .ok (.str (a ++ b)) m else .no
  | .add, .tup a, .tup b, m => if a.length + b.length ≤ LIM then .ok (.tup (a ++ b)) m else .no
  | .add, .ref p, .ref q, m => match rdL m p, rdL m q with
    | some a, some b => if a.length + b.length ≤ LIM then .ok (.ref m.length) (m ++ [.lst (a ++ b)]) else .no
    | _, _ => .no
  | .sub, .int a, .int b, m => .ok (.int (a - b)) m
  | .mul, .int a, .int b, m => if small a || small b then .ok (.int (a * b)) m else .no
  | .mul, .ref p, .int k, m => match rdL m p with
    | some a => if -9223372036854775808 ≤ k ∧ k < 9223372036854775808 ∧ a.length * k.toNat ≤ LIM then .ok (.ref m.length) (m ++ [.lst (List.replicate k.toNat a).flatten]) else .no
    | _ => .no
  | .mul, .str s, .int k, m => if -9223372036854775808 ≤ k ∧ k < 9223372036854775808 ∧ s.length * k.toNat ≤ LIM then .ok (.str (List.replicate k.toNat s).flatten) m else .no
  | .fdiv, .int a, .int b, m => if 0 < b ∧ b < 1073741824 then .ok (.int (a / b)) m else .no
  | .mod, .int a, .int b, m => if 0 < b then .ok (.int (a % b)) m else .no
  | .pow, .int a, .int b, m => if 0 ≤ b ∧ b ≤ 1000000 ∧ a.natAbs < 18446744073709551616 then .ok (.int (a ^ b.toNat)) m else .no
  | .shl, .int a, .int b, m => if 0 ≤ b ∧ b ≤ 1000000 ∧ a.natAbs < 18446744073709551616 then .ok (.int (a * 2 ^ b.toNat)) m else .no
  | .shr, .int a, .int b, m => if 0 ≤ b then .ok (.int (a / 2 ^ b.toNat)) m else .no
  | .band, .int a, .int b, m => match bAnd a b with
    | some x => .ok (.int x) m
    | none => .no
  | .bor, .int a, .int b, m => if 0 ≤ a ∧ 0 ≤ b then .ok (.int ((a.toNat ||| b.toNat : Nat) : Int)) m else match bAnd (-a - 1) (-b - 1) with
    | some x => .ok (.int (-x - 1)) m
    | none => .no
  | .bxor, .int a, .int b, m => if 0 ≤ a ∧ 0 ≤ b then .ok (.int ((a.toNat ^^^ b.toNat : Nat) : Int)) m else .no
  | _, _, _, _ => .no
def isKeyT : D → Bool
  | .int _ => true
  | .str _ => true
  | _ => false
def keyOk (t : Bool) : D → Bool
  | .tup ds => t && ds.all isKeyT
  | d => !t && isKeyT d
def flat : D → Bool
  | .non | .bl _ | .int _ | .str _ => true
  | _ => false
def eqFlat : D → D → Bool
  | .bl a, .int j => (if a then 1 else 0) == j
  | .int i, .bl b => i == (if b then 1 else 0)
  | a, b => D.beq a b
def findT (t : List Nat) : List Nat → Option Nat
  | [] => if t = [] then some 0 else none
  | x :: r => if t.isPrefixOf (x :: r) then some 0 else (findT t r).map (· + 1)
def inDat (m : Mem) (x y : D) : Option Bool := match toDat 58 m x, toDat 59 m y with
  | some a, some (.lst l) => some (l.any fun z => Dat.eqv z a)
  | _, _ => none
def inD (m : Mem) : D → D → Option Bool
  | .str t, .str z => some (findT t z).isSome
  | x, .tup ds => if flat x && ds.all flat then some (ds.any fun y => eqFlat y x) else none
  | x, .ref n => match m[n]? with
    | some (.dct t _ kvs) => if keyOk t x then some (dGet kvs x).isSome else none
    | some (.lst ds) => if flat x && ds.all flat then some (ds.any fun y => eqFlat y x) else inDat m x (.ref n)
    | _ => none
  | _, _ => none
def cmp2 : Cm → D → D → Mem → Option Bool
  | .eq, a, b, m => eqD m a b
  | .ne, a, b, m => (eqD m a b).map (!·)
  | .lt, .int a, .int b, _ => some (decide (a < b))
  | .le, .int a, .int b, _ => some (decide (a ≤ b))
  | .gt, .int a, .int b, _ => some (decide (b < a))
  | .ge, .int a, .int b, _ => some (decide (b ≤ a))
  | .lt, .str a, .str b, _ => some (decide (a < b))
  | .is, a, .non, _ => some (decide (a = .non))
  | .isn, a, .non, _ => some (!decide (a = .non))
  | .is, .bl a, .bl b, _ => some (decide (a = b))
  | .isn, .bl a, .bl b, _ => some (!decide (a = b))
  | .inn, a, b, m => inD m a b
  | .nin, a, b, m => (inD m a b).map (!·)
  | _, _, _, _ => none
def ofO (m : Mem) : Option Bool → Res D
  | some b => .ok (.bl b) m
  | none => .no
def ixN (n : Nat) (i : Int) : Option Nat := if 0 ≤ i then (if i < n then some i.toNat else none) else if -(n : Int) ≤ i then some (i + n).toNat else none
def atI {α : Type} (xs : List α) (i : Int) : Option α := (ixN xs.length i).bind fun j => xs[j]?
def sIx (n d : Nat) : Option Int → Nat
  | none => d
  | some v => if v < 0 then (v + (n : Int)).toNat else min v.toNat n
def cut {α : Type} (xs : List α) (lo hi : Option Int) : List α := (xs.drop (sIx xs.length 0 lo)).take (sIx xs.length xs.length hi - sIx xs.length 0 lo)
def dPut (kvs : List (D × D)) (k v : D) : List (D × D) := if kvs.any (fun p => D.beq p.1 k) then kvs.map (fun p => if D.beq p.1 k then (p.1, v) else p) else kvs ++ [(k, v)]
def dDrop (kvs : List (D × D)) (k : D) : List (D × D) := kvs.filter fun p => !D.beq p.1 k
def opt (m : Mem) : Option D → Res D
  | some d => .ok d m
  | none => .no
def index : D → D → Mem → Res D
  | .tup ds, .int i, m => opt m (atI ds i)
  | .rol ds, .int i, m => opt m (atI ds i)
  | .str s, .int i, m => if s.length ≤ LIM then opt m ((atI s i).map fun c => .str [c]) else .no
  | .ref n, k, m => match m[n]? with
    | some (.lst ds) => (match k with
      | .int i => opt m (atI ds i)
      | _ => .no)
    | some (.dct t _ kvs) => if keyOk t k then opt m (dGet kvs k) else .no
    | _ => .no
  | _, _, _ => .no
def slice : D → Option Int → Option Int → Mem → Res D
  | .str s, lo, hi, m => if s.length ≤ LIM then .ok (.str (cut s lo hi)) m else .no
  | .tup ds, lo, hi, m => .ok (.tup (cut ds lo hi)) m
  | x, lo, hi, m => match seqL m x with
    | some ds => .ok (.ref m.length) (m ++ [.lst (cut ds lo hi)])
    | none => .no
def ev2 {α : Type} : List α → List α
  | x :: _ :: r => x :: ev2 r
  | l => l
def every2 : D → Option Int → Mem → Res D
  | .ref n, some i, m => if 0 ≤ i then (match rdL m n with
    | some ds => .ok (.ref m.length) (m ++ [.lst (ev2 (ds.drop i.toNat))])
    | none => .no) else .no
  | _, _, _ => .no
def putA (f : Nat) (v : D) : List (Nat × D) → List (Nat × D)
  | [] => [(f, v)]
  | (g, x) :: r => if g = f then (g, v) :: r else (g, x) :: putA f v r
def storeI (a i e : D) (m : Mem) : Option Mem := match a with
  | .ref n => match m[n]? with
    | some (.lst ds) => (match i with
      | .int k => (ixN ds.length k).map fun j => m.set n (.lst (ds.set j e))
      | _ => none)
    | some (.dct t false kvs) => if keyOk t i && decide (kvs.length < LIM) then some (m.set n (.dct t false (dPut kvs i e))) else none
    | _ => none
  | _ => none
inductive Bi where
  | len | list | sorted | all | any | int | abs | sum | min1 | max1 | min2 | max2 | str | dict | rlist | tuple | intS | listS
  deriving DecidableEq, Repr
inductive Bm where
  | append | pop | pop1 | clear | find | index | get | split | partition | join | replace | startswith | extend | sindex | dpop | dclear
  deriving DecidableEq, Repr
def allB : List D → Option (List Bool)
  | [] => some []
  | .bl b :: r => (allB r).map (b :: ·)
  | _ :: _ => none
def allI : List D → Option (List Int)
  | [] => some []
  | .int b :: r => (allI r).map (b :: ·)
  | _ :: _ => none
def allS : List D → Option (List (List Nat))
  | [] => some []
  | .str b :: r => (allS r).map (b :: ·)
  | _ :: _ => none
def lenD (m : Mem) : D → Option Nat
  | .str s => if s.length ≤ LIM then some s.length else none
  | .tup ds => some ds.length
  | .rol ds => some ds.length
  | .ref n => match m[n]? with
    | some (.lst ds) => some ds.length
    | some (.dct false false kvs) => some kvs.length
    | some (.dct true false kvs) => some kvs.length
    | _ => none
  | _ => none
def minI : List Int → Option Int
  | [] => none
  | x :: r => some (r.foldl min x)
def maxI : List Int → Option Int
  | [] => none
  | x :: r => some (r.foldl max x)
def digits : Nat → List Nat
  | n => (Nat.toDigits 10 n).map Char.toNat
def key3 : D → Option (Int × Int × Int)
  | .tup [.int a, .int b, .int c] => some (a, b, c)
  | _ => none
def d3 (p : Int × Int × Int) : D := .tup [.int p.1, .int p.2.1, .int p.2.2]
def lt3 (p q : Int × Int × Int) : Bool := if p.1 = q.1 then (if p.2.1 = q.2.1 then decide (p.2.2 < q.2.2) else decide (p.2.1 < q.2.1)) else decide (p.1 < q.1)
def ins3 (x : Int × Int × Int) : List (Int × Int × Int) → List (Int × Int × Int)
  | [] => [x]
  | y :: r => if lt3 y x then y :: ins3 x r else x :: y :: r
def sort3 : List (Int × Int × Int) → List (Int × Int × Int)
  | [] => []
  | x :: r => ins3 x (sort3 r)
def intS (s : List Nat) : Option D := ((List.range 16).find? fun (k : Nat) => decide (digits k = s)).map fun (k : Nat) => D.int (k : Int)
def bi (b : Bi) (as : List D) (m : Mem) : Res D := match b, as with
  | .len, [d] => opt m ((lenD m d).map fun (k : Nat) => D.int (k : Int))
  | .list, [.ref n] => (match m[n]? with
    | some (.lst ds) => .ok (.ref m.length) (m ++ [.lst ds])
    | some (.dct false false kvs) => .ok (.ref m.length) (m ++ [.lst (kvs.map (·.1))])
    | some (.dct true false kvs) => .ok (.ref m.length) (m ++ [.lst (kvs.map (·.1))])
    | _ => .no)
  | .list, [.rol ds] => .ok (.ref m.length) (m ++ [.lst ds])
  | .list, [.tup ds] => .ok (.ref m.length) (m ++ [.lst ds])
  | .all, [.ref n] => opt m (((rdL m n).bind allB).map fun bs => .bl (bs.all id))
  | .any, [.ref n] => opt m (((rdL m n).bind allB).map fun bs => .bl (bs.any id))
  | .sum, [.ref n] => opt m (((rdL m n).bind allI).map fun ns => .int ns.sum)
  | .min1, [.ref n] => opt m ((((rdL m n).bind allI).bind minI).map .int)
  | .max1, [.ref n] => opt m ((((rdL m n).bind allI).bind maxI).map .int)
  | .min2, [.int i, .int j] => .ok (.int (if j < i then j else i)) m
  | .max2, [.int i, .int j] => .ok (.int (if j > i then j else i)) m
  | .abs, [.int i] => .ok (.int (if i < 0 then -i else i)) m
  | .int, [.int i] => .ok (.int i) m
  | .int, [.bl k] => .ok (.int (if k then 1 else 0)) m
  | .str, [.int i] => if 0 ≤ i ∧ i < 1000000 then .ok (.str (digits i.toNat)) m else .no
  | .rlist, [.int i, .int j] => if -4611686018427387904 ≤ i ∧ i ≤ j ∧ j < 4611686018427387904 ∧ (j - i).toNat ≤ LIM then .ok (.ref m.length) (m ++ [.lst ((List.range (j - i).toNat).map fun (k : Nat) => D.int (i + (k : Int)))]) else .no
  | .dict, [.ref n] => (match m[n]? with
    | some (.dct false false kvs) => .ok (.ref m.length) (m ++ [.dct false false kvs])
    | _ => .no)
  | .sorted, [.ref n] => (match (rdL m n).bind fun ds => ds.mapM key3 with
    | some l => .ok (.ref m.length) (m ++ [.lst ((sort3 l).map d3)])
    | none => .no)
  | .intS, [.str s] => opt m (intS s)
  | .listS, [.str s] => if s.length ≤ LIM then .ok (.ref m.length) (m ++ [.lst (s.map fun c => .str [c])]) else .no
  | _, _ => .no
def findS (t s : List Nat) : Int := match findT t s with
  | some k => (k : Int)
  | none => -1
def joinS (sep : List Nat) : List (List Nat) → List Nat
  | [] => []
  | [w] => w
  | w :: v :: r => w ++ sep ++ joinS sep (v :: r)
def splC (c : Nat) : List Nat → List Nat → List (List Nat)
  | acc, [] => [acc]
  | acc, x :: r => if x = c then acc :: splC c [] r else splC c (acc ++ [x]) r
def splL (S : List Nat) : Nat → List Nat → List Nat → List (List Nat)
  | _, acc, [] => [acc]
  | 0, acc, c :: r => if S.isPrefixOf (c :: r) = true then acc :: splL S (S.length - 1) [] r else splL S 0 (acc ++ [c]) r
  | k + 1, acc, _ :: r => splL S k acc r
def partT (t s : List Nat) : List Nat × List Nat × List Nat := match findT t s with
  | some j => (s.take j, t, s.drop (j + t.length))
  | none => (s, [], [])
def bm (b : Bm) (d : D) (as : List D) (m : Mem) : Res D := match b, d, as with
  | .append, .ref n, [e] => (match m[n]? with
    | some (.lst ds) => if ds.length < LIM then .ok .non (m.set n (.lst (ds ++ [e]))) else .no
    | _ => .no)
  | .pop, .ref n, [] => (match m[n]? with
    | some (.lst ds) => (match ds.getLast? with
      | some e => .ok e (m.set n (.lst ds.dropLast))
      | none => .no)
    | _ => .no)
  | .pop1, .ref n, [k] => (match m[n]? with
    | some (.lst ds) => (match k with
      | .int i => if -9223372036854775808 ≤ i ∧ i < 9223372036854775808 then (match ixN ds.length i with
        | some j => (match ds[j]? with
          | some e => .ok e (m.set n (.lst (ds.eraseIdx j)))
          | none => .no)
        | none => .no) else .no
      | _ => .no)
    | some (.dct t false kvs) => if !t && keyOk t k then (match dGet kvs k with
      | some v => .ok v (m.set n (.dct t false (dDrop kvs k)))
      | none => .no) else .no
    | _ => .no)
  | .clear, .ref n, [] => (match m[n]? with
    | some (.lst _) => .ok .non (m.set n (.lst []))
    | _ => .no)
  | .find, .str s, [.str t] => .ok (.int (findS t s)) m
  | .sindex, .str s, [.str t] => (match findT t s with
    | some k => .ok (.int (k : Int)) m
    | none => .no)
  | .index, .ref n, [x] => (match rdL m n with
    | some ds => if flat x && ds.all flat then (match ds.findIdx? (fun y => eqFlat y x) with
      | some j => .ok (.int (j : Int)) m
      | none => .no) else .no
    | none => .no)
  | .get, .ref n, [k, e] => (match m[n]? with
    | some (.dct t _ kvs) => if keyOk t k then .ok ((dGet kvs k).getD e) m else .no
    | _ => .no)
  | .split, .str s, [.str [c]] => if c < 256 ∧ s.length + 2 ≤ LIM then .ok (.ref m.length) (m ++ [.lst ((splC c [] s).map .str)]) else .no
  | .split, .str s, [.str (c :: d :: t)] => if (c :: d :: t).all (fun x => decide (x < 256)) ∧ s.length + 2 ≤ LIM then .ok (.ref m.length) (m ++ [.lst ((splL (c :: d :: t) 0 [] s).map .str)]) else .no
  | .dpop, .ref n, [k] => (match m[n]? with
    | some (.dct false false kvs) => if keyOk false k then (match dGet kvs k with
      | some v => .ok v (m.set n (.dct false false (dDrop kvs k)))
      | none => .no) else .no
    | _ => .no)
  | .dclear, .ref n, [] => (match m[n]? with
    | some (.dct false false _) => .ok .non (m.set n (.dct false false []))
    | _ => .no)
  | .partition, .str s, [.str t] => if t ≠ [] ∧ s.length ≤ LIM then .ok (.tup [.str (partT t s).1, .str (partT t s).2.1, .str (partT t s).2.2]) m else .no
  | .join, .str s, [.ref n] => (match (rdL m n).bind allS with
    | some ws => if (ws.map List.length).sum + ws.length * s.length ≤ LIM then .ok (.str (joinS s ws)) m else .no
    | none => .no)
  | .startswith, .str s, [.str t] => .ok (.bl (t.isPrefixOf s)) m
  | _, _, _ => .no
inductive Bk where
  | s | l | d
  deriving DecidableEq, Repr
def bk (m : Mem) : D → Option Bk
  | .str _ => some .s
  | .ref n => match m[n]? with
    | some (.lst _) => some .l
    | some (.dct _ _ _) => some .d
    | _ => none
  | _ => none
def bmK : Bm → Bk → Bool
  | .append, .l | .pop, .l | .pop1, .l | .clear, .l | .index, .l => true
  | .find, .s | .sindex, .s | .split, .s | .partition, .s | .join, .s | .replace, .s | .startswith, .s => true
  | .get, .d | .dpop, .d | .dclear, .d => true
  | _, _ => false
inductive Ty where
  | cls (c : Nat) | int | bool | str | list | tuple | vale
  deriving DecidableEq, Repr
inductive Tag where
  | own (c : Nat) | int | bool | str | non | tuple | list
  deriving DecidableEq, Repr
def tagOf (m : Mem) : D → Option Tag
  | .non => some .non
  | .bl _ => some .bool
  | .int _ => some .int
  | .str _ => some .str
  | .tup _ => some .tuple
  | .rol _ => some .list
  | .ins c _ => some (.own c)
  | .exc c => some (.own c)
  | .ref n => match m[n]? with
    | some (.lst _) => some .list
    | some (.obj c _) => some (.own c)
    | _ => none
  | _ => none
def tagIs (sub : Nat → Nat → Bool) (vale : Nat → Bool) : Tag → Ty → Bool
  | .own c, .cls e => sub c e
  | .own c, .vale => vale c
  | .int, .int => true
  | .bool, .int => true
  | .bool, .bool => true
  | .str, .str => true
  | .tuple, .tuple => true
  | .list, .list => true
  | _, _ => false
inductive Tg where
  | nm (i : Nat)
  | tp (l : List Tg)
  deriving Repr
mutual
inductive E where
  | var (i : Nat)
  | cst (d : D)
  | op (o : O2) (a b : E)
  | cmp (o : Cm) (a b : E)
  | chn (o o' : Cm) (a b c : E)
  | not (a : E)
  | and (a b : E)
  | or (a b : E)
  | ife (c a b : E)
  | neg (a : E)
  | inv (a : E)
  | tup (es : Es)
  | lst (es : Es)
  | dct0 (t : Bool)
  | dct (t : Bool) (l : Kv)
  | idx (a b : E)
  | slc (a : E) (lo hi : Oe)
  | rev (a : E)
  | ev2 (a : E) (lo : Oe)
  | fld (a : E) (f : Nat)
  | call (f : Nat) (es : Es)
  | make (c : Nat) (es : Es)
  | meth (a : E) (m : Nat) (es : Es)
  | clo (i : Nat) (es : Es)
  | lam (f : Nat) (cs : List Nat)
  | bi (b : Bi) (es : Es)
  | bm (a : E) (m : Bm) (es : Es)
  | isi (a : E) (ts : List Ty)
  | lc (own : List Nat) (it : It) (tg : Tg) (c : Oe) (e : E)
  | lcI (own : List Nat) (i : Nat) (tg : Tg) (c : Oe) (e : E)
  | pur (e : E)
inductive Es where
  | nil
  | cons (e : E) (es : Es)
inductive Oe where
  | none
  | some (e : E)
inductive Kv where
  | nil
  | cons (k v : E) (l : Kv)
inductive It where
  | seq (e : E)
  | rng (lo hi : E)
  | zip2 (a b : E)
  | zip3 (a b c : E)
  | items (e : E)
  | rvs (e : E)
end
mutual
inductive S where
  | set (i : Nat) (e : E)
  | unp (tg : Tg) (e : E)
  | ex (e : E)
  | ret (e : E)
  | retN
  | ifs (c : E) (a b : Ss)
  | whl (c : E) (b : Ss)
  | frs (tg : Tg) (it : It) (b : Ss)
  | frsI (tg : Tg) (i : Nat) (b : Ss)
  | brk
  | cnt
  | pss
  | rse (c : Nat)
  | try_ (b : Ss) (c : Nat) (slot : Option Nat) (h : Ss)
  | setI (a i e : E)
  | setF (a : E) (f : Nat) (e : E)
  | ndef (i f : Nat) (cs : List Nat)
  | cal (b : Ss)
inductive Ss where
  | nil
  | cons (s : S) (ss : Ss)
end
def ss : List S → Ss
  | [] => .nil
  | s :: r => .cons s (ss r)
def es : List E → Es
  | [] => .nil
  | e :: r => .cons e (es r)
structure Ctx where
  call : Nat → List D → Mem → Res D
  make : Nat → List D → Mem → Res D
  mt : Nat → Nat → Option Nat
  sub : Nat → Nat → Bool
  vale : Nat → Bool
  flds : Nat → List Nat
  fuel : Nat
mutual
def bindT (m : Mem) : Tg → D → Sto → Option Sto
  | .nm i, d, σ => some (σ.set i (some d))
  | .tp l, .tup ds, σ => bindTs m l ds σ
  | .tp l, .ref n, σ => (rdL m n).bind fun ds => bindTs m l ds σ
  | .tp _, _, _ => none
def bindTs (m : Mem) : List Tg → List D → Sto → Option Sto
  | [], [], σ => some σ
  | t :: l, d :: ds, σ => (bindT m t d σ).bind fun σ' => bindTs m l ds σ'
  | [], _ :: _, _ => none
  | _ :: _, [], _ => none
end
def Res.calm {α : Type} : Res α → Res α
  | .ok a m => .ok a m
  | _ => .no
def wipeD (σ : Sto) : List Nat → Sto
  | [] => σ
  | i :: r => (wipeD σ r).set i none
abbrev Guard := List (Nat × MO)
def gOk (g : Guard) (m : Mem) : Bool := g.all fun p => decide (m[p.1]? = some p.2)
def lcLoop (g : Guard) (n : Nat) (tg : Tg) (c e : Sto → Mem → Res D) (σ : Sto) : List D → Mem → Res D
  | [], m => if gOk g m then .ok (.ref n) m else .no
  | d :: ds, m => if gOk g m then match bindT m tg d σ with
      | some σ' => (c σ' m).calm.bind fun b m1 => match b with
        | .bl true => (e σ' m1).calm.bind fun v m2 => match m2[n]? with
          | some (.lst acc) => if acc.length < LIM then lcLoop g n tg c e σ ds (m2.set n (.lst (acc ++ [v]))) else .no
          | _ => .no
        | .bl false => lcLoop g n tg c e σ ds m1
        | _ => .no
      | none => .no
    else .no
def frLoop (g : Guard) (tg : Tg) (body : Sto → Mem → SR) : List D → Sto → Mem → SR
  | [], σ, m => if gOk g m then .nx σ m else .no
  | d :: ds, σ, m => if gOk g m then match bindT m tg d σ with
      | some σ' => match body σ' m with
        | .nx σ2 m2 => frLoop g tg body ds σ2 m2
        | .ct σ2 m2 => frLoop g tg body ds σ2 m2
        | .bk σ2 m2 => .nx σ2 m2
        | r => r
      | none => .no
    else .no
def whLoop (c : Sto → Mem → Res D) (body : Sto → Mem → SR) : Nat → Sto → Mem → SR
  | 0, _, _ => .no
  | k + 1, σ, m => (c σ m).toS σ fun b m1 => match b with
    | .bl true => (match body σ m1 with
      | .nx σ2 m2 => whLoop c body k σ2 m2
      | .ct σ2 m2 => whLoop c body k σ2 m2
      | .bk σ2 m2 => .nx σ2 m2
      | r => r)
    | .bl false => .nx σ m1
    | _ => .no
def seqOf (m : Mem) : D → Option (List D × Guard)
  | .tup ds => some (ds, [])
  | .rol ds => some (ds, [])
  | .str s => some (s.map fun c => .str [c], [])
  | .ref n => match m[n]? with
    | some (.lst ds) => some (ds, [(n, .lst ds)])
    | _ => none
  | _ => none
def lstOf (m : Mem) : D → Option (List D × Guard)
  | .rol ds => some (ds, [])
  | .ref n => match m[n]? with
    | some (.lst ds) => some (ds, [(n, .lst ds)])
    | _ => none
  | _ => none
def zipOf (m : Mem) : D → Option (List D × Guard)
  | .str s => some (s.map fun c => .str [c], [])
  | d => lstOf m d
def Res.ulk {α : Type} (n : Nat) (mo : MO) : Res α → Res α
  | .ok a m => .ok a (m.set n mo)
  | _ => .no
def SR.ulk (n : Nat) (mo : MO) : SR → SR
  | .nx σ m => .nx σ (m.set n mo)
  | .rt d m => .rt d (m.set n mo)
  | .bk σ m => .bk σ (m.set n mo)
  | .ct σ m => .ct σ (m.set n mo)
  | _ => .no
def itemsD (kvs : List (D × D)) : List D := kvs.map fun p => .tup [p.1, p.2]
def rngOk (lo hi : Int) : Bool := decide (-4611686018427387904 ≤ lo) && decide (lo < 4611686018427387904) && decide (-4611686018427387904 ≤ hi) && decide (hi < 4611686018427387904)
def rngL (lo hi : Int) : List D := (List.range (hi - lo).toNat).map fun (k : Nat) => D.int (lo + (k : Int))
mutual
def cleanD : D → Bool
  | .clo _ _ => false
  | .tup ds | .rol ds | .ins _ ds => cleanDs ds
  | _ => true
def cleanDs : List D → Bool
  | [] => true
  | d :: r => cleanD d && cleanDs r
end
def cleanMO : MO → Bool
  | .lst ds => cleanDs ds
  | .dct _ _ kvs => kvs.all fun p => cleanD p.2
  | .obj _ fs => fs.all fun p => cleanD p.2
def cleanM (m : Mem) : Bool := m.all cleanMO
def cleanS (σ : Sto) : Sto := σ.map fun o => match o with
  | some d => if cleanD d then some d else none
  | none => none
mutual
def evalE (C : Ctx) : E → Sto → Mem → Res D
  | .var i, σ, m => match σ[i]? with
    | some (some d) => .ok d m
    | _ => .no
  | .cst d, _, m => .ok d m
  | .op o a b, σ, m => (evalE C a σ m).bind fun x m1 => (evalE C b σ m1).bind fun y m2 => op2 o x y m2
  | .cmp o a b, σ, m => (evalE C a σ m).bind fun x m1 => (evalE C b σ m1).bind fun y m2 => ofO m2 (cmp2 o x y m2)
  | .chn o o' a b c, σ, m => (evalE C a σ m).bind fun x m1 => (evalE C b σ m1).bind fun y m2 => match cmp2 o x y m2 with
    | some true => (evalE C c σ m2).bind fun z m3 => ofO m3 (cmp2 o' y z m3)
    | some false => .ok (.bl false) m2
    | none => .no
  | .not a, σ, m => (evalE C a σ m).bind fun x m1 => match x with
    | .bl k => .ok (.bl (!k)) m1
    | _ => .no
  | .and a b, σ, m => (evalE C a σ m).bind fun x m1 => match x with
    | .bl true => evalE C b σ m1
    | .bl false => .ok (.bl false) m1
    | _ => .no
  | .or a b, σ, m => (evalE C a σ m).bind fun x m1 => match x with
    | .bl true => .ok (.bl true) m1
    | .bl false => evalE C b σ m1
    | _ => .no
  | .ife c a b, σ, m => (evalE C c σ m).bind fun x m1 => match x with
    | .bl true => evalE C a σ m1
    | .bl false => evalE C b σ m1
    | _ => .no
  | .neg a, σ, m => (evalE C a σ m).bind fun x m1 => match x with
    | .int i => .ok (.int (-i)) m1
    | _ => .no
  | .inv a, σ, m => (evalE C a σ m).bind fun x m1 => match x with
    | .int i => .ok (.int (bNot i)) m1
    | _ => .no
  | .tup l, σ, m => (evalEs C l σ m).bind fun ds m1 => if ds.length ≤ LIM then .ok (.tup ds) m1 else .no
  | .lst l, σ, m => (evalEs C l σ m).bind fun ds m1 => if ds.length ≤ LIM then .ok (.ref m1.length) (m1 ++ [.lst ds]) else .no
  | .dct0 t, _, m => .ok (.ref m.length) (m ++ [.dct t false []])
  | .dct t l, σ, m => (evalKV C l σ (m ++ [.dct t false []])).bind fun kvs m1 => if kvs.all (fun p => keyOk t p.1) && decide (kvs.length ≤ 15) && decide (m1[m.length]? = some (.dct t false [])) then .ok (.ref m.length) (m1.set m.length (.dct t false (kvs.foldl (fun a p => dPut a p.1 p.2) []))) else .no
  | .idx a b, σ, m => (evalE C a σ m).bind fun x m1 => (evalE C b σ m1).bind fun y m2 => index x y m2
  | .slc a lo hi, σ, m => (evalE C a σ m).bind fun x m1 => (evalO C lo σ m1).bind fun l m2 => (evalO C hi σ m2).bind fun h m3 => slice x l h m3
  | .ev2 a lo, σ, m => (evalE C a σ m).bind fun x m1 => (evalO C lo σ m1).bind fun l m2 => every2 x l m2
  | .rev a, σ, m => (evalE C a σ m).bind fun x m1 => match x with
    | .ref n => (match rdL m1 n with
      | some ds => .ok (.ref m1.length) (m1 ++ [.lst ds.reverse])
      | none => .no)
    | _ => .no
  | .fld a f, σ, m => (evalE C a σ m).bind fun x m1 => match x with
    | .ins c ds => (match (C.flds c).findIdx? (· == f) with
      | some k => opt m1 ds[k]?
      | none => .no)
    | .ref n => (match m1[n]? with
      | some (.obj _ fs) => opt m1 (fs.lookup f)
      | _ => .no)
    | _ => .no
  | .call f l, σ, m => (evalEs C l σ m).bind fun ds m1 => C.call f ds m1
  | .make c l, σ, m => (evalEs C l σ m).bind fun ds m1 => C.make c ds m1
  | .meth a n l, σ, m => (evalE C a σ m).bind fun x m1 => match x with
    | .ins c _ => (match C.mt c n with
      | some g => (evalEs C l σ m1).bind fun ds m2 => C.call g (x :: ds) m2
      | none => .no)
    | .ref k => (match m1[k]? with
      | some (.obj c _) => (match C.mt c n with
        | some g => (evalEs C l σ m1).bind fun ds m2 => C.call g (x :: ds) m2
        | none => .no)
      | _ => .no)
    | _ => .no
  | .clo i l, σ, m => match σ[i]? with
    | some (some (.clo f cs)) => (evalEs C l σ m).bind fun ds m1 => C.call f (ds ++ cs) m1
    | _ => .no
  | .lam f cs, σ, m => match cs.mapM fun j => (σ[j]?).join with
    | some ds => .ok (.clo f ds) m
    | none => .no
  | .bi b l, σ, m => (evalEs C l σ m).bind fun ds m1 => bi b ds m1
  | .bm a b l, σ, m => (evalE C a σ m).bind fun x m1 => match bk m1 x with
    | some k => if bmK b k then (evalEs C l σ m1).bind fun ds m2 => if bk m2 x = some k then bm b x ds m2 else .no else .no
    | none => .no
  | .isi a ts, σ, m => (evalE C a σ m).bind fun x m1 => match tagOf m1 x with
    | some g => .ok (.bl (ts.any fun t => tagIs C.sub C.vale g t)) m1
    | none => .no
  | .lc own it tg c e, σ, m => (evalI C it σ m).bind fun p m1 => lcLoop p.2 m1.length tg (evalC C c) (evalE C e) (wipeD σ own) p.1 (m1 ++ [.lst []])
  | .lcI own i tg c e, σ, m => match σ[i]? with
    | some (some (.ref n)) => (match m[n]? with
      | some (.dct t false kvs) => Res.ulk n (.dct t false kvs) (lcLoop [(n, .dct t true kvs)] m.length tg (evalC C c) (evalE C e) (wipeD σ own) (itemsD kvs) (m.set n (.dct t true kvs) ++ [.lst []]))
      | _ => .no)
    | _ => .no
  | .pur e, σ, m => if cleanM m then evalE C e (cleanS σ) m else .no
def evalC (C : Ctx) : Oe → Sto → Mem → Res D
  | .none, _, m => .ok (.bl true) m
  | .some e, σ, m => evalE C e σ m
def evalO (C : Ctx) : Oe → Sto → Mem → Res (Option Int)
  | .none, _, m => .ok Option.none m
  | .some e, σ, m => (evalE C e σ m).bind fun x m1 => match x with
    | .int i => .ok (Option.some i) m1
    | _ => .no
def evalEs (C : Ctx) : Es → Sto → Mem → Res (List D)
  | .nil, _, m => .ok [] m
  | .cons e l, σ, m => (evalE C e σ m).bind fun x m1 => (evalEs C l σ m1).bind fun ds m2 => .ok (x :: ds) m2
def evalKV (C : Ctx) : Kv → Sto → Mem → Res (List (D × D))
  | .nil, _, m => .ok [] m
  | .cons k v l, σ, m => (evalE C k σ m).bind fun x m1 => (evalE C v σ m1).bind fun y m2 => (evalKV C l σ m2).bind fun r m3 => .ok ((x, y) :: r) m3
def evalI (C : Ctx) : It → Sto → Mem → Res (List D × Guard)
  | .seq e, σ, m => (evalE C e σ m).bind fun x m1 => match seqOf m1 x with
    | some p => .ok p m1
    | none => .no
  | .rng lo hi, σ, m => (evalE C lo σ m).bind fun x m1 => (evalE C hi σ m1).bind fun y m2 => match x, y with
    | .int i, .int j => if rngOk i j then .ok (rngL i j, []) m2 else .no
    | _, _ => .no
  | .zip2 a b, σ, m => (evalE C a σ m).bind fun x m1 => (evalE C b σ m1).bind fun y m2 => match zipOf m2 x, zipOf m2 y with
    | some p, some q => .ok ((p.1.zip q.1).map fun z => .tup [z.1, z.2], p.2 ++ q.2) m2
    | _, _ => .no
  | .zip3 a b c, σ, m => (evalE C a σ m).bind fun x m1 => (evalE C b σ m1).bind fun y m2 => (evalE C c σ m2).bind fun z m3 => match zipOf m3 x, zipOf m3 y, zipOf m3 z with
    | some p, some q, some r => .ok ((p.1.zip (q.1.zip r.1)).map fun z => .tup [z.1, z.2.1, z.2.2], p.2 ++ q.2 ++ r.2) m3
    | _, _, _ => .no
  | .items e, σ, m => (evalE C e σ m).bind fun x m1 => match x with
    | .ref n => (match m1[n]? with
      | some (.dct t false kvs) => .ok (kvs.map fun p => .tup [p.1, p.2], [(n, .dct t false kvs)]) m1
      | _ => .no)
    | _ => .no
  | .rvs e, σ, m => (evalE C e σ m).bind fun x m1 => match lstOf m1 x with
    | some p => .ok (p.1.reverse, p.2) m1
    | none => .no
end
def start (nl : Nat) (ds : List D) : Sto := ds.map some ++ List.replicate (nl - ds.length) none
mutual
def execS (C : Ctx) : S → Sto → Mem → SR
  | .set i e, σ, m => (evalE C e σ m).toS σ fun d m1 => .nx (σ.set i (some d)) m1
  | .unp t e, σ, m => (evalE C e σ m).toS σ fun d m1 => match bindT m1 t d σ with
    | some σ' => .nx σ' m1
    | none => .no
  | .ex e, σ, m => (evalE C e σ m).toS σ fun _ m1 => .nx σ m1
  | .ret e, σ, m => (evalE C e σ m).toS σ fun d m1 => .rt d m1
  | .retN, _, m => .rt .non m
  | .ifs c a b, σ, m => (evalE C c σ m).toS σ fun d m1 => match d with
    | .bl true => execSs C a σ m1
    | .bl false => execSs C b σ m1
    | _ => .no
  | .whl c b, σ, m => whLoop (evalE C c) (execSs C b) C.fuel σ m
  | .frs tg it b, σ, m => (evalI C it σ m).toS σ fun p m1 => frLoop p.2 tg (execSs C b) p.1 σ m1
  | .frsI tg i b, σ, m => match σ[i]? with
    | some (some (.ref n)) => (match m[n]? with
      | some (.dct t false kvs) => SR.ulk n (.dct t false kvs) (frLoop [(n, .dct t true kvs)] tg (execSs C b) (itemsD kvs) σ (m.set n (.dct t true kvs)))
      | _ => .no)
    | _ => .no
  | .brk, σ, m => .bk σ m
  | .cnt, σ, m => .ct σ m
  | .pss, σ, m => .nx σ m
  | .rse c, σ, m => .ex c σ m
  | .try_ b c sl h, σ, m => match execSs C b σ m with
    | .ex e σ1 m1 => if C.sub e e then (if C.sub e c then match sl with
        | none => execSs C h σ1 m1
        | some i => (match execSs C h (σ1.set i (some (.exc e))) m1 with
          | .nx σ2 m2 => .nx (σ2.set i none) m2
          | .bk σ2 m2 => .bk (σ2.set i none) m2
          | .ct σ2 m2 => .ct (σ2.set i none) m2
          | r => r)
      else .ex e σ1 m1) else .no
    | r => r
  | .setI a i e, σ, m => (evalE C e σ m).toS σ fun v m1 => (evalE C a σ m1).toS σ fun x m2 => (evalE C i σ m2).toS σ fun k m3 => match storeI x k v m3 with
    | some m4 => .nx σ m4
    | none => .no
  | .setF a f e, σ, m => (evalE C e σ m).toS σ fun v m1 => (evalE C a σ m1).toS σ fun x m2 => match x with
    | .ref n => (match m2[n]? with
      | some (.obj c fs) => if fs.length < 1000 then .nx σ (m2.set n (.obj c (putA f v fs))) else .no
      | _ => .no)
    | _ => .no
  | .ndef i f cs, σ, m => match cs.mapM fun j => (σ[j]?).join with
    | some ds => .nx (σ.set i (some (.clo f ds))) m
    | none => .no
  | .cal b, σ, m => (execSs C b σ m).cal
def execSs (C : Ctx) : Ss → Sto → Mem → SR
  | .nil, σ, m => .nx σ m
  | .cons s r, σ, m => (execS C s σ m).seq fun σ' m' => execSs C r σ' m'
end
inductive Fn where
  | fn (np nl : Nat) (b : Ss)
  | ini (c np nl : Nat) (l : Es)
inductive CI where
  | bare | imm (f : Nat) | chg (f : Nat)
  deriving DecidableEq
structure Prog where
  fns : Nat → Option Fn
  cini : Nat → Option CI
  mt : Nat → Nat → Option Nat
  sub : Nat → Nat → Bool
  vale : Nat → Bool
  flds : Nat → List Nat
  fuel : Nat
def fin : SR → Res D
  | .nx _ m => .ok .non m
  | .rt d m => .ok d m
  | .ex c _ m => .ex c m
  | _ => .no
def mk (P : Prog) (call : Nat → List D → Mem → Res D) (c : Nat) (ds : List D) (m : Mem) : Res D := match P.cini c with
  | some .bare => if ds = [] then .ok (.ins c []) m else .no
  | some (.imm f) => (call f ds m).calm
  | some (.chg f) => (call f (.ref m.length :: ds) (m ++ [.obj c []])).calm.bind fun r m1 => if r = .non then .ok (.ref m.length) m1 else .no
  | none => .no
def ctx (P : Prog) (call call' : Nat → List D → Mem → Res D) : Ctx := ⟨call, mk P call', P.mt, P.sub, P.vale, P.flds, P.fuel⟩
def runFn (C : Ctx) (F : Fn) (ds : List D) (m : Mem) : Res D := match F with
  | .fn np nl b => if ds.length = np then fin (execSs C b (start nl ds) m) else .no
  | .ini c np nl l => if ds.length = np then (evalEs C l (none :: start (nl - 1) ds) m).bind fun vs m1 => .ok (.ins c vs) m1 else .no
def call (P : Prog) : Nat → Nat → List D → Mem → Res D
  | 0, _, _, _ => .no
  | 1, f, ds, m => (match P.fns f with
    | some F => runFn (ctx P (fun _ _ _ => .no) (fun _ _ _ => .no)) F ds m
    | none => .no)
  | n + 2, f, ds, m => (match P.fns f with
    | some F => runFn (ctx P (call P (n + 1)) (call P n)) F ds m
    | none => .no)
end FS
namespace FS
open PySem L2
structure CloI where
  st : Stmt
  name : Str
  qual : Str
  ps : List Str
  fr : List Str
  lam : Option Expr := none
def LamO (f : Addr) (F : NdefX.NF) (e : Expr) : HO := .ext fun h => ∃ (od : Option Addr) (sl : Array (Option Value)) (pm ctv : Value), h.get? f = some (⟨.type "function", od, .func (PySem.W.kla_fn F.name F.qual F.params e F.scope F.cl pm (.ref F.c) ctv), sl⟩ : Obj)
def FO (lam : Option Expr) (f : Addr) (F : NdefX.NF) : HO := match lam with
  | none => NdefX.FnO f F
  | some e => LamO f F e
theorem fO_at {P : Program} {w : World} {H : Hp} {h : Heap} {lam : Option Expr} {f : Addr} {F : NdefX.NF} (hok : HOk P w H h) (e : H f = some (FO lam f F)) : PySem.W.FnAt f h := by
  cases lam with
  | none =>
    obtain ⟨od, sl, doc, pm, ctv, ho⟩ := NdefX.fnO_at hok e
    exact ⟨_, od, _, sl, ho⟩
  | some b =>
    obtain ⟨⟨od, sl, pm, ctv, ho⟩, _, _⟩ := hok f _ e
    exact ⟨_, od, _, sl, ho⟩
def ExcH (o : Obj) : HO := .frz o (.own 0)
structure Gam where
  cls : Nat → Addr
  fnm : Nat → Str
  kf : Nat → Bool
  flds : Nat → List Nat
  imm : Nat → Bool
  mu : Nat → Bool
  kc : Nat → Bool
  fa : Nat → Addr
  kfn : Nat → Bool
  mn : Nat → Str
  pn : Nat → List Str
  own : List (Nat × Addr × V)
  sl : Nat → Bool
  clo : Nat → Option CloI
  tabs : List NdefX.NTab
  xc : Nat → Bool := fun _ => false
  kv : Bool := false
def Gam.ow (G : Gam) (own : List (Nat × Addr × V)) (sl : Nat → Bool) : Gam := { G with own := own, sl := sl }
abbrev Gam.z (G : Gam) : Gam := G.ow [] fun _ => false
def CelO (o : Obj) : HO := .frz o (.ext fun _ => True)
theorem celO_inj {o u : Obj} (h : CelO o = CelO u) : o = u := by
  unfold CelO at h
  injection h
def CellG (G : Gam) (as : List Addr) (H : Hp) (c : Addr) (v : V) : Prop := (c ∉ as ∧ ∃ o u, H c = some (CelO o) ∧ o.data = .cell (some u) ∧ RelV v u) ∨ ∃ j, (j, c, v) ∈ G.own
structure CellsG (G : Gam) (as : List Addr) (H : Hp) (cl : List (Str × Addr)) (fr : List Str) (ws : List V) : Prop where
  len : ws.length = fr.length
  inj : ∀ x y c, cl.lookup x = some c → cl.lookup y = some c → x = y
  sub : ∀ y c, cl.lookup y = some c → y ∈ fr
  has : ∀ (i : Nat) (y : Str), fr[i]? = some y → ∃ c v, cl.lookup y = some c ∧ ws[i]? = some v ∧ CellG G as H c v
def fsOf (G : Gam) (c : Nat) (vs : List V) : List (Str × V) := ((G.flds c).map G.fnm).zip vs
def RoL (K : PySem.W.Frag) (as : List Addr) (H : Hp) (p : Addr) (vs : List V) : Prop :=
  (p ∉ as ∧ ∃ o, H p = some (.frz o (.lst vs))) ∨ (p ∉ as ∧ H p = some (.lst vs)) ∨
    ∃ (o : Obj) (its : Array Value) (n : Nat), K.lookup p = some o ∧ o.cls = .type "list" ∧ o.dict = none ∧ o.data = .seq its n ∧ its.size ≤ sizeLine ∧ Vals vs its.toList
theorem RoL.seq {K : PySem.W.Frag} {as : List Addr} {H : Hp} {p : Addr} {vs : List V} (h : RoL K as H p vs) : SqL K H p vs := by
  rcases h with ⟨_, o, h⟩ | ⟨_, h⟩ | h
  · exact .inl (.inr ⟨o, h⟩)
  · exact .inl (.inl h)
  · exact .inr h
mutual
def Rep (G : Gam) (K : PySem.W.Frag) (as : List Addr) (H : Hp) : D → V → Prop
  | .non, v => v = .non
  | .bl b, v => v = .bl b
  | .int i, v => v = .int i
  | .str s, v => v = .str ⟨s.toArray⟩
  | .tup ds, v => ∃ p vs, v = .ref p ∧ p ∉ as ∧ H p = some (.tup vs) ∧ Reps G K as H ds vs
  | .rol ds, v => ∃ p vs, v = .ref p ∧ RoL K as H p vs ∧ Reps G K as H ds vs
  | .ins c ds, v => ∃ p dx vs, v = .ref p ∧ p ∉ as ∧ G.imm c = true ∧ H p = some (.ins (G.cls c) dx (fsOf G c vs)) ∧ vs.length = (G.flds c).length ∧ Reps G K as H ds vs
  | .ref n, v => ∃ p, v = .ref p ∧ as[n]? = some p
  | .exc c, v => ∃ p o, v = .ref p ∧ p ∉ as ∧ G.xc c = true ∧ H p = some (ExcH o) ∧ Zc (.ref (G.cls c)) none o ∧ ∃ vs, o.data = .fields vs
  | .clo f ds, v => ∃ p I cl c ws, v = .ref p ∧ p ∉ as ∧ G.clo f = some I ∧ H p = some (FO I.lam p (NdefX.NF.of I.st I.name I.qual cl c)) ∧ c ∉ as ∧ H c = some (LamX.CodeO c I.qual) ∧ CellsG G as H cl I.fr ws ∧ Reps G K as H ds ws
def Reps (G : Gam) (K : PySem.W.Frag) (as : List Addr) (H : Hp) : List D → List V → Prop
  | [], vs => vs = []
  | d :: ds, vs => ∃ v r, vs = v :: r ∧ Rep G K as H d v ∧ Reps G K as H ds r
end
section
variable {G : Gam} {K : PySem.W.Frag} {as as' : List Addr} {H H' : Hp}
theorem reps_iff : ∀ {ds : List D} {vs : List V}, Reps G K as H ds vs ↔ vs.length = ds.length ∧ ∀ (i : Nat) (d : D) (v : V), ds[i]? = some d → vs[i]? = some v → Rep G K as H d v
  | [], vs => by
    simp only [Reps]
    constructor
    · rintro rfl
      exact ⟨rfl, fun i d v h => by simp at h⟩
    · rintro ⟨h, _⟩
      simpa using h
  | d :: ds, vs => by
    simp only [Reps]
    constructor
    · rintro ⟨v, r, rfl, h1, h2⟩
      obtain ⟨hl, h2⟩ := reps_iff.mp h2
      refine ⟨by simp [hl], fun i e u he hu => ?_⟩
      cases i with
      | zero => simp at he hu; subst he; subst hu; exact h1
      | succ i => exact h2 i e u (by simpa using he) (by simpa using hu)
    · rintro ⟨hl, h⟩
      cases vs with
      | nil => simp at hl
      | cons v r => exact ⟨v, r, rfl, h 0 d v rfl rfl, reps_iff.mpr ⟨by simpa using hl, fun i e u he hu => h (i + 1) e u (by simpa using he) (by simpa using hu)⟩⟩
theorem Reps.len {ds : List D} {vs : List V} (h : Reps G K as H ds vs) : vs.length = ds.length := (reps_iff.mp h).1
theorem Reps.get {ds : List D} {vs : List V} (h : Reps G K as H ds vs) {i : Nat} {d : D} (e : ds[i]? = some d) : ∃ v, vs[i]? = some v ∧ Rep G K as H d v := by
  obtain ⟨hl, h⟩ := reps_iff.mp h
  have hi : i < vs.length := by rw [hl]; exact (List.getElem?_eq_some_iff.mp e).1
  exact ⟨vs[i], List.getElem?_eq_getElem hi, h i d _ e (List.getElem?_eq_getElem hi)⟩
theorem reps_nil : Reps G K as H [] [] := rfl
theorem reps_cons {d : D} {ds : List D} {v : V} {vs : List V} (h1 : Rep G K as H d v) (h2 : Reps G K as H ds vs) : Reps G K as H (d :: ds) (v :: vs) := ⟨v, vs, rfl, h1, h2⟩
theorem reps_app {ds es : List D} {vs us : List V} (h1 : Reps G K as H ds vs) (h2 : Reps G K as H es us) : Reps G K as H (ds ++ es) (vs ++ us) := by
  induction ds generalizing vs with
  | nil => simp only [Reps] at h1; subst h1; exact h2
  | cons d ds ih =>
    obtain ⟨v, r, rfl, h1, h3⟩ := h1
    exact ⟨v, r ++ us, rfl, h1, ih h3⟩
theorem reps_one {d : D} {v : V} (h : Rep G K as H d v) : Reps G K as H [d] [v] := reps_cons h reps_nil
theorem reps_set {ds : List D} {vs : List V} {n : Nat} {d : D} {v : V} (h : Reps G K as H ds vs) (hd : Rep G K as H d v) : Reps G K as H (ds.set n d) (vs.set n v) := by
  obtain ⟨hl, h⟩ := reps_iff.mp h
  refine reps_iff.mpr ⟨by simp [hl], fun i e u h1 h2 => ?_⟩
  by_cases q : n = i
  · subst q
    have a1 : n < ds.length := by
      have := (List.getElem?_eq_some_iff.mp h1).1
      simpa using this
    rw [List.getElem?_set_self a1] at h1
    rw [List.getElem?_set_self (by omega)] at h2
    cases h1; cases h2
    exact hd
  · rw [List.getElem?_set_ne q] at h1 h2
    exact h i e u h1 h2
structure Grow (as : List Addr) (H : Hp) (as' : List Addr) (H' : Hp) : Prop where
  pre : ∃ t, as' = as ++ t
  new : ∀ p, p ∈ as' → p ∈ as ∨ H p = none
  keep : ∀ p o, H p = some o → p ∉ as → (∀ ps, o ≠ .tbl ps) → H' p = some o
  kept : ∀ p o, H p = some o → p ∉ as → H' p ≠ none
  fz : ∀ p o x, H p = some (.frz o x) → H' p = some (.frz o x)
structure Grow0 (as : List Addr) (H : Hp) (as' : List Addr) (H' : Hp) : Prop where
  pre : ∃ t, as' = as ++ t
  new : ∀ p, p ∈ as' → p ∈ as ∨ H p = none
  keep : ∀ p o, H p = some o → p ∉ as → (∀ ps, o ≠ .tbl ps) → H' p = some o
  kept : ∀ p o, H p = some o → p ∉ as → H' p ≠ none
theorem Grow.w (g : Grow as H as' H') : Grow0 as H as' H' := ⟨g.pre, g.new, g.keep, g.kept⟩
theorem Grow0.notin (g : Grow0 as H as' H') {p : Addr} {o : HO} (e : H p = some o) (hn : p ∉ as) : p ∉ as' := fun hm => by
  rcases g.new p hm with h | h
  · exact hn h
  · rw [e] at h; cases h
theorem Grow0.ix (g : Grow0 as H as' H') {n : Nat} {p : Addr} (e : as[n]? = some p) : as'[n]? = some p := by
  obtain ⟨t, rfl⟩ := g.pre
  rw [List.getElem?_append_left (List.getElem?_eq_some_iff.mp e).1]
  exact e
theorem Grow.refl : Grow as H as H := ⟨⟨[], by simp⟩, fun _ h => .inl h, fun _ _ h _ _ => h, fun _ _ h _ => by rw [h]; simp, fun _ _ _ h => h⟩
theorem Grow.there (g : Grow as H as' H') {p : Addr} {o : HO} (e : H p = some o) (hn : p ∉ as) : H' p ≠ none := g.kept p o e hn
theorem Grow.trans {as2 : List Addr} {H2 : Hp} (a : Grow as H as' H') (b : Grow as' H' as2 H2) : Grow as H as2 H2 where
  pre := by
    obtain ⟨t, e⟩ := a.pre
    obtain ⟨u, e'⟩ := b.pre
    exact ⟨t ++ u, by rw [e', e, List.append_assoc]⟩
  new := fun p hp => by
    rcases b.new p hp with h | h
    · exact a.new p h
    · cases e : H p with
      | none => exact .inr rfl
      | some o =>
        by_cases hm : p ∈ as
        · exact .inl hm
        · exact absurd h (a.there e hm)
  keep := fun p o e hn ht => by
    refine b.keep p o (a.keep p o e hn ht) (fun hm => ?_) ht
    rcases a.new p hm with h | h
    · exact hn h
    · rw [e] at h; cases h
  kept := fun p o e hn => by
    obtain ⟨o', e'⟩ := Option.ne_none_iff_exists'.mp (a.kept p o e hn)
    refine b.kept p o' e' fun hm => ?_
    rcases a.new p hm with h | h
    · exact hn h
    · rw [e] at h; cases h
  fz := fun p o x e => b.fz p o x (a.fz p o x e)
theorem Grow.notin (g : Grow as H as' H') {p : Addr} {o : HO} (e : H p = some o) (hn : p ∉ as) : p ∉ as' := fun hm => by
  rcases g.new p hm with h | h
  · exact hn h
  · rw [e] at h; cases h
theorem Grow.ix (g : Grow as H as' H') {n : Nat} {p : Addr} (e : as[n]? = some p) : as'[n]? = some p := by
  obtain ⟨t, rfl⟩ := g.pre
  rw [List.getElem?_append_left (List.getElem?_eq_some_iff.mp e).1]
  exact e
theorem RoL.gr0 {p : Addr} {vs : List V} (h : RoL K as H p vs) (g : Grow0 as H as' H') : RoL K as' H' p vs := by
  rcases h with ⟨hn, o, h⟩ | ⟨hn, h⟩ | h
  · exact .inl ⟨g.notin h hn, o, g.keep _ _ h hn nofun⟩
  · exact .inr (.inl ⟨g.notin h hn, g.keep _ _ h hn nofun⟩)
  · exact .inr (.inr h)
theorem CellG.gr0 {c : Addr} {v : V} (h : CellG G as H c v) (g : Grow0 as H as' H') : CellG G as' H' c v := by
  rcases h with ⟨hn, o, u, h1, h2, h3⟩ | h
  · exact .inl ⟨g.notin h1 hn, o, u, g.keep _ _ h1 hn nofun, h2, h3⟩
  · exact .inr h
theorem RoL.grow {p : Addr} {vs : List V} (h : RoL K as H p vs) (g : Grow as H as' H') : RoL K as' H' p vs := h.gr0 g.w
theorem CellG.grow {c : Addr} {v : V} (h : CellG G as H c v) (g : Grow as H as' H') : CellG G as' H' c v := h.gr0 g.w
theorem CellsG.imp {G' : Gam} {cl : List (Str × Addr)} {fr : List Str} {ws : List V} (h : CellsG G as H cl fr ws) (k : ∀ c v, CellG G as H c v → CellG G' as' H' c v) : CellsG G' as' H' cl fr ws :=
  ⟨h.len, h.inj, h.sub, fun i y e => by
    obtain ⟨c, v, h1, h2, h3⟩ := h.has i y e
    exact ⟨c, v, h1, h2, k c v h3⟩⟩
theorem fnO_tbl {lam : Option Expr} {f : Addr} {F : NdefX.NF} : ∀ ps, FO lam f F ≠ .tbl ps := fun ps => by
  cases lam with
  | none => exact NdefX.fnO_ne ps
  | some e => intro z; unfold FO LamO at z; cases z
theorem codeO_tbl {c : Addr} {q : Str} : ∀ ps, LamX.CodeO c q ≠ .tbl ps := fun ps z => by
  unfold LamX.CodeO at z
  cases z
mutual
theorem Rep.gr0 (g : Grow0 as H as' H') : ∀ {d : D} {v : V}, Rep G K as H d v → Rep G K as' H' d v
  | .non, _, h => by simp only [Rep] at h ⊢; exact h
  | .bl _, _, h => by simp only [Rep] at h ⊢; exact h
  | .int _, _, h => by simp only [Rep] at h ⊢; exact h
  | .str _, _, h => by simp only [Rep] at h ⊢; exact h
  | .tup ds, _, h => by
    simp only [Rep] at h ⊢
    obtain ⟨p, vs, e, hn, hp, r⟩ := h
    exact ⟨p, vs, e, g.notin hp hn, g.keep _ _ hp hn nofun, Reps.gr0 g r⟩
  | .rol ds, _, h => by
    simp only [Rep] at h ⊢
    obtain ⟨p, vs, e, hp, r⟩ := h
    exact ⟨p, vs, e, hp.gr0 g, Reps.gr0 g r⟩
  | .ins c ds, _, h => by
    simp only [Rep] at h ⊢
    obtain ⟨p, dx, vs, e, hn, hc, hp, hl, r⟩ := h
    exact ⟨p, dx, vs, e, g.notin hp hn, hc, g.keep _ _ hp hn nofun, hl, Reps.gr0 g r⟩
  | .ref n, _, h => by
    simp only [Rep] at h ⊢
    obtain ⟨p, e, hp⟩ := h
    exact ⟨p, e, g.ix hp⟩
  | .exc c, _, h => by
    simp only [Rep] at h ⊢
    obtain ⟨p, o, e, hn, hc, hp, r⟩ := h
    exact ⟨p, o, e, g.notin hp hn, hc, g.keep _ _ hp hn (fun ps z => by unfold ExcH at z; cases z), r⟩
  | .clo f ds, _, h => by
    simp only [Rep] at h ⊢
    obtain ⟨p, I, cl, c, ws, e, hn, hi, hp, hcn, hc, C, r⟩ := h
    exact ⟨p, I, cl, c, ws, e, g.notin hp hn, hi, g.keep _ _ hp hn fnO_tbl, g.notin hc hcn, g.keep _ _ hc hcn codeO_tbl, C.imp fun c' v hc' => hc'.gr0 g, Reps.gr0 g r⟩
theorem Reps.gr0 (g : Grow0 as H as' H') : ∀ {ds : List D} {vs : List V}, Reps G K as H ds vs → Reps G K as' H' ds vs
  | [], _, h => by simp only [Reps] at h ⊢; exact h
  | d :: ds, _, h => by
    simp only [Reps] at h ⊢
    obtain ⟨v, r, e, h1, h2⟩ := h
    exact ⟨v, r, e, Rep.gr0 g h1, Reps.gr0 g h2⟩
end
theorem Rep.grow (g : Grow as H as' H') {d : D} {v : V} (h : Rep G K as H d v) : Rep G K as' H' d v := h.gr0 g.w
theorem Reps.grow (g : Grow as H as' H') {d : List D} {v : List V} (h : Reps G K as H d v) : Reps G K as' H' d v := h.gr0 g.w
def keyV : D → Option Key
  | .int i => some (.inl i)
  | .str s => some (.inr ⟨s.toArray⟩)
  | _ => none
def keyT : D → Option (List Key)
  | .tup ds => ds.mapM keyV
  | _ => none
def KvsK (G : Gam) (K : PySem.W.Frag) (as : List Addr) (H : Hp) : List (D × D) → List (Key × V) → Prop
  | [], ks => ks = []
  | p :: r, ks => ∃ k v t, ks = (k, v) :: t ∧ keyV p.1 = some k ∧ Rep G K as H p.2 v ∧ KvsK G K as H r t
def KvsT (G : Gam) (K : PySem.W.Frag) (as : List Addr) (H : Hp) : List (D × D) → List (List Key × V) → Prop
  | [], ks => ks = []
  | p :: r, ks => ∃ k v t, ks = (k, v) :: t ∧ keyT p.1 = some k ∧ Rep G K as H p.2 v ∧ KvsT G K as H r t
def Flds (G : Gam) (K : PySem.W.Frag) (as : List Addr) (H : Hp) : List (Nat × D) → List (Str × V) → Prop
  | [], ks => ks = []
  | p :: r, ks => ∃ v t, ks = (G.fnm p.1, v) :: t ∧ G.kf p.1 = true ∧ Rep G K as H p.2 v ∧ Flds G K as H r t
theorem KvsK.gr0 (g : Grow0 as H as' H') : ∀ {l : List (D × D)} {ks : List (Key × V)}, KvsK G K as H l ks → KvsK G K as' H' l ks
  | [], _, h => h
  | _ :: _, _, ⟨k, v, t, e, h1, h2, h3⟩ => ⟨k, v, t, e, h1, h2.gr0 g, KvsK.gr0 g h3⟩
theorem KvsT.gr0 (g : Grow0 as H as' H') : ∀ {l : List (D × D)} {ks : List (List Key × V)}, KvsT G K as H l ks → KvsT G K as' H' l ks
  | [], _, h => h
  | _ :: _, _, ⟨k, v, t, e, h1, h2, h3⟩ => ⟨k, v, t, e, h1, h2.gr0 g, KvsT.gr0 g h3⟩
theorem Flds.gr0 (g : Grow0 as H as' H') : ∀ {l : List (Nat × D)} {ks : List (Str × V)}, Flds G K as H l ks → Flds G K as' H' l ks
  | [], _, h => h
  | _ :: _, _, ⟨v, t, e, hk, h1, h2⟩ => ⟨v, t, e, hk, h1.gr0 g, Flds.gr0 g h2⟩
theorem KvsK.grow (g : Grow as H as' H') {l : List (D × D)} {ks : List (Key × V)} (h : KvsK G K as H l ks) : KvsK G K as' H' l ks := h.gr0 g.w
theorem KvsT.grow (g : Grow as H as' H') {l : List (D × D)} {ks : List (List Key × V)} (h : KvsT G K as H l ks) : KvsT G K as' H' l ks := h.gr0 g.w
theorem Flds.grow (g : Grow as H as' H') {l : List (Nat × D)} {ks : List (Str × V)} (h : Flds G K as H l ks) : Flds G K as' H' l ks := h.gr0 g.w
def MRep (G : Gam) (K : PySem.W.Frag) (as : List Addr) (H : Hp) (p : Addr) : MO → Prop
  | .lst ds => ∃ vs, H p = some (.lst vs) ∧ Reps G K as H ds vs
  | .dct false false kvs => ∃ ks, H p = some (.dK ks) ∧ KvsK G K as H kvs ks
  | .dct true false kvs => ∃ ks, H p = some (.dT ks) ∧ KvsT G K as H kvs ks
  | .dct false true kvs => ∃ ks o, H p = some (.frz o (.dK ks)) ∧ KvsK G K as H kvs ks
  | .dct true true kvs => ∃ ks o, H p = some (.frz o (.dT ks)) ∧ KvsT G K as H kvs ks
  | .obj c fs => ∃ dx vs, G.mu c = true ∧ H p = some (.ins (G.cls c) dx vs) ∧ Flds G K as H fs vs
theorem MRep.some {p : Addr} {mo : MO} (h : MRep G K as H p mo) : ∃ o, H p = some o := by
  cases mo with
  | lst ds => obtain ⟨vs, e, _⟩ := h; exact ⟨_, e⟩
  | obj c fs => obtain ⟨dx, vs, _, e, _⟩ := h; exact ⟨_, e⟩
  | dct t z kvs =>
    cases t <;> cases z
    · obtain ⟨ks, e, _⟩ := h; exact ⟨_, e⟩
    · obtain ⟨ks, o, e, _⟩ := h; exact ⟨_, e⟩
    · obtain ⟨ks, e, _⟩ := h; exact ⟨_, e⟩
    · obtain ⟨ks, o, e, _⟩ := h; exact ⟨_, e⟩
theorem MRep.gr0 {p : Addr} {mo : MO} (h : MRep G K as H p mo) (g : Grow0 as H as' H') (e : H' p = H p) : MRep G K as' H' p mo := by
  cases mo with
  | lst ds => obtain ⟨vs, e1, r⟩ := h; exact ⟨vs, e.trans e1, r.gr0 g⟩
  | obj c fs => obtain ⟨dx, vs, hc, e1, r⟩ := h; exact ⟨dx, vs, hc, e.trans e1, r.gr0 g⟩
  | dct t z kvs =>
    cases t <;> cases z
    · obtain ⟨ks, e1, r⟩ := h; exact ⟨ks, e.trans e1, r.gr0 g⟩
    · obtain ⟨ks, o, e1, r⟩ := h; exact ⟨ks, o, e.trans e1, r.gr0 g⟩
    · obtain ⟨ks, e1, r⟩ := h; exact ⟨ks, e.trans e1, r.gr0 g⟩
    · obtain ⟨ks, o, e1, r⟩ := h; exact ⟨ks, o, e.trans e1, r.gr0 g⟩
theorem MRep.grow {p : Addr} {mo : MO} (h : MRep G K as H p mo) (g : Grow as H as' H') (e : H' p = H p) : MRep G K as' H' p mo := h.gr0 g.w e
structure Rel (G : Gam) (K : PySem.W.Frag) (as : List Addr) (m : Mem) (H : Hp) : Prop where
  len : as.length = m.length
  nd : as.Nodup
  at_ : ∀ (i : Nat) (p : Addr) (mo : MO), as[i]? = some p → m[i]? = some mo → MRep G K as H p mo
  tabs : NdefX.TabsN G.tabs H
variable {m : Mem}
theorem MRep.nco {p : Addr} {mo : MO} (h : MRep G K as H p mo) : ∀ φ, H p ≠ Option.some (.ext φ) := fun φ z => by
  cases mo with
  | lst ds => obtain ⟨vs, e, _⟩ := h; rw [z] at e; cases e
  | obj c fs => obtain ⟨dx, vs, _, e, _⟩ := h; rw [z] at e; cases e
  | dct t z' kvs =>
    cases t <;> cases z'
    · obtain ⟨ks, e, _⟩ := h; rw [z] at e; cases e
    · obtain ⟨ks, o, e, _⟩ := h; rw [z] at e; cases e
    · obtain ⟨ks, e, _⟩ := h; rw [z] at e; cases e
    · obtain ⟨ks, o, e, _⟩ := h; rw [z] at e; cases e
theorem MRep.ntb {p : Addr} {mo : MO} (h : MRep G K as H p mo) : ∀ ps, H p ≠ Option.some (.tbl ps) := fun φ z => by
  cases mo with
  | lst ds => obtain ⟨vs, e, _⟩ := h; rw [z] at e; cases e
  | obj c fs => obtain ⟨dx, vs, _, e, _⟩ := h; rw [z] at e; cases e
  | dct t z' kvs =>
    cases t <;> cases z'
    · obtain ⟨ks, e, _⟩ := h; rw [z] at e; cases e
    · obtain ⟨ks, o, e, _⟩ := h; rw [z] at e; cases e
    · obtain ⟨ks, e, _⟩ := h; rw [z] at e; cases e
    · obtain ⟨ks, o, e, _⟩ := h; rw [z] at e; cases e
theorem tabs_imp {T : List NdefX.NTab} (h : NdefX.TabsN T H) (k : ∀ b o, H b = some o → ((∃ ps, o = .tbl ps) ∨ ∃ φ, o = .ext φ) → H' b = some o) : NdefX.TabsN T H' := fun p hp => by
  obtain ⟨ps, h1, h2, h3⟩ := h p hp
  refine ⟨ps, k _ _ h1 (.inl ⟨ps, rfl⟩), h2, fun pos cv hc => ?_⟩
  obtain ⟨c, e1, e2⟩ := h3 pos cv hc
  exact ⟨c, e1, k _ _ e2 (.inr ⟨_, rfl⟩)⟩
theorem Rel.cell (R : Rel G K as m H) {n : Nat} {mo : MO} (e : m[n]? = some mo) : ∃ p, as[n]? = some p ∧ MRep G K as H p mo := by
  have hn : n < as.length := by rw [R.len]; exact (List.getElem?_eq_some_iff.mp e).1
  exact ⟨as[n], List.getElem?_eq_getElem hn, R.at_ n _ mo (List.getElem?_eq_getElem hn) e⟩
theorem Rel.tracked (R : Rel G K as m H) {p : Addr} (h : p ∈ as) : ∃ o, H p = some o := by
  obtain ⟨i, hi⟩ := List.mem_iff_getElem?.mp h
  have hn : i < m.length := by rw [← R.len]; exact (List.getElem?_eq_some_iff.mp hi).1
  exact (R.at_ i p _ hi (List.getElem?_eq_getElem hn)).some
theorem Rel.fresh (R : Rel G K as m H) {p : Addr} (h : H p = none) : p ∉ as := fun hm => by
  obtain ⟨o, e⟩ := R.tracked hm
  rw [h] at e; cases e
theorem Rel.newI (R : Rel G K as m H) {p : Addr} (h : H p = none) (o : HO) : Grow as H as (upd H p o) ∧ Rel G K as m (upd H p o) ∧ p ∉ as := by
  have g : Grow as H as (upd H p o) := ⟨⟨[], by simp⟩, fun _ h => .inl h, fun q u e _ _ => by rw [upd_ne (ne_of_none e h)]; exact e, fun q ps e _ => by rw [upd_ne (ne_of_none e h), e]; simp, fun q u x e => by rw [upd_ne (ne_of_none e h)]; exact e⟩
  refine ⟨g, ⟨R.len, R.nd, fun i q mo e1 e2 => ?_, tabs_imp R.tabs fun b o e _ => by rw [upd_ne (ne_of_none e h)]; exact e⟩, R.fresh h⟩
  have r := R.at_ i q mo e1 e2
  obtain ⟨u, hu⟩ := r.some
  exact r.grow g (upd_ne (ne_of_none hu h))
theorem Rel.newM (R : Rel G K as m H) {p : Addr} (h : H p = none) {o : HO} {mo : MO} (hm : Grow as H (as ++ [p]) (upd H p o) → MRep G K (as ++ [p]) (upd H p o) p mo) :
    Grow as H (as ++ [p]) (upd H p o) ∧ Rel G K (as ++ [p]) (m ++ [mo]) (upd H p o) ∧ (as ++ [p])[m.length]? = some p := by
  have g : Grow as H (as ++ [p]) (upd H p o) := ⟨⟨[p], rfl⟩, fun q hq => by
    rcases List.mem_append.mp hq with h1 | h1
    · exact .inl h1
    · rw [List.mem_singleton.mp h1]; exact .inr h, fun q u e _ _ => by rw [upd_ne (ne_of_none e h)]; exact e, fun q ps e _ => by rw [upd_ne (ne_of_none e h), e]; simp, fun q u x e => by rw [upd_ne (ne_of_none e h)]; exact e⟩
  have hl : (as ++ [p])[m.length]? = some p := by rw [← R.len, List.getElem?_append_right (Nat.le_refl _)]; simp
  refine ⟨g, ⟨by simp [R.len], ?_, fun i q mo' e1 e2 => ?_, tabs_imp R.tabs fun b o e _ => by rw [upd_ne (ne_of_none e h)]; exact e⟩, hl⟩
  · rw [List.nodup_append]
    refine ⟨R.nd, by simp, fun a ha b hb => ?_⟩
    rw [List.mem_singleton.mp hb]
    rintro rfl
    exact R.fresh h ha
  · by_cases hi : i < m.length
    · rw [List.getElem?_append_left (by rw [R.len]; exact hi)] at e1
      rw [List.getElem?_append_left hi] at e2
      have r := R.at_ i q mo' e1 e2
      obtain ⟨u, hu⟩ := r.some
      exact r.grow g (upd_ne (ne_of_none hu h))
    · have e : i = m.length := by
        have := (List.getElem?_eq_some_iff.mp e2).1
        simp at this
        omega
      subst e
      rw [hl] at e1
      rw [List.getElem?_append_right (Nat.le_refl _)] at e2
      simp at e2
      cases e1
      subst e2
      exact hm g
theorem nf_lst {xs : List V} : ∀ u x, HO.lst xs ≠ .frz u x := fun _ _ z => by cases z
theorem nf_dK {xs : List (Key × V)} : ∀ u x, HO.dK xs ≠ .frz u x := fun _ _ z => by cases z
theorem nf_dT {xs : List (List Key × V)} : ∀ u x, HO.dT xs ≠ .frz u x := fun _ _ z => by cases z
theorem Rel.put (R : Rel G K as m H) {n : Nat} {p : Addr} (h : as[n]? = some p) {o ho : HO} {mo : MO} (hh : H p = some ho) (hz : ∀ u x, ho ≠ .frz u x) (hm : Grow as H as (upd H p o) → MRep G K as (upd H p o) p mo) :
    Grow as H as (upd H p o) ∧ Rel G K as (m.set n mo) (upd H p o) := by
  have hp : p ∈ as := List.mem_of_getElem? h
  have g : Grow as H as (upd H p o) := ⟨⟨[], by simp⟩, fun _ h => .inl h, fun q u e hn _ => by rw [upd_ne (fun z : q = p => hn (by rw [z]; exact hp))]; exact e, fun q ps e hn => by rw [upd_ne (fun z : q = p => hn (by rw [z]; exact hp)), e]; simp, fun q u x e => by
    rw [upd_ne]
    · exact e
    · rintro rfl
      rw [hh] at e; cases e
      exact hz _ _ rfl⟩
  have hl : n < m.length := by rw [← R.len]; exact (List.getElem?_eq_some_iff.mp h).1
  have hold := R.at_ n p _ h (List.getElem?_eq_getElem hl)
  refine ⟨g, ⟨by simp [R.len], R.nd, fun i q mo' e1 e2 => ?_, tabs_imp R.tabs fun b u e k => ?_⟩⟩
  rotate_left
  · rw [upd_ne]
    · exact e
    · rintro rfl
      rcases k with ⟨ps, rfl⟩ | ⟨φ, rfl⟩
      · exact hold.ntb _ e
      · exact hold.nco _ e
  by_cases hi : i = n
  · subst hi
    rw [h] at e1
    cases e1
    have hl : i < m.length := by rw [← R.len]; exact (List.getElem?_eq_some_iff.mp h).1
    rw [List.getElem?_set_self hl] at e2
    cases e2
    exact hm g
  · rw [List.getElem?_set_ne (Ne.symm hi)] at e2
    have hq : q ≠ p := fun z => by
      subst z
      exact hi (nd_ix R.nd e1 h)
    exact (R.at_ i q mo' e1 e2).grow g (upd_ne hq)
theorem Rel.free (R : Rel G K as m H) {n : Nat} {p : Addr} (h : as[n]? = some p) {o : HO} {mo : MO} (hm : Grow0 as H as (upd H p o) → MRep G K as (upd H p o) p mo) :
    Grow0 as H as (upd H p o) ∧ Rel G K as (m.set n mo) (upd H p o) := by
  have hp : p ∈ as := List.mem_of_getElem? h
  have g : Grow0 as H as (upd H p o) := ⟨⟨[], by simp⟩, fun _ h => .inl h, fun q u e hn _ => by rw [upd_ne (fun z : q = p => hn (by rw [z]; exact hp))]; exact e, fun q ps e hn => by rw [upd_ne (fun z : q = p => hn (by rw [z]; exact hp)), e]; simp⟩
  have hl : n < m.length := by rw [← R.len]; exact (List.getElem?_eq_some_iff.mp h).1
  have hold := R.at_ n p _ h (List.getElem?_eq_getElem hl)
  refine ⟨g, ⟨by simp [R.len], R.nd, fun i q mo' e1 e2 => ?_, tabs_imp R.tabs fun b u e k => ?_⟩⟩
  rotate_left
  · rw [upd_ne]
    · exact e
    · rintro rfl
      rcases k with ⟨ps, rfl⟩ | ⟨φ, rfl⟩
      · exact hold.ntb _ e
      · exact hold.nco _ e
  by_cases hi : i = n
  · subst hi
    rw [h] at e1
    cases e1
    have hl : i < m.length := by rw [← R.len]; exact (List.getElem?_eq_some_iff.mp h).1
    rw [List.getElem?_set_self hl] at e2
    cases e2
    exact hm g
  · rw [List.getElem?_set_ne (Ne.symm hi)] at e2
    have hq : q ≠ p := fun z => by
      subst z
      exact hi (nd_ix R.nd e1 h)
    exact (R.at_ i q mo' e1 e2).gr0 g (upd_ne hq)
theorem Grow0.trans {as2 : List Addr} {H2 : Hp} (a : Grow0 as H as' H') (b : Grow0 as' H' as2 H2) : Grow0 as H as2 H2 where
  pre := by
    obtain ⟨t, e⟩ := a.pre
    obtain ⟨u, e'⟩ := b.pre
    exact ⟨t ++ u, by rw [e', e, List.append_assoc]⟩
  new := fun p hp => by
    rcases b.new p hp with h | h
    · exact a.new p h
    · cases e : H p with
      | none => exact .inr rfl
      | some o =>
        by_cases hm : p ∈ as
        · exact .inl hm
        · exact absurd h (a.kept p o e hm)
  keep := fun p o e hn ht => b.keep p o (a.keep p o e hn ht) (a.notin e hn) ht
  kept := fun p o e hn => by
    obtain ⟨o', e'⟩ := Option.ne_none_iff_exists'.mp (a.kept p o e hn)
    exact b.kept p o' e' (a.notin e hn)
theorem Grow.locked {p : Addr} {o u v : HO} {as' : List Addr} {H' : Hp} (g : Grow0 as H as' (upd H' p v)) (f : Grow as (upd H p u) as' H') (e : H p = some o) (ho : ∀ a x, o ≠ .frz a x) : Grow as H as' (upd H' p v) :=
  ⟨g.pre, g.new, g.keep, g.kept, fun q a x h => by
    have hq : q ≠ p := by
      rintro rfl
      rw [e] at h; cases h
      exact ho _ _ rfl
    rw [upd_ne hq]
    exact f.fz _ _ _ (by rw [upd_ne hq]; exact h)⟩
def Out (G : Gam) (K : PySem.W.Frag) (Ex : Nat → Hp → Prop) (as : List Addr) (H : Hp) {α : Type} (r : Res α) (k : α → List Addr → Mem → Hp → Prop) : Prop := match r with
  | .ok a m => ∀ as' H', Rel G K as' m H' → Grow as H as' H' → k a as' m H'
  | .ex c m => ∀ as' H', Rel G K as' m H' → Grow as H as' H' → Ex c H'
  | .no => False
variable {Ex : Nat → Hp → Prop} {α β : Type}
theorem Out.bind {r : Res α} {f : α → Mem → Res β} {k : β → List Addr → Mem → Hp → Prop} (h : Out G K Ex as H (r.bind f) k) :
    Out G K Ex as H r fun a as' m' H' => Out G K Ex as' H' (f a m') k := by
  cases r with
  | ok a m1 =>
    intro as1 H1 R1 g1
    have h : Out G K Ex as H (f a m1) k := h
    show Out G K Ex as1 H1 (f a m1) k
    cases e : f a m1 with
    | ok b m2 => rw [e] at h; exact fun as2 H2 R2 g2 => h as2 H2 R2 (g1.trans g2)
    | ex c m2 => rw [e] at h; exact fun as2 H2 R2 g2 => h as2 H2 R2 (g1.trans g2)
    | no => rw [e] at h; exact h
  | ex c m1 => exact h
  | no => exact h
theorem Out.imp {r : Res α} {k k' : α → List Addr → Mem → Hp → Prop} (h : Out G K Ex as H r k) (hk : ∀ a as' m' H', Rel G K as' m' H' → Grow as H as' H' → k a as' m' H' → k' a as' m' H') : Out G K Ex as H r k' := by
  cases r with
  | ok a m1 => exact fun as1 H1 R1 g1 => hk _ _ _ _ R1 g1 (h as1 H1 R1 g1)
  | ex c m1 => exact h
  | no => exact h
theorem Out.impE {r : Res α} {k k' : α → List Addr → Mem → Hp → Prop} (h : Out G K Ex as H r k) (hk : ∀ a as' m' H', r = .ok a m' → Rel G K as' m' H' → Grow as H as' H' → k a as' m' H' → k' a as' m' H') : Out G K Ex as H r k' := by
  cases r with
  | ok a m1 => exact fun as1 H1 R1 g1 => hk _ _ _ _ rfl R1 g1 (h as1 H1 R1 g1)
  | ex c m1 => exact h
  | no => exact h
theorem Out.later {r : Res α} {k : α → List Addr → Mem → Hp → Prop} (h : Out G K Ex as H r k) (g : Grow as H as' H') : Out G K Ex as' H' r k := by
  cases r with
  | ok a m1 => exact fun as1 H1 R1 g1 => h as1 H1 R1 (g.trans g1)
  | ex c m1 => exact fun as1 H1 R1 g1 => h as1 H1 R1 (g.trans g1)
  | no => exact h
theorem Out.here {a : α} {k : α → List Addr → Mem → Hp → Prop} (R : Rel G K as m H) (h : Out G K Ex as H (.ok a m) k) : k a as m H := h as H R Grow.refl
structure St2 (G : Gam) (K : PySem.W.Frag) (as : List Addr) (H : Hp) (δ : Sto) (σ : L2.St) : Prop where
  len : δ.length = σ.length
  at_ : ∀ (i : Nat) (d : D), δ[i]? = some (some d) → ∃ v, σ[i]? = some (some v) ∧ Rep G K as H d v
  own : ∀ j c v, (j, c, v) ∈ G.own → σ[j]? = some (some v) ∧ G.sl j = true
theorem St2.gr0 {δ : Sto} {σ : L2.St} (h : St2 G K as H δ σ) (g : Grow0 as H as' H') : St2 G K as' H' δ σ := ⟨h.len, fun i d e => by
  obtain ⟨v, h1, h2⟩ := h.at_ i d e
  exact ⟨v, h1, h2.gr0 g⟩, h.own⟩
theorem St2.grow {δ : Sto} {σ : L2.St} (h : St2 G K as H δ σ) (g : Grow as H as' H') : St2 G K as' H' δ σ := h.gr0 g.w
theorem St2.owns {δ : Sto} {σ : L2.St} (h : St2 G K as H δ σ) {i : Nat} (hi : G.sl i = false) (o : Option V) : ∀ j c v, (j, c, v) ∈ G.own → (σ.set i o)[j]? = some (some v) ∧ G.sl j = true := fun j c v hm => by
  obtain ⟨h1, h2⟩ := h.own j c v hm
  refine ⟨?_, h2⟩
  rw [List.getElem?_set_ne]
  · exact h1
  · rintro rfl
    rw [hi] at h2; cases h2
theorem St2.set {δ : Sto} {σ : L2.St} (h : St2 G K as H δ σ) (i : Nat) {d : D} {v : V} (r : Rep G K as H d v) (hi : G.sl i = false) : St2 G K as H (δ.set i (some d)) (σ.set i (some v)) := ⟨by simp [h.len], fun j e hj => by
  by_cases q : i = j
  · subst q
    have hl : i < δ.length := by
      have := (List.getElem?_eq_some_iff.mp hj).1
      simpa using this
    rw [List.getElem?_set_self hl] at hj
    cases hj
    exact ⟨v, List.getElem?_set_self (by rw [← h.len]; exact hl), r⟩
  · rw [List.getElem?_set_ne q] at hj
    obtain ⟨u, h1, h2⟩ := h.at_ j e hj
    exact ⟨u, by rw [List.getElem?_set_ne q]; exact h1, h2⟩, h.owns hi _⟩
theorem St2.unset {δ : Sto} {σ : L2.St} (h : St2 G K as H δ σ) (i : Nat) (o : Option V) (hi : G.sl i = false) : St2 G K as H (δ.set i none) (σ.set i o) := ⟨by simp [h.len], fun j e hj => by
  by_cases q : i = j
  · subst q
    have hl : i < δ.length := by
      have := (List.getElem?_eq_some_iff.mp hj).1
      simpa using this
    rw [List.getElem?_set_self hl] at hj
    cases hj
  · rw [List.getElem?_set_ne q] at hj
    obtain ⟨u, h1, h2⟩ := h.at_ j e hj
    exact ⟨u, by rw [List.getElem?_set_ne q]; exact h1, h2⟩, h.owns hi _⟩
end
end FS
namespace FS
open PySem L2
def rdE (G : Gam) (K : PySem.W.Frag) (W : WX) (f : Sto → Mem → Res D) : TE := fun σ H Q => ∃ as m δ, Rel G K as m H ∧ St2 G K as H δ σ ∧
  Out G K (fun c H' => W (.ref (G.cls c)) none σ H') as H (f δ m) fun d as' m' H' => ∀ v, Rep G K as' H' d v → Q v H'
def rdA (G : Gam) (K : PySem.W.Frag) (W : WX) (f : Sto → Mem → Res (List D)) : TA := fun σ H Q => ∃ as m δ, Rel G K as m H ∧ St2 G K as H δ σ ∧
  Out G K (fun c H' => W (.ref (G.cls c)) none σ H') as H (f δ m) fun ds as' m' H' => ∀ vs, Reps G K as' H' ds vs → Q vs H'
def rdT (G : Gam) (K : PySem.W.Frag) (W : WX) (f : Sto → Mem → Res D) : TT := fun σ H Q => ∃ as m δ, Rel G K as m H ∧ St2 G K as H δ σ ∧
  Out G K (fun c H' => W (.ref (G.cls c)) none σ H') as H (f δ m) fun d as' m' H' => ∃ b, d = .bl b ∧ Q b H'
theorem pe_imp {X : Cx} {e : Expr} {t t' : TE} (h : PE X e t) (hi : ∀ σ H Q, t' σ H Q → t σ H Q) : PE X e t' := ⟨fun pins s σ H Q I q => h.run pins s σ H Q I (hi σ H Q q)⟩
theorem pt_imp {X : Cx} {e : Expr} {t t' : TT} (h : PT X e t) (hi : ∀ σ H Q, t' σ H Q → t σ H Q) : PT X e t' := ⟨fun pins s σ H Q I q => h.run pins s σ H Q I (hi σ H Q q)⟩
theorem pw_imp {X : Cx} {e : Expr} {t t' : TT} (h : PW X e t) (hi : ∀ σ H Q, t' σ H Q → t σ H Q) : PW X e t' := ⟨fun wh pins s σ H Q I q => h.run wh pins s σ H Q I (hi σ H Q q)⟩
theorem pa_imp {X : Cx} {e : List Expr} {t t' : TA} (h : PA X e t) (hi : ∀ σ H Q, t' σ H Q → t σ H Q) : PA X e t' := ⟨fun pos pins s σ H Q I q => h.run pos pins s σ H Q I (hi σ H Q q)⟩
theorem ps_imp {X : Cx} {e : Stmt} {t t' : TS} (h : PS X e t) (hi : ∀ D σ H, t' D σ H → t D σ H) : PS X e t' := ⟨fun pins s σ H D I q => h.run pins s σ H D I (hi D σ H q)⟩
theorem pss_imp {X : Cx} {e : List Stmt} {t t' : TS} (h : PSs X e t) (hi : ∀ D σ H, t' D σ H → t D σ H) : PSs X e t' := ⟨fun pins s σ H D I q => h.run pins s σ H D I (hi D σ H q)⟩
section
variable {G : Gam} {X : Cx} {W : WX} {e a b c : Expr} {pos : Pos} {f g h : Sto → Mem → Res D} {fs : Sto → Mem → Res (List D)} {m : Mem} {as : List Addr} {H : Hp} {σ : L2.St} {δ : Sto}
theorem rdE.to {Q : VK} {k : D → Mem → Res D} (q : rdE G X.K W (fun δ m => (f δ m).bind fun x m1 => k x m1) σ H Q) :
    rdE G X.K W f σ H fun v H1 => ∃ as m d, Rel G X.K as m H1 ∧ Rep G X.K as H1 d v ∧ Out G X.K (fun c H' => W (.ref (G.cls c)) none σ H') as H1 (k d m) fun d as' m' H' => ∀ v, Rep G X.K as' H' d v → Q v H' := by
  obtain ⟨as, m, δ, R, S, o⟩ := q
  exact ⟨as, m, δ, R, S, o.bind.imp fun d as' m' H' R' g' o' v r => ⟨as', m', d, R', r, o'⟩⟩
theorem rdE.two {Q : VK} {k : D → D → Mem → Res D} (q : rdE G X.K W (fun δ m => (f δ m).bind fun x m1 => (g δ m1).bind fun y m2 => k x y m2) σ H Q) :
    rdE G X.K W f σ H fun v H1 => rdE G X.K W g σ H1 fun u H2 => ∃ as m d d', Rel G X.K as m H2 ∧ Rep G X.K as H2 d v ∧ Rep G X.K as H2 d' u ∧
      Out G X.K (fun c H' => W (.ref (G.cls c)) none σ H') as H2 (k d d' m) fun d as' m' H' => ∀ v, Rep G X.K as' H' d v → Q v H' := by
  obtain ⟨as, m, δ, R, S, o⟩ := q
  refine ⟨as, m, δ, R, S, o.bind.imp fun d as' m' H' R' g' o' v r => ⟨as', m', δ, R', S.grow g', o'.bind.imp fun d2 as2 m2 H2 R2 g2 o2 u r2 => ⟨as2, m2, d, d2, R2, r.grow g2, r2, o2⟩⟩⟩
theorem rdE.args {Q : VK} {k : List D → Mem → Res D} (q : rdE G X.K W (fun δ m => (fs δ m).bind fun x m1 => k x m1) σ H Q) :
    rdA G X.K W fs σ H fun vs H1 => ∃ as m ds, Rel G X.K as m H1 ∧ Reps G X.K as H1 ds vs ∧ Out G X.K (fun c H' => W (.ref (G.cls c)) none σ H') as H1 (k ds m) fun d as' m' H' => ∀ v, Rep G X.K as' H' d v → Q v H' := by
  obtain ⟨as, m, δ, R, S, o⟩ := q
  exact ⟨as, m, δ, R, S, o.bind.imp fun d as' m' H' R' g' o' v r => ⟨as', m', d, R', r, o'⟩⟩
theorem es_var (i : Nat) {x : Str} {pos : Pos} (hN : X.N[i]? = some x := by rfl) (hv : Vis X.env.scope x := by first | exact Or.inl rfl | exact Or.inr (Or.inl rfl) | exact Or.inr (Or.inr rfl)) (hd : (x == ("__debug__" : Str)) = false := by decide)
    (hcd : (x == ("__classdict__" : Str)) = false := by decide) {C : Ctx} : PE X (.Name x pos) (rdE G X.K W (evalE C (.var i))) :=
  pe_imp (pe_var hN hv hd hcd) fun σ H Q ⟨as, m, δ, R, S, o⟩ => by
    simp only [evalE] at o
    cases e : δ[i]? with
    | none => rw [e] at o; exact o.elim
    | some u =>
      rw [e] at o
      cases u with
      | none => exact o.elim
      | some d =>
        obtain ⟨v, h1, h2⟩ := S.at_ i d e
        exact ⟨v, h1, Out.here R o v h2⟩
theorem cst_of {C : Ctx} {d : D} {v : V} (h : PE X e (tC v)) (hr : ∀ as H, Rep G X.K as H d v) : PE X e (rdE G X.K W (evalE C (.cst d))) :=
  pe_imp h fun σ H Q ⟨as, m, δ, R, S, o⟩ => Out.here R o v (hr as H)
variable {C : Ctx}
theorem es_int {i : Int} {j : Nat} : PE X (.Constant (.int i) j pos) (rdE G X.K W (evalE C (.cst (.int i)))) := cst_of pe_int fun _ _ => rfl
theorem es_bl {k : Bool} {j : Nat} : PE X (.Constant (.bool k) j pos) (rdE G X.K W (evalE C (.cst (.bl k)))) := cst_of pe_bl fun _ _ => rfl
theorem es_str {x : Str} {l : List Nat} {j : Nat} (h : x = ⟨l.toArray⟩) : PE X (.Constant (.str x) j pos) (rdE G X.K W (evalE C (.cst (.str l)))) := cst_of pe_str fun _ _ => by simp only [Rep]; rw [h]
theorem es_gstr {x z : Str} {l : List Nat} (hg : Gl X x) (hm : ∃ t, X.mg x = some (.str z t)) (h : z = ⟨l.toArray⟩) (hd : (x == ("__debug__" : Str)) = false := by decide) : PE X (.Name x pos) (rdE G X.K W (evalE C (.cst (.str l)))) := by
  obtain ⟨t, hm⟩ := hm
  exact cst_of (pe_glob (v := .str z) hg hm ⟨t, rfl⟩ hd) fun _ _ => by simp only [Rep]; rw [h]
theorem es_gint {x : Str} {i : Int} (hg : Gl X x) (hm : ∃ t, X.mg x = some (.int i t)) (hd : (x == ("__debug__" : Str)) = false := by decide) : PE X (.Name x pos) (rdE G X.K W (evalE C (.cst (.int i)))) := by
  obtain ⟨t, hm⟩ := hm
  exact cst_of (pe_glob (v := .int i) hg hm ⟨t, rfl⟩ hd) fun _ _ => rfl
theorem line_eq : sizeLine = LIM := sizeLine_eq
def OpOk (G : Gam) (K : PySem.W.Frag) (op : D → D → Mem → Res D) (r : R2) : Prop := ∀ (Ex : Nat → Hp → Prop) (as : List Addr) (m : Mem) (H : Hp) (d d' : D) (x y : V) (Q : VK), Rel G K as m H → Rep G K as H d x → Rep G K as H d' y →
  Out G K Ex as H (op d d' m) (fun d as' m' H' => ∀ v, Rep G K as' H' d v → Q v H') → r x y H Q
theorem es_op2 {o : O2} {op : Operator} {r : R2} (hop : OpR X (binaryOp op) r) (hr : OpOk G X.K (op2 o) r) {ea eb : E} (ha : PE X a (rdE G X.K W (evalE C ea))) (hb : PE X b (rdE G X.K W (evalE C eb))) :
    PE X (.BinOp a op b pos) (rdE G X.K W (evalE C (.op o ea eb))) :=
  pe_imp (pe_op hop ha hb) fun σ H Q q => by
    obtain ⟨as, m, δ, R, S, o⟩ := rdE.two q
    exact ⟨as, m, δ, R, S, o.imp fun d as' m' H' R' g' k v r => by
      obtain ⟨as2, m2, δ2, R2, S2, o2⟩ := k v r
      exact ⟨as2, m2, δ2, R2, S2, o2.imp fun d2 as3 m3 H3 R3 g3 k2 u r2 => by
        obtain ⟨as4, m4, d4, d5, R4, r4, r5, o4⟩ := k2 u r2
        exact hr _ as4 m4 H3 d4 d5 v u Q R4 r4 r5 o4⟩⟩
end
end FS
namespace FS
open PySem L2
theorem str_app (s t : List Nat) : ((⟨s.toArray⟩ : Str) ++ (⟨t.toArray⟩ : Str)) = ⟨(s ++ t).toArray⟩ := by
  show Str.mk _ = _
  simp
theorem str_len (s : List Nat) : (⟨s.toArray⟩ : Str).length = s.length := by
  show Array.size _ = _
  simp
section
variable {G : Gam} {X : Cx} {W : WX} {e a b c : Expr} {pos : Pos} {f g h : Sto → Mem → Res D} {fs : Sto → Mem → Res (List D)} {m : Mem} {as : List Addr} {H : Hp} {σ : L2.St} {δ : Sto} {K : PySem.W.Frag} {C : Ctx}
theorem rdE.imp {Q Q' : VK} (q : rdE G K W f σ H Q) (k : ∀ v H', Q v H' → Q' v H') : rdE G K W f σ H Q' := by
  obtain ⟨as, m, δ, R, S, o⟩ := q
  exact ⟨as, m, δ, R, S, o.imp fun d as' m' H' R' g' o' v r => k _ _ (o' v r)⟩
theorem rdA.imp {Q Q' : List V → Hp → Prop} (q : rdA G K W fs σ H Q) (k : ∀ v H', Q v H' → Q' v H') : rdA G K W fs σ H Q' := by
  obtain ⟨as, m, δ, R, S, o⟩ := q
  exact ⟨as, m, δ, R, S, o.imp fun d as' m' H' R' g' o' v r => k _ _ (o' v r)⟩
theorem rep_int {i : Int} {v : V} (h : Rep G K as H (.int i) v) : v = .int i := by simpa only [Rep] using h
theorem rep_bl {i : Bool} {v : V} (h : Rep G K as H (.bl i) v) : v = .bl i := by simpa only [Rep] using h
theorem rep_non {v : V} (h : Rep G K as H .non v) : v = .non := by simpa only [Rep] using h
theorem rep_str {s : List Nat} {v : V} (h : Rep G K as H (.str s) v) : v = .str ⟨s.toArray⟩ := by simpa only [Rep] using h
theorem rep_ref {n : Nat} {v : V} (h : Rep G K as H (.ref n) v) : ∃ p, v = .ref p ∧ as[n]? = some p := by simpa only [Rep] using h
theorem rep_tup {ds : List D} {v : V} (h : Rep G K as H (.tup ds) v) : ∃ p vs, v = .ref p ∧ p ∉ as ∧ H p = some (.tup vs) ∧ Reps G K as H ds vs := by simpa only [Rep] using h
theorem rep_rol {ds : List D} {v : V} (h : Rep G K as H (.rol ds) v) : ∃ p vs, v = .ref p ∧ RoL K as H p vs ∧ Reps G K as H ds vs := by simpa only [Rep] using h
theorem rep_ins {c : Nat} {ds : List D} {v : V} (h : Rep G K as H (.ins c ds) v) : ∃ p dx vs, v = .ref p ∧ p ∉ as ∧ G.imm c = true ∧ H p = some (.ins (G.cls c) dx (fsOf G c vs)) ∧ vs.length = (G.flds c).length ∧ Reps G K as H ds vs := by simpa only [Rep] using h
theorem Rel.lst (R : Rel G K as m H) {n : Nat} {p : Addr} {ds : List D} (hp : as[n]? = some p) (h : m[n]? = some (.lst ds)) : ∃ vs, H p = some (.lst vs) ∧ Reps G K as H ds vs := R.at_ n p _ hp h
theorem rdL_some {n : Nat} {ds : List D} (h : rdL m n = some ds) : m[n]? = some (.lst ds) := by
  unfold rdL at h
  split at h
  · rename_i e; cases h; exact e
  · cases h
theorem seq_of (R : Rel G K as m H) {d : D} {ds : List D} {v : V} (r : Rep G K as H d v) (h : seqL m d = some ds) : ∃ p vs, v = .ref p ∧ SqL K H p vs ∧ Reps G K as H ds vs := by
  cases d with
  | ref n =>
    obtain ⟨p, rfl, hp⟩ := rep_ref r
    obtain ⟨vs, h1, h2⟩ := R.lst hp (rdL_some h)
    exact ⟨p, vs, rfl, SqL.of h1, h2⟩
  | rol l =>
    obtain ⟨p, vs, rfl, h1, h2⟩ := rep_rol r
    cases h
    exact ⟨p, vs, rfl, h1.seq, h2⟩
  | _ => cases h
variable {Ex : Nat → Hp → Prop} {Q : VK}
theorem fin_d {d : D} {v : V} (R : Rel G K as m H) (o : Out G K Ex as H (.ok d m) fun d as' m' H' => ∀ v, Rep G K as' H' d v → Q v H') (r : Rep G K as H d v) : Q v H := Out.here R o v r
theorem fin_l {ds : List D} {vs : List V} (R : Rel G K as m H) (o : Out G K Ex as H (.ok (.ref m.length) (m ++ [.lst ds])) fun d as' m' H' => ∀ v, Rep G K as' H' d v → Q v H') (r : Reps G K as H ds vs) :
    ∀ p, H p = none → Q (.ref p) (upd H p (.lst vs)) := fun p hp => by
  obtain ⟨g, R', hi⟩ := R.newM (mo := .lst ds) hp (fun g => ⟨vs, upd_same, r.grow g⟩)
  exact o _ _ R' g _ (by simp only [Rep]; exact ⟨p, rfl, hi⟩)
theorem fin_t {ds : List D} {vs : List V} (R : Rel G K as m H) (o : Out G K Ex as H (.ok (.tup ds) m) fun d as' m' H' => ∀ v, Rep G K as' H' d v → Q v H') (r : Reps G K as H ds vs) :
    ∀ p, H p = none → Q (.ref p) (upd H p (.tup vs)) := fun p hp => by
  obtain ⟨g, R', hn⟩ := R.newI hp (.tup vs)
  exact o _ _ R' g _ (by simp only [Rep]; exact ⟨p, vs, rfl, hn, upd_same, r.grow g⟩)
theorem ok_int {o : D → D → Mem → Res D} {Cc : Int → Int → Prop} {gI : Int → Int → Int} (ho : ∀ i j m d, d = .int (gI i j) → (o (.int i) (.int j) m = .ok d m ∧ Cc i j) ∨ o (.int i) (.int j) m = .no) (hn : ∀ d d' m, (∀ i j, ¬ (d = .int i ∧ d' = .int j)) → o d d' m = .no) :
    OpOk G K o (rI Cc fun i j => .int (gI i j)) := by
  intro Ex as m H d d' x y Q R r1 r2 q
  by_cases hh : ∃ i j, d = .int i ∧ d' = .int j
  · obtain ⟨i, j, rfl, rfl⟩ := hh
    cases rep_int r1
    cases rep_int r2
    rcases ho i j m _ rfl with ⟨e, hc⟩ | e
    · rw [e] at q
      exact ⟨i, j, rfl, rfl, hc, fin_d R q (by simp only [Rep])⟩
    · rw [e] at q; exact q.elim
  · rw [hn d d' m fun i j z => hh ⟨i, j, z⟩] at q
    exact q.elim
theorem no2 (o : O2) (hn : o ≠ .add) (hm : o ≠ .mul) (d d' : D) (m : Mem) (h : ∀ i j, ¬ (d = .int i ∧ d' = .int j)) : op2 o d d' m = .no := by
  cases o <;> first | exact absurd rfl hn | exact absurd rfl hm | (cases d <;> cases d' <;> first | rfl | exact absurd ⟨rfl, rfl⟩ (h _ _))
theorem ok_sub : OpOk G K (op2 .sub) (rI (fun _ _ => True) fun i j => .int (i - j)) := ok_int (fun i j m d e => .inl ⟨by subst e; rfl, trivial⟩) (no2 .sub (by decide) (by decide))
theorem ok_fdiv : OpOk G K (op2 .fdiv) (rI CDiv fun i j => .int (i / j)) := ok_int (fun i j m d e => by
  subst e
  by_cases h : 0 < j ∧ j < 1073741824
  · exact .inl ⟨by simp [op2, h], h⟩
  · exact .inr (by simp [op2, h])) (no2 .fdiv (by decide) (by decide))
theorem ok_mod : OpOk G K (op2 .mod) (rI (fun _ j => 0 < j) fun i j => .int (i % j)) := ok_int (fun i j m d e => by
  subst e
  by_cases h : 0 < j
  · exact .inl ⟨by simp [op2, h], h⟩
  · exact .inr (by simp [op2, h])) (no2 .mod (by decide) (by decide))
theorem ok_pow : OpOk G K (op2 .pow) (rI CPow fun i j => .int (i ^ j.toNat)) := ok_int (fun i j m d e => by
  subst e
  by_cases h : 0 ≤ j ∧ j ≤ 1000000 ∧ i.natAbs < 18446744073709551616
  · exact .inl ⟨by simp [op2, h], h⟩
  · exact .inr (by simp [op2, h])) (no2 .pow (by decide) (by decide))
theorem opr_imp {X : Cx} {f : Value → Value → Sem Value} {r r' : R2} (h : OpR X f r) (hi : ∀ x y H Q, r' x y H Q → r x y H Q) : OpR X f r' := fun pins s σ H x y v u Q I rx ry q => h pins s σ H x y v u Q I rx ry (hi _ _ _ _ q)
theorem opr_I0 {X : Cx} {f : Value → Value → Sem Value} {g : Int → Int → V} {Cc : Int → Int → Prop} (h : OpR X f (rI0 g)) : OpR X f (rI Cc g) := opr_imp h fun x y H Q ⟨i, j, e1, e2, _, q⟩ => ⟨i, j, e1, e2, q⟩
theorem ok_add : OpOk G K (op2 .add) (fun x y H Q => rI0 (fun i j => .int (i + j)) x y H Q ∨ (∃ i j, x = .str i ∧ y = .str j ∧ i.length + j.length ≤ sizeLine ∧ Q (.str (i ++ j)) H) ∨ rCat x y H Q ∨ rCatA K x y H Q) := by
  intro Ex as m H d d' x y Q R r1 r2 q
  cases d <;> cases d' <;> first
    | exact (show False from q).elim
    | skip
  · cases rep_int r1
    cases rep_int r2
    exact .inl ⟨_, _, rfl, rfl, fin_d R q (by simp only [Rep])⟩
  · rename_i s t
    cases rep_str r1
    cases rep_str r2
    by_cases h : s.length + t.length ≤ LIM
    · simp only [op2, h, if_true] at q
      refine .inr (.inl ⟨_, _, rfl, rfl, by rw [str_len, str_len, line_eq]; exact h, fin_d R q (by simp only [Rep]; rw [str_app])⟩)
    · simp only [op2, h, if_false] at q
      exact q.elim
  · rename_i s t
    obtain ⟨p, vs, rfl, hn, hp, h1⟩ := rep_tup r1
    obtain ⟨p', us, rfl, hn', hp', h2⟩ := rep_tup r2
    by_cases h : s.length + t.length ≤ LIM
    · simp only [op2, h, if_true] at q
      refine .inr (.inr (.inr ⟨p, p', vs, us, rfl, rfl, SqT.of hp, SqT.of hp', by rw [h1.len, h2.len, line_eq]; exact h, fun e => ?_, fun _ e => ?_, fun _ _ => fin_t R q (reps_app h1 h2)⟩))
      · subst e
        have : s = [] := by simpa using h1.len.symm
        subst this
        exact fin_d R q (by simp only [Rep, List.nil_append]; exact ⟨p', us, rfl, hn', hp', h2⟩)
      · subst e
        have : t = [] := by simpa using h2.len.symm
        subst this
        exact fin_d R q (by simp only [Rep, List.append_nil]; exact ⟨p, vs, rfl, hn, hp, h1⟩)
    · simp only [op2, h, if_false] at q
      exact q.elim
  · rename_i n k
    obtain ⟨p, rfl, hp⟩ := rep_ref r1
    obtain ⟨p', rfl, hp'⟩ := rep_ref r2
    simp only [op2] at q
    cases e1 : rdL m n with
    | none => rw [e1] at q; exact q.elim
    | some ds =>
      cases e2 : rdL m k with
      | none => rw [e1, e2] at q; exact q.elim
      | some es =>
        rw [e1, e2] at q
        simp only at q
        obtain ⟨vs, h1, h2⟩ := R.lst hp (rdL_some e1)
        obtain ⟨us, h3, h4⟩ := R.lst hp' (rdL_some e2)
        by_cases h : ds.length + es.length ≤ LIM
        · rw [if_pos h] at q
          exact .inr (.inr (.inl ⟨p, p', vs, us, rfl, rfl, h1, h3, by rw [h2.len, h4.len, line_eq]; exact h, fin_l R q (reps_app h2 h4)⟩))
        · rw [if_neg h] at q; exact q.elim
theorem flat_len {α : Type} (k : Nat) (l : List α) : (List.replicate k l).flatten.length = k * l.length := by simp
theorem reps_rep {ds : List D} {vs : List V} (k : Nat) (h : Reps G K as H ds vs) : Reps G K as H (List.replicate k ds).flatten (List.replicate k vs).flatten := by
  induction k with
  | zero => exact reps_nil
  | succ k ih => rw [List.replicate_succ, List.replicate_succ, List.flatten_cons, List.flatten_cons]; exact reps_app h ih
theorem small_of {i : Int} (h : small i = true) : -(2 ^ 64) < i ∧ i < 2 ^ 64 := by
  unfold small at h
  simp only [Bool.and_eq_true, decide_eq_true_eq] at h
  exact ⟨by have := h.1; omega, by have := h.2; omega⟩
def repS (x : Str) (k : Int) : Str := ⟨(List.replicate k.toNat x.cps).foldl (· ++ ·) #[]⟩
def rMulS : R2 := fun x y H Q => ∃ i k, x = .str i ∧ y = .int k ∧ -9223372036854775808 ≤ k ∧ k < 9223372036854775808 ∧ i.length * k.toNat ≤ 16777216 ∧ Q (.str (repS i k)) H
theorem repS_low {x : Str} {k : Int} (h : k < 1) : repS x k = Str.empty := by
  unfold repS
  rw [show k.toNat = 0 by omega]
  rfl
theorem foldl_cat (s : List Nat) : ∀ (k : Nat) (a : Array Nat), (List.replicate k s.toArray).foldl (· ++ ·) a = a ++ (List.replicate k s).flatten.toArray
  | 0, a => by simp
  | k + 1, a => by
    rw [List.replicate_succ, List.foldl_cons, foldl_cat s k, List.replicate_succ, List.flatten_cons]
    simp
theorem repS_list (s : List Nat) (k : Int) : repS ⟨s.toArray⟩ k = ⟨(List.replicate k.toNat s).flatten.toArray⟩ := by
  unfold repS
  rw [foldl_cat]
  simp
theorem op_mulS {X : Cx} : OpR X (binaryOp .Mult) rMulS := by
  intro pins s σ H x y v u Q I rx ry h
  obtain ⟨i, k, rfl, rfl, h1, h2, hz, q⟩ := h
  obtain ⟨t, rfl⟩ := rx
  obtain ⟨t', rfl⟩ := ry
  have e63 : (2 : Int) ^ 63 = 9223372036854775808 := by decide
  have hr : (decide (k < -(2 ^ 63 : Int)) || decide (k ≥ 2 ^ 63)) = false := by
    rw [e63, decide_eq_false (by omega), decide_eq_false (by omega)]; rfl
  refine P.mul_str hr (fun hk _ => ?_) (fun hk _ => ?_) ?_
  · have hk1 : 1 ≤ k := by omega
    have : (i.length : Int) * k ≤ 16777216 := by
      have e : ((i.length * k.toNat : Nat) : Int) ≤ ((16777216 : Nat) : Int) := Int.ofNat_le.mpr hz
      rw [Int.natCast_mul, Int.toNat_of_nonneg (by omega)] at e
      exact e
    have : (i.length : Int) ≤ (2 ^ 63 - 1) / k := (Int.le_ediv_iff_mul_le (by omega)).mpr (by rw [e63]; omega)
    omega
  · unfold Builtin.Str.tooLong
    rw [sizeLine_eq, decide_eq_false (by omega)]
  · by_cases hk : k < 1
    · rw [if_pos hk]
      refine ⟨by decide, ?_⟩
      rw [← repS_low (x := i) hk]
      exact ⟨.str (repS i k), H, I.tok _, ⟨_, rfl⟩, q⟩
    · rw [if_neg hk]
      by_cases hc : (k == 1 || i.length == 0) = true
      · rw [if_pos hc]
        have e : repS i k = i := by
          unfold repS
          rcases Bool.or_eq_true_iff.mp hc with h | h
          · have : k = 1 := beq_iff_eq.mp h
            subst this
            simp
          · have h0 : i.length = 0 := beq_iff_eq.mp h
            obtain ⟨cs⟩ := i
            have : cs = #[] := Array.eq_empty_of_size_eq_zero h0
            subst this
            have : ∀ n : Nat, (List.replicate n (#[] : Array Nat)).foldl (· ++ ·) #[] = #[] := fun n => by
              induction n with
              | zero => rfl
              | succ n ih => rw [List.replicate_succ, List.foldl_cons, Array.append_empty]; exact ih
            show (⟨_⟩ : Str) = _
            rw [this]
        rw [e] at q
        exact ⟨.str i, H, I, ⟨_, rfl⟩, q⟩
      · rw [if_neg hc]
        refine ⟨?_, ⟨.str (repS i k), H, I.tok _, ⟨_, rfl⟩, q⟩⟩
        obtain ⟨⟨l⟩⟩ := i
        show (repS ⟨l.toArray⟩ k).length ≤ sizeLine
        rw [repS_list, sizeLine_eq]
        show (List.replicate k.toNat l).flatten.toArray.size ≤ _
        rw [List.size_toArray, flat_len, Nat.mul_comm]
        exact hz
theorem ok_mul : OpOk G K (op2 .mul) (fun x y H Q => rI CMul (fun i j => .int (i * j)) x y H Q ∨ (rMulS x y H Q ∨ rRep x y H Q)) := by
  intro Ex as m H d d' x y Q R r1 r2 q
  cases d <;> cases d' <;> first
    | exact (show False from q).elim
    | skip
  · rename_i i j
    cases rep_int r1
    cases rep_int r2
    simp only [op2] at q
    by_cases h : (small i || small j) = true
    · rw [if_pos h] at q
      refine .inl ⟨_, _, rfl, rfl, ?_, fin_d R q (by simp only [Rep])⟩
      rcases Bool.or_eq_true_iff.mp h with h | h
      · exact .inl (small_of h)
      · exact .inr (small_of h)
    · rw [if_neg h] at q; exact q.elim
  · rename_i s k
    cases rep_str r1
    cases rep_int r2
    simp only [op2] at q
    by_cases h : -9223372036854775808 ≤ k ∧ k < 9223372036854775808 ∧ s.length * k.toNat ≤ LIM
    · rw [if_pos h] at q
      exact .inr (.inl ⟨_, k, rfl, rfl, h.1, h.2.1, h.2.2, by rw [repS_list]; exact fin_d R q (by simp only [Rep])⟩)
    · rw [if_neg h] at q; exact q.elim
  · rename_i n k
    obtain ⟨p, rfl, hp⟩ := rep_ref r1
    cases rep_int r2
    simp only [op2] at q
    cases e1 : rdL m n with
    | none => rw [e1] at q; exact q.elim
    | some ds =>
      rw [e1] at q
      simp only at q
      obtain ⟨vs, h1, h2⟩ := R.lst hp (rdL_some e1)
      by_cases h : -9223372036854775808 ≤ k ∧ k < 9223372036854775808 ∧ ds.length * k.toNat ≤ LIM
      · rw [if_pos h] at q
        exact .inr (.inr ⟨p, k, vs, rfl, rfl, h1, by have := h.1; omega, by have := h.2.1; omega, by rw [h2.len, line_eq]; exact h.2.2, fin_l R q (reps_rep _ h2)⟩)
      · rw [if_neg h] at q; exact q.elim
section
variable {ea eb ec : E} (ha : PE X a (rdE G X.K W (evalE C ea))) (hb : PE X b (rdE G X.K W (evalE C eb)))
include ha hb
theorem es_add : PE X (.BinOp a .Add b pos) (rdE G X.K W (evalE C (.op .add ea eb))) := es_op2 (op_add.or (op_add_str.or (op_cat.or op_catA))) ok_add ha hb
theorem es_sub : PE X (.BinOp a .Sub b pos) (rdE G X.K W (evalE C (.op .sub ea eb))) := es_op2 (opr_I0 op_sub) ok_sub ha hb
theorem es_mul : PE X (.BinOp a .Mult b pos) (rdE G X.K W (evalE C (.op .mul ea eb))) := es_op2 (op_mul.or (op_mulS.or op_rep)) ok_mul ha hb
theorem es_fdiv : PE X (.BinOp a .FloorDiv b pos) (rdE G X.K W (evalE C (.op .fdiv ea eb))) := es_op2 op_fdiv ok_fdiv ha hb
theorem es_mod : PE X (.BinOp a .Mod b pos) (rdE G X.K W (evalE C (.op .mod ea eb))) := es_op2 op_mod ok_mod ha hb
theorem es_pow : PE X (.BinOp a .Pow b pos) (rdE G X.K W (evalE C (.op .pow ea eb))) := es_op2 op_pow ok_pow ha hb
end
end
end FS
namespace FS
open PySem PySem.Spec PyProof.Rows L2
def DL (H : Hp) (a : Addr) (n : Nat) : Prop := (∃ ks, H a = some (.dK ks) ∧ ks.length = n) ∨ ∃ ks, H a = some (.dT ks) ∧ ks.length = n
inductive KvR (K : PySem.W.Frag) (H : Hp) (ls : List (Key × V)) : List (Key × V) → Bool → Prop
  | nil : KvR K H ls [] true
  | miss {k : Key} {v : V} {r : List (Key × V)} : valV ls k = none → KvR K H ls ((k, v) :: r) false
  | hit {k : Key} {v y : V} {r : List (Key × V)} {d e : PyData} {b : Bool} : valV ls k = some y → Dp K H v d → Dp K H y e → SeqAt.shaped d = true → SeqAt.shaped e = true → KvR K H ls r b → KvR K H ls ((k, v) :: r) (PyData.eqv d e && b)
def rEqDc (K : PySem.W.Frag) (f : Bool → Bool) : R2 := fun x y H Q => ∃ a b, x = .ref a ∧ y = .ref b ∧
  ((∃ n k, DL H a n ∧ DL H b k ∧ (n ≠ k ∨ n = 0) ∧ Q (.bl (f (decide (n = k)))) H) ∨
   ∃ ks ls r, H a = some (.dK ks) ∧ H b = some (.dK ls) ∧ ks.length = ls.length ∧ KvR K H ls ks r ∧ Q (.bl (f r)) H)
section
variable {X : Cx} {pins : List (Addr × Obj)} {σ : L2.St} {H : Hp} {s : Shared}
theorem kvr_hits (I : Inv X pins σ H s) {A : Around} (hu : A.in1.units + 64 < cLine) {ls : List (Key × V)} {vb : List (Key × Value)} (rb : KV ls vb) : ∀ {ks : List (Key × V)} {va : List (Key × Value)} {r : Bool}, KV ks va → KvR X.K H ls ks r → PySem.W.KeqHits A.in1 s vb va r := by
  intro ks va r ra
  unfold KV at ra
  induction ra generalizing r with
  | nil =>
    intro h
    cases h
    exact .nil
  | @cons p q ps qs h t ih =>
    intro hr
    obtain ⟨h1, h2⟩ := h
    obtain ⟨key, v⟩ := q
    have h1' : p.1 = key := h1
    obtain ⟨pk, pv⟩ := p
    have h1' : pk = key := h1
    subst h1'
    have h2 : RelV pv v := h2
    cases hr with
    | miss hn =>
      have rr : RelO none (valueAt vb pk) := by rw [← hn]; exact rb.val pk
      refine .miss ?_
      cases hv : valueAt vb pk with
      | none => rfl
      | some z => rw [hv] at rr; exact rr.elim
    | @hit _ _ y _ d e b hy hd he sd se hb =>
      have rr : RelO (some y) (valueAt vb pk) := by rw [← hy]; exact rb.val pk
      obtain ⟨y', hy', ry⟩ := rr.some_of
      obtain ⟨as, r1⟩ := Dp.reads I d pv v hd h2
      obtain ⟨bs, r2⟩ := Dp.reads I e y y' he ry
      exact .hit hy' (PySem.W.keq_at r1 r2 sd se hu) (ih hb)
theorem dl_raw (I : Inv X pins σ H s) {a : Addr} {n : Nat} (h : DL H a n) : (a == sysModules) = false ∧ ∃ o es ep, s.heap.get? a = some o ∧ o.ExactDict ∧ o.data = .dict es ep ∧ es.size = n := by
  rcases h with ⟨ks, h, rfl⟩ | ⟨ks, h, rfl⟩
  · obtain ⟨z, lo, vs, rk, hd⟩ := (show ObjOk X.prog X.w H s.heap a (.dK ks) from I.hok a _ h)
    obtain ⟨o, es, ep, ho, hx, hdt, hk, hp, _⟩ := id hd
    refine ⟨lo, o, es, ep, ho, hx, hdt, ?_⟩
    have l1 : es.toList.length = vs.length := hp.length
    have l2 : ks.length = vs.length := Paired.length rk
    rw [Array.length_toList] at l1
    omega
  · obtain ⟨z, hs, xs, pr, o, es, ep, ho, hx, hdt, he, _⟩ := (show ObjOk X.prog X.w H s.heap a (.dT ks) from I.hok a _ h)
    have l1 : es.size = xs.length := size_of_entries he
    have l2 : ks.length = xs.length := Paired.length pr
    exact ⟨hs, o, es, ep, ho, hx, hdt, by omega⟩
theorem same_raw {P : Program} {w : World} {A : Around} {E : Value → Shared → Prop} {nm : String} {a b : Addr} {oa ob : Obj} {es es' : Array DictEntry} {ep ep' : Nat} {Q : Bool → Shared → Prop} (ha : (a == sysModules) = false) (hb : (b == sysModules) = false)
    (hoa : s.heap.get? a = some oa) (hda : oa.data = .dict es ep) (hob : s.heap.get? b = some ob) (hdb : ob.data = .dict es' ep') (hc : es.size ≠ es'.size ∨ es.size = 0) (h : Q (decide (es.size = es'.size)) s) :
    wpAny (model P w) A (Builtin.Dict.samePairs nm a b) Q E s := by
  unfold Builtin.Dict.samePairs Builtin.Dict.showsAll
  rw [if_neg (show ¬ (a == sysModules) = true by rw [ha]; exact Bool.false_ne_true), if_neg (show ¬ (b == sysModules) = true by rw [hb]; exact Bool.false_ne_true)]
  refine wpAny_bind (wpAny_pure (wpAny_bind (wpAny_pure ?_)))
  refine wpAny_bind (wpAny_dictEntries hoa hda ?_)
  dsimp only
  refine wpAny_bind (wpAny_dictEntries hob hdb ?_)
  by_cases hsz : es.size = es'.size
  case neg =>
    rw [if_pos (by simpa using hsz)]
    rw [decide_eq_false hsz] at h
    exact wpAny_bind (wpAny_rule (wpAny_pure h))
  case pos =>
    have h0 : es.size = 0 := hc.resolve_left fun z => z hsz
    rw [decide_eq_true hsz] at h
    rw [if_neg (by rw [hsz]; simp)]
    refine wpAny_bind (wpAny_dictEpoch hoa hda ?_)
    refine wpAny_bind ?_
    rw [Std.Legacy.Range.forIn_eq_forIn_range']
    simp only [Std.Legacy.Range.size, Nat.sub_zero, Nat.add_sub_cancel, Nat.div_one, h0]
    exact wpAny_pure (wpAny_pure h)
theorem op_eqDc (hu : X.A.units + 65 < cLine) : OpR X (compareOp .Eq) (rEqDc X.K id) := by
  intro pins s σ H x y v u Q I rx ry h
  obtain ⟨a, b, rfl, rfl, h⟩ := h
  obtain rfl : v = Value.ref a := rx
  obtain rfl : u = Value.ref b := ry
  rcases h with ⟨n, k, ha, hb, hc, q⟩ | ⟨ks, ls, r, ea, eb, hl, hr, q⟩
  · obtain ⟨sa, oa, es, ep, hoa, hxa, hda, hna⟩ := dl_raw I ha
    obtain ⟨sb, ob, es', ep', hob, hxb, hdb, hnb⟩ := dl_raw I hb
    have ta : s.TypeIs (.ref a) "dict" := ⟨oa, hoa, hxa.1⟩
    have tb : s.TypeIs (.ref b) "dict" := ⟨ob, hob, hxb.1⟩
    refine wpAny_richCompare_same_room (op := .Eq) ta tb PySem.F.slot_dict_eq (wpAny_call_entry PySem.F.slot_dict_eq ta PySem.F.entry_dict_eq ?_ (PySem.F.args_dict_eq_2 _ _)) (by omega)
    show wpAny _ _ (Builtin.Dict.dictSlotArgs "__eq__" ⟨[.ref a, .ref b], []⟩ >>= _) _ _ s
    refine wpAny_bind ?_
    unfold Builtin.Dict.dictSlotArgs
    refine wpAny_bind (wpAny_notOrdered_dict ta ?_)
    show wpAny _ _ (pure (Value.ref a, Value.ref b)) _ _ s
    refine wpAny_pure ?_
    refine wpAny_bind (wpAny_isInstance (T := "dict") tb PySem.F.sub_dict_dict ?_)
    simp only [Bool.not_true, Bool.false_eq_true, if_false]
    refine wpAny_bind (wpAny_pure (wpAny_bind (wpAny_pure ?_)))
    refine wpAny_bind (same_raw sa sb hoa hda hob hdb (by omega) ?_)
    refine wpAny_pure ⟨_, rfl, ?_, ?_⟩
    · exact fun x => nomatch x
    · rw [hna, hnb]
      refine ⟨.bl _, H, I, rfl, ?_⟩
      have e : ∀ b : Bool, (b == true) = b := by decide
      rw [e]; exact q
  · obtain ⟨_, ya, va, ra, da⟩ := (show ObjOk X.prog X.w H s.heap a (.dK ks) from I.hok a _ ea)
    obtain ⟨_, yb, vb, rb, db⟩ := (show ObjOk X.prog X.w H s.heap b (.dK ls) from I.hok b _ eb)
    have hl' : va.length = vb.length := by
      have l1 : ks.length = va.length := Paired.length ra
      have l2 : ls.length = vb.length := Paired.length rb
      omega
    refine PySem.W.keq_eq (knd := mixKind X.prog X.w) (r := r) ya yb da db (by omega) (fun _ => kvr_hits I (by show X.A.units + 1 + 64 < cLine; omega) rb ra hr) ?_
    rw [hl', beq_self_eq_true, Bool.true_and]
    exact ⟨.bl _, H, I, rfl, q⟩
theorem op_neDc (hu : X.A.units + 65 < cLine) : OpR X (compareOp .NotEq) (rEqDc X.K not) := by
  intro pins s σ H x y v u Q I rx ry h
  obtain ⟨a, b, rfl, rfl, h⟩ := h
  obtain rfl : v = Value.ref a := rx
  obtain rfl : u = Value.ref b := ry
  rcases h with ⟨n, k, ha, hb, hc, q⟩ | ⟨ks, ls, r, ea, eb, hl, hr, q⟩
  · obtain ⟨sa, oa, es, ep, hoa, hxa, hda, hna⟩ := dl_raw I ha
    obtain ⟨sb, ob, es', ep', hob, hxb, hdb, hnb⟩ := dl_raw I hb
    have ta : s.TypeIs (.ref a) "dict" := ⟨oa, hoa, hxa.1⟩
    have tb : s.TypeIs (.ref b) "dict" := ⟨ob, hob, hxb.1⟩
    refine wpAny_richCompare_same_room (op := .NotEq) ta tb PySem.F.slot_dict_ne (wpAny_call_entry PySem.F.slot_dict_ne ta PySem.F.entry_dict_ne ?_ (PySem.F.args_dict_ne_2 _ _)) (by omega)
    show wpAny _ _ (Builtin.Dict.dictSlotArgs "__ne__" ⟨[.ref a, .ref b], []⟩ >>= _) _ _ s
    refine wpAny_bind ?_
    unfold Builtin.Dict.dictSlotArgs
    refine wpAny_bind (wpAny_notOrdered_dict ta ?_)
    show wpAny _ _ (pure (Value.ref a, Value.ref b)) _ _ s
    refine wpAny_pure ?_
    refine wpAny_bind (wpAny_isInstance (T := "dict") tb PySem.F.sub_dict_dict ?_)
    simp only [Bool.not_true, Bool.false_eq_true, if_false]
    refine wpAny_bind (wpAny_pure (wpAny_bind (wpAny_pure ?_)))
    refine wpAny_bind (same_raw sa sb hoa hda hob hdb (by omega) ?_)
    refine wpAny_pure ⟨_, rfl, ?_, ?_⟩
    · exact fun x => nomatch x
    · rw [hna, hnb]
      refine ⟨.bl _, H, I, rfl, ?_⟩
      have e : ∀ b : Bool, (b == false) = !b := by decide
      rw [e]; exact q
  · obtain ⟨_, ya, va, ra, da⟩ := (show ObjOk X.prog X.w H s.heap a (.dK ks) from I.hok a _ ea)
    obtain ⟨_, yb, vb, rb, db⟩ := (show ObjOk X.prog X.w H s.heap b (.dK ls) from I.hok b _ eb)
    have hl' : va.length = vb.length := by
      have l1 : ks.length = va.length := Paired.length ra
      have l2 : ls.length = vb.length := Paired.length rb
      omega
    refine PySem.W.keq_ne (knd := mixKind X.prog X.w) (r := r) ya yb da db (by omega) (fun _ => kvr_hits I (by show X.A.units + 1 + 64 < cLine; omega) rb ra hr) ?_
    rw [hl', beq_self_eq_true, Bool.true_and]
    exact ⟨.bl _, H, I, rfl, q⟩
end
end FS
namespace FS
open PySem L2
mutual
def pyOf : Dat → PyData
  | .non => .none
  | .bl b => .bool b
  | .int i => .int i
  | .str s => .str ⟨s.toArray⟩
  | .lst l => .list (pysOf l)
  | .tup l => .tuple (pysOf l)
def pysOf : List Dat → List PyData
  | [] => []
  | d :: l => pyOf d :: pysOf l
end
theorem beq_str (s t : List Nat) : ((⟨s.toArray⟩ : Str) == ⟨t.toArray⟩) = (s == t) := by
  rw [Bool.eq_iff_iff]
  simp
mutual
theorem py_eqv : ∀ x y : Dat, PyData.eqv (pyOf x) (pyOf y) = Dat.eqv x y
  | .non, y => by cases y <;> simp [pyOf, PyData.eqv, Dat.eqv]
  | .bl _, y => by cases y <;> simp [pyOf, PyData.eqv, Dat.eqv]
  | .int _, y => by cases y <;> simp [pyOf, PyData.eqv, Dat.eqv]
  | .str _, y => by cases y <;> simp [pyOf, PyData.eqv, Dat.eqv, beq_str]
  | .lst l, y => by
    cases y <;> simp only [pyOf, PyData.eqv, Dat.eqv]
    exact pys_eqv l _
  | .tup l, y => by
    cases y <;> simp only [pyOf, PyData.eqv, Dat.eqv]
    exact pys_eqv l _
theorem pys_eqv : ∀ x y : List Dat, PyData.eqvAll (pysOf x) (pysOf y) = Dat.eqvs x y
  | [], [] => by simp [pysOf, PyData.eqvAll, Dat.eqvs]
  | [], _ :: _ => by simp [pysOf, PyData.eqvAll, Dat.eqvs]
  | _ :: _, [] => by simp [pysOf, PyData.eqvAll, Dat.eqvs]
  | x :: xs, y :: ys => by simp only [pysOf, PyData.eqvAll, Dat.eqvs, py_eqv x y, pys_eqv xs ys]
end
section
variable {G : Gam} {X : Cx} {W : WX} {e a b c : Expr} {pos : Pos} {f g h : Sto → Mem → Res D} {fs : Sto → Mem → Res (List D)} {m : Mem} {as : List Addr} {H : Hp} {σ : L2.St} {δ : Sto} {K : PySem.W.Frag} {C : Ctx}
theorem strOk_of {s : List Nat} (h : s.all (fun c => decide (c < 1114112)) = true) : PyData.strOk (⟨s.toArray⟩ : Str) = true := by
  unfold PyData.strOk
  simpa [Array.all_eq_true, List.all_eq_true] using h
theorem mapM_some {α β : Type} {f : α → Option β} : ∀ {l : List α} {r : List β}, l.mapM f = some r → Paired (fun a b => f a = some b) l r
  | [], r, h => by simp at h; subst h; exact .nil
  | a :: l, r, h => by
    rw [List.mapM_cons] at h
    cases e : f a with
    | none => rw [e] at h; cases h
    | some b =>
      rw [e] at h
      cases e2 : l.mapM f with
      | none => simp [e2] at h
      | some r2 =>
        simp [e2] at h
        subst h
        exact .cons e (mapM_some e2)
theorem dat_list {n : Nat} (ih : ∀ {d : D} {x : Dat} {v : V}, toDat n m d = some x → Rep G K as H d v → Dp K H v (pyOf x) ∧ (pyOf x).depth ≤ n ∧ (pyOf x).canLay0 = true) :
    ∀ {ds : List D} {l : List Dat} {vs : List V}, Paired (fun d x => toDat n m d = some x) ds l → Reps G K as H ds vs → DpAll K H vs (pysOf l) ∧ PyData.depthAll (pysOf l) ≤ n ∧ PyData.canLayAll0 (pysOf l) = true
  | _, _, _, .nil, r => by
    simp only [Reps] at r
    subst r
    exact ⟨.nil, by simp [pysOf, PyData.depthAll], by simp [pysOf, PyData.canLayAll0]⟩
  | _, _, _, .cons h t, r => by
    simp only [Reps] at r
    obtain ⟨v, vs, rfl, r1, r2⟩ := r
    obtain ⟨a1, a2, a3⟩ := ih h r1
    obtain ⟨b1, b2, b3⟩ := dat_list ih t r2
    exact ⟨.cons a1 b1, by simp only [pysOf, PyData.depthAll]; omega, by simp only [pysOf, PyData.canLayAll0, a3, b3, Bool.and_self]⟩
theorem dat_of (R : Rel G K as m H) : ∀ (n : Nat) {d : D} {x : Dat} {v : V}, toDat n m d = some x → Rep G K as H d v → Dp K H v (pyOf x) ∧ (pyOf x).depth ≤ n ∧ (pyOf x).canLay0 = true := by
  intro n
  induction n with
  | zero =>
    intro d x v h r
    cases d <;> simp only [toDat, Option.some.injEq, reduceCtorEq] at h
    · subst h; cases rep_non r; exact ⟨.non, by simp [pyOf, PyData.depth], by simp [pyOf, PyData.canLay0]⟩
    · subst h; cases rep_bl r; exact ⟨.bl _, by simp [pyOf, PyData.depth], by simp [pyOf, PyData.canLay0]⟩
    · subst h; cases rep_int r; exact ⟨.int _, by simp [pyOf, PyData.depth], by simp [pyOf, PyData.canLay0]⟩
    · split at h
      · rename_i hs
        cases h; cases rep_str r; exact ⟨.str _, by simp [pyOf, PyData.depth], by simp only [pyOf, PyData.canLay0]; exact strOk_of hs⟩
      · cases h
  | succ n ih =>
    intro d x v h r
    cases d with
    | non => simp only [toDat, Option.some.injEq] at h; subst h; cases rep_non r; exact ⟨.non, by simp [pyOf, PyData.depth], by simp [pyOf, PyData.canLay0]⟩
    | bl k => simp only [toDat, Option.some.injEq] at h; subst h; cases rep_bl r; exact ⟨.bl _, by simp [pyOf, PyData.depth], by simp [pyOf, PyData.canLay0]⟩
    | int k => simp only [toDat, Option.some.injEq] at h; subst h; cases rep_int r; exact ⟨.int _, by simp [pyOf, PyData.depth], by simp [pyOf, PyData.canLay0]⟩
    | str s =>
      simp only [toDat] at h
      split at h
      · rename_i hs
        cases h; cases rep_str r; exact ⟨.str _, by simp [pyOf, PyData.depth], by simp only [pyOf, PyData.canLay0]; exact strOk_of hs⟩
      · cases h
    | tup ds =>
      simp only [toDat] at h
      obtain ⟨l, hl, rfl⟩ := Option.map_eq_some_iff.mp h
      obtain ⟨p, vs, rfl, _, hp, rs⟩ := rep_tup r
      obtain ⟨a1, a2, a3⟩ := dat_list (fun h r => ih h r) (mapM_some hl) rs
      exact ⟨.tup (SqT.of hp) a1, by simp only [pyOf, PyData.depth]; omega, by simp only [pyOf, PyData.canLay0]; exact a3⟩
    | rol ds =>
      simp only [toDat] at h
      obtain ⟨l, hl, rfl⟩ := Option.map_eq_some_iff.mp h
      obtain ⟨p, vs, rfl, hp, rs⟩ := rep_rol r
      obtain ⟨a1, a2, a3⟩ := dat_list (fun h r => ih h r) (mapM_some hl) rs
      exact ⟨.lst hp.seq a1, by simp only [pyOf, PyData.depth]; omega, by simp only [pyOf, PyData.canLay0]; exact a3⟩
    | ref k =>
      simp only [toDat] at h
      obtain ⟨ds, hd, h⟩ := Option.bind_eq_some_iff.mp h
      obtain ⟨l, hl, rfl⟩ := Option.map_eq_some_iff.mp h
      obtain ⟨p, rfl, hp⟩ := rep_ref r
      obtain ⟨vs, h1, rs⟩ := R.lst hp (rdL_some hd)
      obtain ⟨a1, a2, a3⟩ := dat_list (fun h r => ih h r) (mapM_some hl) rs
      exact ⟨.lst (SqL.of h1) a1, by simp only [pyOf, PyData.depth]; omega, by simp only [pyOf, PyData.canLay0]; exact a3⟩
    | _ => simp only [toDat, reduceCtorEq] at h
theorem scal_ok {d d' : D} {x y : V} (h : scal d d' = true) (r1 : Rep G K as H d x) (r2 : Rep G K as H d' y) : L2.scal x y = true ∧ decide (x = y) = D.beq d d' := by
  cases d <;> cases d' <;> first
    | exact absurd (show false = true from h) Bool.false_ne_true
    | skip
  all_goals first
    | (cases rep_non r1; cases rep_non r2; exact ⟨rfl, rfl⟩)
    | (cases rep_non r1; (first | cases rep_bl r2 | cases rep_int r2 | cases rep_str r2); exact ⟨rfl, by simp [D.beq]⟩)
    | (cases rep_non r2; (first | cases rep_bl r1 | cases rep_int r1 | cases rep_str r1); exact ⟨rfl, by simp [D.beq]⟩)
    | (cases rep_int r1; cases rep_int r2; exact ⟨rfl, by simp only [D.beq]; exact dec_int⟩)
    | (cases rep_bl r1; cases rep_bl r2; exact ⟨rfl, by simp only [D.beq]; exact dec_bl⟩)
    | (cases rep_str r1; cases rep_str r2; exact ⟨rfl, by simp only [D.beq]; rw [dec_str, beq_str]⟩)
    | (cases rep_int r1; cases rep_str r2; exact ⟨rfl, by simp [D.beq]⟩)
    | (cases rep_str r1; cases rep_int r2; exact ⟨rfl, by simp [D.beq]⟩)
    | (cases rep_bl r1; cases rep_str r2; exact ⟨rfl, by simp [D.beq]⟩)
    | (cases rep_str r1; cases rep_bl r2; exact ⟨rfl, by simp [D.beq]⟩)
def CmOk (G : Gam) (K : PySem.W.Frag) (o : Cm) (r : R2) : Prop := OpOk G K (fun d d' m => ofO m (cmp2 o d d' m)) r
theorem of_bl {Ex : Nat → Hp → Prop} {Q : VK} {o : Option Bool} (R : Rel G K as m H) (q : Out G K Ex as H (ofO m o) fun d as' m' H' => ∀ v, Rep G K as' H' d v → Q v H') : ∃ k, o = some k ∧ Q (.bl k) H := by
  cases o with
  | none => exact q.elim
  | some k => exact ⟨k, rfl, fin_d R q (by simp only [Rep])⟩
def rEqLn (K : PySem.W.Frag) : R2 := fun x y H Q => ∃ a b xs ys, x = .ref a ∧ y = .ref b ∧ SqL K H a xs ∧ SqL K H b ys ∧ xs.length ≠ ys.length ∧ Q (.bl false) H
def rNeLn (K : PySem.W.Frag) : R2 := fun x y H Q => ∃ a b xs ys, x = .ref a ∧ y = .ref b ∧ SqL K H a xs ∧ SqL K H b ys ∧ xs.length ≠ ys.length ∧ Q (.bl true) H
theorem op_eqLn {X : Cx} (hu : X.A.units + 64 < cLine) : OpR X (compareOp .Eq) (rEqLn X.K) := by
  intro pins s σ H x y v u Q I rx ry h
  obtain ⟨a, b, xs, ys, rfl, rfl, ha, hb, hn, q⟩ := h
  obtain rfl : v = Value.ref a := rx
  obtain rfl : u = Value.ref b := ry
  obtain ⟨its, rv, p, _⟩ := I.list ha
  obtain ⟨its2, rv2, p2, _⟩ := I.list hb
  exact SeqAt.eq_list_lengthsAt p.isList p2.isList (by have h1 := rv.length; have h2 := rv2.length; simp only [List.size_toArray, bne_iff_ne, ne_eq]; omega) (by omega) ⟨.bl _, H, I, rfl, q⟩
theorem op_neLn {X : Cx} (hu : X.A.units + 64 < cLine) : OpR X (compareOp .NotEq) (rNeLn X.K) := by
  intro pins s σ H x y v u Q I rx ry h
  obtain ⟨a, b, xs, ys, rfl, rfl, ha, hb, hn, q⟩ := h
  obtain rfl : v = Value.ref a := rx
  obtain rfl : u = Value.ref b := ry
  obtain ⟨its, rv, p, _⟩ := I.list ha
  obtain ⟨its2, rv2, p2, _⟩ := I.list hb
  exact SeqAt.RcNeAt.lists_lengths p.isList p2.isList (by have h1 := rv.length; have h2 := rv2.length; simp only [List.size_toArray, bne_iff_ne, ne_eq]; omega) (by omega) _ _ _ _ ⟨.bl _, H, I, rfl, q⟩
theorem lenL_ok {d : D} {x : V} {k : Nat} (R : Rel G K as m H) (r : Rep G K as H d x) (h : lenL m d = some k) : ∃ a xs, x = .ref a ∧ SqL K H a xs ∧ xs.length = k := by
  cases d with
  | rol ds =>
    obtain ⟨p, vs, rfl, hp, rs⟩ := rep_rol r
    cases h
    exact ⟨p, vs, rfl, hp.seq, rs.len⟩
  | ref n =>
    obtain ⟨p, rfl, hp⟩ := rep_ref r
    simp only [lenL, Option.map_eq_some_iff] at h
    obtain ⟨ds, hd, rfl⟩ := h
    obtain ⟨vs, h1, rs⟩ := R.lst hp (rdL_some hd)
    exact ⟨p, vs, rfl, SqL.of h1, rs.len⟩
  | _ => cases h
theorem eq_core {Ex : Nat → Hp → Prop} {Q : Bool → Prop} {d d' : D} {x y : V} {k : Bool} (R : Rel G K as m H) (r1 : Rep G K as H d x) (r2 : Rep G K as H d' y) (h : eqD m d d' = some k) (q : Q k) :
    (L2.scal x y = true ∧ Q (decide (x = y))) ∨ (∃ p p', Dp K H x p ∧ Dp K H y p' ∧ SeqAt.shaped p = true ∧ SeqAt.shaped p' = true ∧ Q (PyData.eqv p p')) ∨
      (∃ a b xs ys, x = .ref a ∧ y = .ref b ∧ SqL K H a xs ∧ SqL K H b ys ∧ xs.length ≠ ys.length ∧ Q false) ∨ (eqDct m d d' = some k ∧ Q k) := by
  unfold eqD at h
  split at h
  · rename_i hs
    obtain ⟨h1, h2⟩ := scal_ok hs r1 r2
    cases h
    exact .inl ⟨h1, by rw [h2]; exact q⟩
  · split at h
    · rename_i x' y' e1 e2
      cases h
      obtain ⟨a1, a2, a3⟩ := dat_of R 60 e1 r1
      obtain ⟨b1, b2, b3⟩ := dat_of R 60 e2 r2
      exact .inr (.inl ⟨_, _, a1, b1, by unfold SeqAt.shaped; rw [a3, decide_eq_true (by omega)]; rfl, by unfold SeqAt.shaped; rw [b3, decide_eq_true (by omega)]; rfl, by rw [py_eqv]; exact q⟩)
    · cases hn : neqL m d d' with
      | none =>
        rw [hn] at h
        exact .inr (.inr (.inr ⟨h, q⟩))
      | some r =>
        rw [hn] at h
        cases h
        unfold neqL at hn
        split at hn
        · rename_i i j e1 e2
          split at hn
          · cases hn
          · rename_i hij
            cases hn
            obtain ⟨a, xs, rfl, ha, hxs⟩ := lenL_ok R r1 e1
            obtain ⟨b, ys, rfl, hb, hys⟩ := lenL_ok R r2 e2
            exact .inr (.inr (.inl ⟨a, b, xs, ys, rfl, rfl, ha, hb, by rw [hxs, hys]; exact hij, q⟩))
        · cases hn
theorem cm_int {o : Cm} {gI : Int → Int → Bool} (ho : ∀ i j m, cmp2 o (.int i) (.int j) m = some (gI i j)) (hn : ∀ d d' m, (∀ i j, ¬ (d = .int i ∧ d' = .int j)) → cmp2 o d d' m = none) : CmOk G K o (rI0 fun i j => .bl (gI i j)) := by
  intro Ex as m H d d' x y Q R r1 r2 q
  obtain ⟨k, e, q⟩ := of_bl R q
  by_cases hh : ∃ i j, d = .int i ∧ d' = .int j
  · obtain ⟨i, j, rfl, rfl⟩ := hh
    cases rep_int r1
    cases rep_int r2
    rw [ho] at e
    cases e
    exact ⟨i, j, rfl, rfl, q⟩
  · rw [hn d d' m fun i j z => hh ⟨i, j, z⟩] at e
    cases e
theorem cm_le : CmOk G K .le (rI0 fun i j => .bl (decide (i ≤ j))) := cm_int (fun _ _ _ => rfl) fun d d' m h => by cases d <;> cases d' <;> first | rfl | exact absurd ⟨rfl, rfl⟩ (h _ _)
theorem cm_gt : CmOk G K .gt (rI0 fun i j => .bl (decide (j < i))) := cm_int (fun _ _ _ => rfl) fun d d' m h => by cases d <;> cases d' <;> first | rfl | exact absurd ⟨rfl, rfl⟩ (h _ _)
theorem cm_lt : CmOk G K .lt (fun x y H Q => rI0 (fun i j => .bl (decide (i < j))) x y H Q ∨ ∃ i j, x = .str i ∧ y = .str j ∧ Q (.bl (decide (i.cps.toList < j.cps.toList))) H) := by
  intro Ex as m H d d' x y Q R r1 r2 q
  obtain ⟨k, e, q⟩ := of_bl R q
  cases d <;> cases d' <;> first
    | exact nomatch (show (none : Option Bool) = some k from e)
    | skip
  · cases rep_int r1
    cases rep_int r2
    cases e
    exact .inl ⟨_, _, rfl, rfl, q⟩
  · cases rep_str r1
    cases rep_str r2
    cases e
    exact .inr ⟨_, _, rfl, rfl, q⟩
theorem es_cmp {o : Cm} {op : CmpOp} {r : R2} (hop : OpR X (compareOp op) r) (hm : behindInMarks op b = false) (hr : CmOk G X.K o r) {ea eb : E} (ha : PE X a (rdE G X.K W (evalE C ea))) (hb : PE X b (rdE G X.K W (evalE C eb))) :
    PE X (.Compare a [op] [b] pos) (rdE G X.K W (evalE C (.cmp o ea eb))) :=
  pe_imp (pe_cmpR hop ha hb hm) fun σ H Q q => (rdE.two q).imp fun v H1 q1 => q1.imp fun u H2 ⟨as, m, d, d', R, r1, r2, o⟩ => hr _ as m H2 d d' v u Q R r1 r2 o
theorem rdT.toE {Q : Bool → Hp → Prop} (q : rdT G K W f σ H Q) : rdE G K W f σ H fun v H' => ∃ b, v = .bl b ∧ Q b H' := by
  obtain ⟨as, m, δ, R, S, o⟩ := q
  exact ⟨as, m, δ, R, S, o.imp fun d as' m' H' R' g' ⟨b, e, q⟩ v r => by subst e; exact ⟨b, rep_bl r, q⟩⟩
theorem ts_cmp {o : Cm} {op : CmpOp} {r : R2} (hop : OpR X (compareOp op) r) (hm : behindInMarks op b = false) (hr : CmOk G X.K o r) {ea eb : E} (ha : PE X a (rdE G X.K W (evalE C ea))) (hb : PE X b (rdE G X.K W (evalE C eb))) :
    PT X (.Compare a [op] [b] pos) (rdT G X.K W (evalE C (.cmp o ea eb))) :=
  pt_imp (pt_cmpR hop ha hb hm) fun σ H Q q => (rdE.two (rdT.toE q)).imp fun v H1 q1 => q1.imp fun u H2 ⟨as, m, d, d', R, r1, r2, o⟩ => hr _ as m H2 d d' v u _ R r1 r2 o
theorem ts_val {ea : E} (ha : PE X a (rdE G X.K W (evalE C ea))) (he : ∀ whole, isTrue a X.env whole = (do let v ← whole; standAt a.pos; holding [v] (truthy v)) := by intro _; rfl) : PT X a (rdT G X.K W (evalE C ea)) :=
  pt_imp (pt_val ha he) fun σ H Q q => rdT.toE q
end
end FS
namespace FS
open PySem L2
section
variable {G : Gam} {X : Cx} {W : WX} {e a b c : Expr} {pos p2 : Pos} {f g h : Sto → Mem → Res D} {fs : Sto → Mem → Res (List D)} {m : Mem} {as : List Addr} {H : Hp} {σ : L2.St} {δ : Sto} {K : PySem.W.Frag} {C : Ctx} {rest : List Expr}
variable {ea eb ec : E}
theorem es_not (ha : PE X a (rdE G X.K W (evalE C ea))) : PE X (.UnaryOp .Not a pos) (rdE G X.K W (evalE C (.not ea))) :=
  pe_imp (pe_not ha) fun σ H Q q => (rdE.to q).imp fun v H1 ⟨as, m, d, R, r, o⟩ => by
    cases d <;> first
      | exact (show False from o).elim
      | skip
    cases rep_bl r
    exact ⟨_, rfl, fin_d R o (by simp only [Rep])⟩
theorem es_and (ha : PE X a (rdE G X.K W (evalE C ea))) (hb : PE X (.BoolOp .And (b :: rest) pos) (rdE G X.K W (evalE C eb))) : PE X (.BoolOp .And (a :: b :: rest) pos) (rdE G X.K W (evalE C (.and ea eb))) :=
  pe_imp (pe_and ha hb) fun σ H Q ⟨as, m, δ, R, S, o⟩ => ⟨as, m, δ, R, S, o.bind.imp fun d as' m' H' R' g' o' v r => by
    cases d <;> first
      | exact (show False from o').elim
      | skip
    rename_i k
    cases rep_bl r
    cases k with
    | true => exact ⟨true, rfl, as', m', δ, R', S.grow g', o'⟩
    | false => exact ⟨false, rfl, fin_d R' o' (by simp only [Rep])⟩⟩
theorem es_one {op : BoolOp} (ha : PE X a (rdE G X.K W (evalE C ea))) : PE X (.BoolOp op [a] pos) (rdE G X.K W (evalE C ea)) := pe_one ha
theorem ts_not (ha : PT X a (rdT G X.K W (evalE C ea))) : PT X (.UnaryOp .Not a pos) (rdT G X.K W (evalE C (.not ea))) :=
  pt_imp (pt_not ha) fun σ H Q ⟨as, m, δ, R, S, o⟩ => ⟨as, m, δ, R, S, o.bind.imp fun d as' m' H' R' g' o' => by
    cases d <;> first
      | exact (show False from o').elim
      | skip
    obtain ⟨k, e, q⟩ := Out.here R' o'
    cases e
    exact ⟨_, rfl, q⟩⟩
theorem ws_or (ha : PT X a (rdT G X.K W (evalE C ea))) (hb : PW X (.BoolOp .Or (b :: rest) pos) (rdT G X.K W (evalE C eb))) : PW X (.BoolOp .Or (a :: b :: rest) pos) (rdT G X.K W (evalE C (.or ea eb))) :=
  pw_imp (pw_or ha hb) fun σ H Q ⟨as, m, δ, R, S, o⟩ => ⟨as, m, δ, R, S, o.bind.imp fun d as' m' H' R' g' o' => by
    cases d <;> first
      | exact (show False from o').elim
      | skip
    rename_i k
    cases k with
    | false => exact ⟨false, rfl, as', m', δ, R', S.grow g', o'⟩
    | true =>
      obtain ⟨k, e, q⟩ := Out.here R' o'
      cases e
      exact ⟨true, rfl, q⟩⟩
theorem ws_or1 (ha : PT X a (rdT G X.K W (evalE C ea))) : PW X (.BoolOp .Or [a] pos) (rdT G X.K W (evalE C ea)) := pw_or1 ha
theorem es_chn {o o' : Cm} {op op' : CmpOp} {r r' : R2} (hop : OpR X (compareOp op) r) (hop' : OpR X (compareOp op') r') (hr : CmOk G X.K o r) (hr' : CmOk G X.K o' r') (ha : PE X a (rdE G X.K W (evalE C ea))) (hb : PE X b (rdE G X.K W (evalE C eb)))
    (hc : PE X c (rdE G X.K W (evalE C ec))) (hm : lastMarks [op, op'] [b, c] = false := by with_unfolding_all rfl) : PE X (.Compare a [op, op'] [b, c] pos) (rdE G X.K W (evalE C (.chn o o' ea eb ec))) :=
  pe_imp (pe_chain hop hop' ha hb hc hm) fun σ H Q ⟨as, m, δ, R, S, q⟩ => ⟨as, m, δ, R, S, q.bind.imp fun d as1 m1 H1 R1 g1 q1 v r1 => ⟨as1, m1, δ, R1, S.grow g1, q1.bind.imp fun d2 as2 m2 H2 R2 g2 q2 u r2 => by
    cases ek : cmp2 o d d2 m2 with
    | none => rw [ek] at q2; exact q2.elim
    | some k =>
      rw [ek] at q2
      refine hr (fun c H' => W (.ref (G.cls c)) none σ H') as2 m2 H2 d d2 v u _ R2 (r1.grow g2) r2 ?_
      show Out _ _ _ _ _ (ofO m2 (cmp2 o d d2 m2)) _
      rw [ek]
      refine fun as3 H3 R3 g3 w rw_ => ?_
      cases rep_bl rw_
      cases k with
      | true =>
        refine ⟨true, rfl, as3, m2, δ, R3, ((S.grow g1).grow g2).grow g3, ?_⟩
        have q3 : Out G X.K (fun c H' => W (.ref (G.cls c)) none σ H') as2 H2 ((evalE C ec δ m2).bind fun z m3 => ofO m3 (cmp2 o' d2 z m3)) _ := q2
        exact (q3.later g3).bind.imp fun d4 as4 m4 H4 R4 g4 q4 z r4 => hr' _ as4 m4 H4 d2 d4 u z Q R4 ((r2.grow g3).grow g4) r4 q4
      | false =>
        refine ⟨false, rfl, ?_⟩
        exact q2 as3 H3 R3 g3 _ (by simp only [Rep])⟩⟩
theorem ea_nil : PA X [] (rdA G X.K W (evalEs C .nil)) := pa_imp pa_nil fun σ H Q ⟨as, m, δ, R, S, o⟩ => Out.here R o [] reps_nil
theorem ea_cons {es : List Expr} {el : Es} (ha : PE X e (rdE G X.K W (evalE C ea))) (hr : PA X es (rdA G X.K W (evalEs C el))) (hs : starEach (e :: es) X.env = (false, eval e X.env) :: starEach es X.env := by rfl) :
    PA X (e :: es) (rdA G X.K W (evalEs C (.cons ea el))) :=
  pa_imp (pa_cons ha hr hs) fun σ H Q ⟨as, m, δ, R, S, o⟩ => ⟨as, m, δ, R, S, o.bind.imp fun d as1 m1 H1 R1 g1 q1 v r1 => ⟨as1, m1, δ, R1, S.grow g1, q1.bind.imp fun ds as2 m2 H2 R2 g2 q2 vs rs =>
    Out.here R2 q2 (v :: vs) (reps_cons (r1.grow g2) rs)⟩⟩
theorem es_tup {es : List Expr} {el : Es} {x1} (h : PA X es (rdA G X.K W (evalEs C el))) : PE X (.Tuple es x1 pos) (rdE G X.K W (evalE C (.tup el))) :=
  pe_imp (pe_tup h) fun σ H Q q => (rdE.args q).imp fun vs H1 ⟨as, m, ds, R, r, o⟩ => by
    by_cases hl : ds.length ≤ LIM
    · rw [if_pos hl] at o
      exact ⟨by rw [r.len, line_eq]; exact hl, fin_t R o r⟩
    · rw [if_neg hl] at o; exact o.elim
theorem es_lst {es : List Expr} {el : Es} (h : PA X es (rdA G X.K W (evalEs C el))) : PE X (.List es pos) (rdE G X.K W (evalE C (.lst el))) :=
  pe_imp (pe_lst h) fun σ H Q q => (rdE.args q).imp fun vs H1 ⟨as, m, ds, R, r, o⟩ => by
    by_cases hl : ds.length ≤ LIM
    · rw [if_pos hl] at o
      exact ⟨by rw [r.len, line_eq]; exact hl, fin_l R o r⟩
    · rw [if_neg hl] at o; exact o.elim
theorem ixN_eq (n : Nat) (i : Int) : L2.ixN n i = FS.ixN n i := rfl
theorem atI_ix {α : Type} {xs : List α} {i : Int} {x : α} (h : FS.atI xs i = some x) : ∃ j, FS.ixN xs.length i = some j ∧ xs[j]? = some x := Option.bind_eq_some_iff.mp h
theorem at_rep {ds : List D} {vs : List V} {i : Int} {d : D} (r : Reps G K as H ds vs) (h : FS.atI ds i = some d) : ∃ v, L2.atI vs i = some v ∧ Rep G K as H d v := by
  obtain ⟨j, h1, h2⟩ := atI_ix h
  obtain ⟨v, h3, h4⟩ := r.get h2
  exact ⟨v, by unfold L2.atI; rw [r.len, ixN_eq, h1]; exact h3, h4⟩
theorem opt_ok {Ex : Nat → Hp → Prop} {Q : VK} {o : Option D} (q : Out G K Ex as H (opt m o) fun d as' m' H' => ∀ v, Rep G K as' H' d v → Q v H') : ∃ d, o = some d ∧ Out G K Ex as H (.ok d m) fun d as' m' H' => ∀ v, Rep G K as' H' d v → Q v H' := by
  cases o with
  | none => exact q.elim
  | some d => exact ⟨d, rfl, q⟩
theorem keyV_inj : ∀ {a b : D} {k k' : Key}, keyV a = some k → keyV b = some k' → D.beq a b = decide (k = k')
  | .int i, .int j, _, _, h1, h2 => by
    cases h1; cases h2
    rw [key_ll]
    simp only [D.beq]
  | .str s, .str t, _, _, h1, h2 => by
    cases h1; cases h2
    rw [key_rr]
    simp only [D.beq]
    rw [Bool.eq_iff_iff]
    simp
  | .int i, .str s, _, _, h1, h2 => by
    cases h1; cases h2
    rw [key_lr]
    simp [D.beq]
  | .str s, .int i, _, _, h1, h2 => by
    cases h1; cases h2
    rw [key_rl]
    simp [D.beq]
  | .non, _, _, _, h1, _ | .bl _, _, _, _, h1, _ | .tup _, _, _, _, h1, _ | .rol _, _, _, _, h1, _ | .ins _ _, _, _, _, h1, _ | .ref _, _, _, _, h1, _ | .exc _, _, _, _, h1, _ | .clo _ _, _, _, _, h1, _ => by cases h1
  | .int _, .non, _, _, _, h2 | .int _, .bl _, _, _, _, h2 | .int _, .tup _, _, _, _, h2 | .int _, .rol _, _, _, _, h2 | .int _, .ins _ _, _, _, _, h2 | .int _, .ref _, _, _, _, h2 | .int _, .exc _, _, _, _, h2 | .int _, .clo _ _, _, _, _, h2 => by cases h2
  | .str _, .non, _, _, _, h2 | .str _, .bl _, _, _, _, h2 | .str _, .tup _, _, _, _, h2 | .str _, .rol _, _, _, _, h2 | .str _, .ins _ _, _, _, _, h2 | .str _, .ref _, _, _, _, h2 | .str _, .exc _, _, _, _, h2 | .str _, .clo _ _, _, _, _, h2 => by cases h2
theorem keyVs_inj : ∀ {a b : List D} {k k' : List Key}, a.mapM keyV = some k → b.mapM keyV = some k' → D.beqs a b = decide (k = k')
  | [], [], _, _, h1, h2 => by
    simp at h1 h2
    subst h1; subst h2
    simp [D.beqs]
  | [], b :: bs, k, k', h1, h2 => by
    simp at h1
    subst h1
    have := mapM_some h2
    cases this
    simp [D.beqs]
  | a :: as, [], k, k', h1, h2 => by
    simp at h2
    subst h2
    have := mapM_some h1
    cases this
    simp [D.beqs]
  | a :: as, b :: bs, k, k', h1, h2 => by
    rw [List.mapM_cons] at h1 h2
    obtain ⟨x, hx, h1⟩ := Option.bind_eq_some_iff.mp h1
    obtain ⟨xs, hxs, h1⟩ := Option.bind_eq_some_iff.mp h1
    obtain ⟨y, hy, h2⟩ := Option.bind_eq_some_iff.mp h2
    obtain ⟨ys, hys, h2⟩ := Option.bind_eq_some_iff.mp h2
    cases h1; cases h2
    simp only [D.beqs]
    rw [keyV_inj hx hy, keyVs_inj hxs hys, Bool.eq_iff_iff]
    simp
theorem keyT_inj {a b : D} {k k' : List Key} (h1 : keyT a = some k) (h2 : keyT b = some k') : D.beq a b = decide (k = k') := by
  cases a <;> first
    | exact nomatch (show (none : Option (List Key)) = some k from h1)
    | skip
  cases b <;> first
    | exact nomatch (show (none : Option (List Key)) = some k' from h2)
    | skip
  simp only [D.beq]
  exact keyVs_inj h1 h2
theorem keyOk_f {d : D} (h : keyOk false d = true) : ∃ k, keyV d = some k := by
  cases d <;> first
    | exact absurd (show false = true from h) Bool.false_ne_true
    | exact ⟨_, rfl⟩
theorem keyV_of : ∀ {ds : List D}, ds.all isKeyT = true → ∃ k, ds.mapM keyV = some k
  | [], _ => ⟨[], rfl⟩
  | d :: ds, h => by
    rw [List.all_cons, Bool.and_eq_true] at h
    obtain ⟨k, hk⟩ := keyV_of h.2
    have hd : ∃ x, keyV d = some x := by
      have h1 := h.1
      cases d <;> first
        | exact absurd (show false = true from h1) Bool.false_ne_true
        | exact ⟨_, rfl⟩
    obtain ⟨x, hx⟩ := hd
    exact ⟨x :: k, by rw [List.mapM_cons, hx, hk]; rfl⟩
theorem keyOk_t {d : D} (h : keyOk true d = true) : ∃ k, keyT d = some k := by
  cases d <;> first
    | exact absurd (show false = true from h) Bool.false_ne_true
    | exact keyV_of (by simpa [keyOk] using h)
theorem rep_key {d : D} {v : V} {k : Key} (r : Rep G K as H d v) (h : keyV d = some k) : v = kV k := by
  cases d <;> first
    | exact nomatch (show (none : Option Key) = some k from h)
    | skip
  · cases rep_int r; cases h; rfl
  · cases rep_str r; cases h; rfl
theorem reps_key : ∀ {ds : List D} {vs : List V} {k : List Key}, Reps G K as H ds vs → ds.mapM keyV = some k → vs = k.map kV
  | [], vs, k, r, h => by
    simp only [Reps] at r
    simp at h
    subst r; subst h; rfl
  | d :: ds, vs, k, r, h => by
    simp only [Reps] at r
    obtain ⟨v, t, rfl, r1, r2⟩ := r
    rw [List.mapM_cons] at h
    obtain ⟨x, hx, h⟩ := Option.bind_eq_some_iff.mp h
    obtain ⟨xs, hxs, h⟩ := Option.bind_eq_some_iff.mp h
    cases h
    rw [rep_key r1 hx, reps_key r2 hxs, List.map_cons]
theorem rep_keyT {d : D} {v : V} {k : List Key} (r : Rep G K as H d v) (h : keyT d = some k) : ∃ p, v = .ref p ∧ p ∉ as ∧ H p = some (.tup (k.map kV)) := by
  cases d <;> first
    | exact nomatch (show (none : Option (List Key)) = some k from h)
    | skip
  obtain ⟨p, vs, rfl, hn, hp, rs⟩ := rep_tup r
  exact ⟨p, rfl, hn, by rw [hp, reps_key rs h]⟩
theorem kvsK_get {y : D} {k : Key} (hk : keyV y = some k) : ∀ {kvs : List (D × D)} {ks : List (Key × V)}, KvsK G K as H kvs ks → (∀ d, dGet kvs y = some d → ∃ v, valV ks k = some v ∧ Rep G K as H d v) ∧ (dGet kvs y = none → valV ks k = none)
  | [], _, h => by
    have h : _ = _ := h
    subst h
    exact ⟨fun d e => (nomatch e), fun _ => rfl⟩
  | p :: r, _, ⟨k1, v1, t, e, h1, h2, h3⟩ => by
    subst e
    have ih := kvsK_get hk h3
    have hb := keyV_inj h1 hk
    unfold dGet
    rw [List.find?_cons]
    by_cases q : k1 = k
    · rw [decide_eq_true q] at hb
      rw [hb]
      exact ⟨fun d e => ⟨v1, valV_pos q, by cases e; exact h2⟩, fun e => nomatch e⟩
    · rw [decide_eq_false q] at hb
      rw [hb, valV_neg q]
      exact ih
theorem kvsT_get {y : D} {k : List Key} (hk : keyT y = some k) : ∀ {kvs : List (D × D)} {ks : List (List Key × V)}, KvsT G K as H kvs ks → (∀ d, dGet kvs y = some d → ∃ v, valV ks k = some v ∧ Rep G K as H d v) ∧ (dGet kvs y = none → valV ks k = none)
  | [], _, h => by
    have h : _ = _ := h
    subst h
    exact ⟨fun d e => (nomatch e), fun _ => rfl⟩
  | p :: r, _, ⟨k1, v1, t, e, h1, h2, h3⟩ => by
    subst e
    have ih := kvsT_get hk h3
    have hb := keyT_inj h1 hk
    unfold dGet
    rw [List.find?_cons]
    by_cases q : k1 = k
    · rw [decide_eq_true q] at hb
      rw [hb]
      exact ⟨fun d e => ⟨v1, valV_pos q, by cases e; exact h2⟩, fun e => nomatch e⟩
    · rw [decide_eq_false q] at hb
      rw [hb, valV_neg q]
      exact ih
theorem get_ok {t z : Bool} {kvs : List (D × D)} {p : Addr} {y : D} {u : V} (hm : MRep G K as H p (.dct t z kvs)) (hk : keyOk t y = true) (r : Rep G K as H y u) :
    ∃ o : Option V, DGet H p u o ∧ (∀ d, dGet kvs y = some d → ∃ v, o = some v ∧ Rep G K as H d v) ∧ (dGet kvs y = none → o = none) := by
  cases t with
  | false =>
    obtain ⟨k, hk⟩ := keyOk_f hk
    cases z with
    | false =>
      obtain ⟨ks, hp, hs⟩ := hm
      exact ⟨valV ks k, .inl ⟨ks, k, .inl hp, rep_key r hk, rfl⟩, (kvsK_get hk hs).1, (kvsK_get hk hs).2⟩
    | true =>
      obtain ⟨ks, o, hp, hs⟩ := hm
      exact ⟨valV ks k, .inl ⟨ks, k, .inr ⟨o, hp⟩, rep_key r hk, rfl⟩, (kvsK_get hk hs).1, (kvsK_get hk hs).2⟩
  | true =>
    obtain ⟨k, hk⟩ := keyOk_t hk
    obtain ⟨b, rfl, _, hb⟩ := rep_keyT r hk
    cases z with
    | false =>
      obtain ⟨ks, hp, hs⟩ := hm
      exact ⟨valV ks k, .inr ⟨ks, k, b, .inl hp, rfl, hb, rfl⟩, (kvsT_get hk hs).1, (kvsT_get hk hs).2⟩
    | true =>
      obtain ⟨ks, o, hp, hs⟩ := hm
      exact ⟨valV ks k, .inr ⟨ks, k, b, .inr ⟨o, hp⟩, rfl, hb, rfl⟩, (kvsT_get hk hs).1, (kvsT_get hk hs).2⟩
theorem ok_ix : OpOk G K index (fun x y H Q => rIxL K x y H Q ∨ rIxT K x y H Q ∨ rIxS x y H Q ∨ ∃ a v, x = .ref a ∧ DGet H a y (some v) ∧ Q v H) := by
  intro Ex as m H d d' x y Q R r1 r2 q
  cases d with
  | tup ds =>
    cases d' <;> first
      | exact (show False from q).elim
      | skip
    obtain ⟨p, vs, rfl, _, hp, rs⟩ := rep_tup r1
    cases rep_int r2
    obtain ⟨d, e, q⟩ := opt_ok q
    obtain ⟨v, h1, h2⟩ := at_rep rs e
    exact .inr (.inl ⟨p, vs, _, v, rfl, rfl, SqT.of hp, h1, fin_d R q h2⟩)
  | rol ds =>
    cases d' <;> first
      | exact (show False from q).elim
      | skip
    obtain ⟨p, vs, rfl, hp, rs⟩ := rep_rol r1
    cases rep_int r2
    obtain ⟨d, e, q⟩ := opt_ok q
    obtain ⟨v, h1, h2⟩ := at_rep rs e
    exact .inl ⟨p, vs, _, v, rfl, rfl, hp.seq, h1, fin_d R q h2⟩
  | str s =>
    cases d' <;> first
      | exact (show False from q).elim
      | skip
    cases rep_str r1
    cases rep_int r2
    simp only [index] at q
    split at q
    · rename_i hl
      obtain ⟨d, e, q⟩ := opt_ok q
      obtain ⟨c, hc, rfl⟩ := Option.map_eq_some_iff.mp e
      refine .inr (.inr (.inl ⟨_, _, c, rfl, rfl, by rw [str_len, line_eq]; exact hl, ?_, fin_d R q (by simp only [Rep])⟩))
      show L2.atI s.toArray.toList _ = some c
      rw [List.toList_toArray]
      exact hc
    · exact q.elim
  | ref n =>
    obtain ⟨p, rfl, hp⟩ := rep_ref r1
    simp only [index] at q
    cases e : m[n]? with
    | none => rw [e] at q; exact q.elim
    | some mo =>
      rw [e] at q
      cases mo with
      | lst ds =>
        cases d' <;> first
          | exact (show False from q).elim
          | skip
        cases rep_int r2
        obtain ⟨vs, h0, rs⟩ := R.lst hp e
        obtain ⟨d, e, q⟩ := opt_ok q
        obtain ⟨v, h1, h2⟩ := at_rep rs e
        exact .inl ⟨p, vs, _, v, rfl, rfl, SqL.of h0, h1, fin_d R q h2⟩
      | dct t z kvs =>
        simp only at q
        split at q
        · rename_i hk
          obtain ⟨d, e', q⟩ := opt_ok q
          obtain ⟨o, h1, h2, _⟩ := get_ok (R.at_ n p _ hp e) hk r2
          obtain ⟨v, rfl, hr⟩ := h2 d e'
          exact .inr (.inr (.inr ⟨p, v, rfl, h1, fin_d R q hr⟩))
        · exact q.elim
      | obj c fs => exact q.elim
  | _ => exact (show False from q).elim
theorem ix_dct (hu : X.A.units + 1 < cLine) : IxR X (fun x y H Q => ∃ a v, x = .ref a ∧ DGet H a y (some v) ∧ Q v H) := by
  intro value slice pins s σ H x y v u Q I rx ry h hs
  obtain ⟨a, z, rfl, g, q⟩ := h
  cases rx
  exact PyProof.Rows.tail_any (dict_typeIs I g) PySem.F.slot_dict_getitem.lookup (d_getItem hu I g ry fun w' s' I' r' => ⟨z, H, I', r', q⟩) hs
theorem es_idx (hu : X.A.units + 1 < cLine) (ha : PE X a (rdE G X.K W (evalE C ea))) (hb : PE X b (rdE G X.K W (evalE C eb))) (hs : PlainIx b := by intro _ _; rfl) : PE X (.Subscript a b pos) (rdE G X.K W (evalE C (.idx ea eb))) :=
  pe_imp (pe_ix (ix_list.or (ix_tup.or (ix_str.or (ix_dct hu)))) ha hb hs) fun σ H Q q => (rdE.two q).imp fun v H1 q1 => q1.imp fun u H2 ⟨as, m, d, d', R, r1, r2, o⟩ => ok_ix _ as m H2 d d' v u Q R r1 r2 o
def rdO (G : Gam) (K : PySem.W.Frag) (W : WX) (f : Sto → Mem → Res (Option Int)) : TO := fun σ H Q => ∃ as m δ, Rel G K as m H ∧ St2 G K as H δ σ ∧
  Out G K (fun c H' => W (.ref (G.cls c)) none σ H') as H (f δ m) fun d as' m' H' => Q d H'
variable {lo hi : Option Expr} {l r : Oe}
theorem lookup_zip {ns : List Str} {vs : List V} {k : Nat} {x : Str} {v : V} (hn : ns.Nodup) (h1 : ns[k]? = some x) (h2 : vs[k]? = some v) : (ns.zip vs).lookup x = some v := by
  induction ns generalizing vs k with
  | nil => simp at h1
  | cons y ns ih =>
    cases vs with
    | nil => simp at h2
    | cons u vs =>
      rw [List.zip_cons_cons, List.lookup_cons]
      cases k with
      | zero =>
        simp at h1 h2
        subst h1; subst h2
        simp
      | succ k =>
        have h1' : ns[k]? = some x := by simpa using h1
        have hne : x ≠ y := fun z => (List.nodup_cons.mp hn).1 (z ▸ List.mem_of_getElem? h1')
        rw [show (x == y) = false from beq_eq_false_iff_ne.mpr hne]
        exact ih (List.nodup_cons.mp hn).2 h1' (by simpa using h2)
theorem flds_look (hi : ∀ i j, G.kf i = true → G.kf j = true → G.fnm i = G.fnm j → i = j) {f : Nat} (hf : G.kf f = true) {d : D} : ∀ {fs : List (Nat × D)} {vs : List (Str × V)}, Flds G K as H fs vs → fs.lookup f = some d → ∃ v, vs.lookup (G.fnm f) = some v ∧ Rep G K as H d v
  | [], _, _, h => by simp at h
  | (g, x) :: r, _, ⟨v, t, e, hg, h1, h2⟩, h => by
    subst e
    rw [List.lookup_cons] at h ⊢
    by_cases q : f = g
    · subst q
      simp at h ⊢
      subst h
      exact h1
    · have e1 : (f == g) = false := beq_eq_false_iff_ne.mpr q
      have e2 : (G.fnm f == G.fnm g) = false := beq_eq_false_iff_ne.mpr fun z => q (hi _ _ hf hg z)
      rw [e1] at h
      rw [e2]
      exact flds_look hi hf h2 h
structure GOk (G : Gam) (K : PySem.W.Frag) : Prop where
  fin : ∀ i j, G.kf i = true → G.kf j = true → G.fnm i = G.fnm j → i = j
  fkn : ∀ c f, G.imm c = true → f ∈ G.flds c → G.kf f = true
  fnd : ∀ c, G.imm c = true → (G.flds c).Nodup
  cls : ∀ c, (G.imm c = true ∨ G.mu c = true) → Cls K (G.cls c)
  inj : ∀ c e, (G.imm c = true ∨ G.mu c = true) → (G.imm e = true ∨ G.mu e = true) → G.cls c = G.cls e → c = e
  noa : ∀ c f, (G.imm c = true ∨ G.mu c = true) → G.kf f = true → NoAttr K (G.cls c) (G.fnm f)
theorem GOk.nds (GO : GOk G K) (c : Nat) (hc : G.imm c = true) : ((G.flds c).map G.fnm).Nodup := by
  have h := GO.fnd c hc
  have hk := GO.fkn c
  generalize G.flds c = l at h hk
  induction l with
  | nil => exact List.nodup_nil
  | cons a l ih =>
    rw [List.map_cons]
    obtain ⟨h1, h2⟩ := List.nodup_cons.mp h
    refine List.nodup_cons.mpr ⟨fun z => ?_, ih h2 fun f hc hf => hk f hc (List.mem_cons_of_mem _ hf)⟩
    obtain ⟨b, hb, e⟩ := List.mem_map.mp z
    rw [GO.fin b a (hk b hc (List.mem_cons_of_mem _ hb)) (hk a hc List.mem_cons_self) e] at hb
    exact h1 hb
theorem es_fld {x : Str} {fi : Nat} (GO : GOk G X.K) (hx : x = G.fnm fi) (hk : G.kf fi = true) (hf : C.flds = G.flds) (ha : PE X a (rdE G X.K W (evalE C ea))) (hb : attributeBase a x X.env (eval a X.env) = eval a X.env := by rfl) : PE X (.Attribute a x pos) (rdE G X.K W (evalE C (.fld ea fi))) :=
  pe_imp (pe_fld ha hb) fun σ H Q q => (rdE.to q).imp fun v H1 ⟨as, m, d, R, r, o⟩ => by
    subst hx
    cases d <;> first
      | exact (show False from o).elim
      | skip
    · rename_i c ds
      obtain ⟨p, dx, vs, rfl, hn, hc, hp, hl, rs⟩ := rep_ins r
      simp only [hf] at o
      cases e : (G.flds c).findIdx? (· == fi) with
      | none => rw [e] at o; exact o.elim
      | some k =>
        rw [e] at o
        obtain ⟨d, e2, o⟩ := opt_ok o
        obtain ⟨u, h1, h2⟩ := rs.get e2
        have hq : (G.flds c)[k]? = some fi := by
          obtain ⟨hlt, h, _⟩ := List.findIdx?_eq_some_iff_getElem.mp e
          rw [List.getElem?_eq_getElem hlt]
          simpa using h
        refine ⟨p, G.cls c, dx, _, u, rfl, hp, GO.cls c (.inl hc), GO.noa c fi (.inl hc) hk, ?_, fin_d R o h2⟩
        refine lookup_zip (k := k) ?_ (by rw [List.getElem?_map, hq]; rfl) h1
        exact GO.nds c hc
    · rename_i n
      obtain ⟨p, rfl, hp⟩ := rep_ref r
      simp only at o
      cases e : m[n]? with
      | none => rw [e] at o; exact o.elim
      | some mo =>
        rw [e] at o
        cases mo with
        | obj c fs =>
          obtain ⟨dx, vs, hc, h1, h2⟩ := R.at_ n p _ hp e
          obtain ⟨d, e2, o⟩ := opt_ok o
          obtain ⟨u, h3, h4⟩ := flds_look GO.fin hk h2 e2
          exact ⟨p, G.cls c, dx, vs, u, rfl, h1, GO.cls c (.inr hc), GO.noa c fi (.inr hc) hk, h3, fin_d R o h4⟩
        | _ => exact o.elim
end
end FS
namespace FS
open PySem L2
theorem findT_some (t : List Nat) : ∀ {s : List Nat} {i : Nat}, findT t s = some i → i ≤ s.length ∧ t <+: s.drop i ∧ ∀ k, k < i → ¬ t <+: s.drop k
  | [], i, h => by
    simp only [findT] at h
    split at h
    · rename_i e
      cases h
      subst e
      exact ⟨Nat.le_refl _, List.nil_prefix, fun k hk => absurd hk (Nat.not_lt_zero _)⟩
    · cases h
  | x :: r, i, h => by
    simp only [findT] at h
    split at h
    · rename_i e
      cases h
      exact ⟨Nat.zero_le _, by simpa using e, fun k hk => absurd hk (Nat.not_lt_zero _)⟩
    · rename_i e
      obtain ⟨j, hj, rfl⟩ := Option.map_eq_some_iff.mp h
      obtain ⟨h1, h2, h3⟩ := findT_some t hj
      refine ⟨by simpa using h1, by simpa using h2, fun k hk => ?_⟩
      cases k with
      | zero => simpa using e
      | succ k => simpa using h3 k (by omega)
theorem findT_none (t : List Nat) : ∀ {s : List Nat}, findT t s = none → ∀ k, k ≤ s.length → ¬ t <+: s.drop k
  | [], h, k, hk => by
    simp only [findT] at h
    split at h
    · cases h
    · rename_i e
      simpa using e
  | x :: r, h, k, hk => by
    simp only [findT] at h
    split at h
    · cases h
    · rename_i e
      cases k with
      | zero => simpa using e
      | succ k =>
        have := findT_none t (Option.map_eq_none_iff.mp h) k (by simpa using hk)
        simpa using this
theorem at_pre (s t : List Nat) (i : Nat) : StrLaws.At (⟨s.toArray⟩ : Str) ⟨t.toArray⟩ s.length i ↔ i ≤ s.length ∧ t <+: s.drop i := by
  unfold StrLaws.At
  rw [StrLaws.subAt_eq, str_len]
  have e1 : (⟨s.toArray⟩ : Str).cps.toList = s := rfl
  have e2 : (⟨t.toArray⟩ : Str).cps.toList = t := rfl
  rw [e1, e2, beq_iff_eq, List.prefix_iff_eq_take]
  constructor
  · rintro ⟨h1, h2⟩
    exact ⟨by omega, h2.symm⟩
  · rintro ⟨h1, h2⟩
    refine ⟨?_, h2.symm⟩
    have := congrArg List.length h2
    rw [List.length_take, List.length_drop] at this
    omega
theorem occ_findT (s t : List Nat) : (Builtin.Str.occurrences (⟨s.toArray⟩ : Str) ⟨t.toArray⟩ 0 (⟨s.toArray⟩ : Str).length 1 = [] ∧ findT t s = none) ∨ ∃ i r, Builtin.Str.occurrences (⟨s.toArray⟩ : Str) ⟨t.toArray⟩ 0 (⟨s.toArray⟩ : Str).length 1 = i :: r ∧ findT t s = some i := by
  have hl := str_len s
  rcases StrLaws.occ_head ⟨s.toArray⟩ ⟨t.toArray⟩ 1 (Nat.le_refl _) with ⟨e, hn⟩ | ⟨i, r, e, ha, hn⟩
  · refine .inl ⟨e, ?_⟩
    cases h : findT t s with
    | none => rfl
    | some j =>
      obtain ⟨h1, h2, _⟩ := findT_some t h
      exact absurd (by rw [hl]; exact (at_pre s t j).mpr ⟨h1, h2⟩) (hn j)
  · refine .inr ⟨i, r, e, ?_⟩
    rw [hl] at ha hn
    obtain ⟨h1, h2⟩ := (at_pre s t i).mp ha
    cases h : findT t s with
    | none => exact absurd h2 (findT_none t h i h1)
    | some j =>
      obtain ⟨h3, h4, h5⟩ := findT_some t h
      congr 1
      rcases Nat.lt_trichotomy i j with q | q | q
      · exact absurd h2 (h5 i q)
      · exact q.symm
      · exact absurd ((at_pre s t j).mpr ⟨h3, h4⟩) (hn j q)
theorem in_findT (s t : List Nat) : (!(Builtin.Str.occurrences (⟨s.toArray⟩ : Str) ⟨t.toArray⟩ 0 (⟨s.toArray⟩ : Str).length 1).isEmpty) = (findT t s).isSome := by
  rcases occ_findT s t with ⟨e, h⟩ | ⟨i, r, e, h⟩ <;> rw [e, h] <;> rfl
theorem find_findS (s t : List Nat) : Txt.find (⟨s.toArray⟩ : Str) ⟨t.toArray⟩ = findS t s := by
  unfold Txt.find findS
  rcases occ_findT s t with ⟨e, h⟩ | ⟨i, r, e, h⟩ <;> rw [e, h]
section
variable {G : Gam} {X : Cx} {W : WX} {e a b c : Expr} {pos p2 : Pos} {f g h : Sto → Mem → Res D} {fs : Sto → Mem → Res (List D)} {m : Mem} {as : List Addr} {H : Hp} {σ : L2.St} {δ : Sto} {K : PySem.W.Frag} {C : Ctx} {rest : List Expr}
variable {ea eb ec : E}
theorem op_in_dct (hu : X.A.units + 1 < cLine) : OpR X (compareOp .In) (fun x y H Q => ∃ a o, y = .ref a ∧ DGet H a x o ∧ Q (.bl o.isSome) H) := by
  intro pins s σ H x y v u Q I rx ry h
  obtain ⟨a, o, rfl, g, q⟩ := h
  cases ry
  exact d_in hu I g rx fun s' I' => ⟨.bl o.isSome, H, I', rfl, q⟩
theorem rep_flat {d : D} {v : V} (r : Rep G K as H d v) (h : flat d = true) : flatV v = true := by
  cases d <;> first
    | exact absurd (show false = true from h) Bool.false_ne_true
    | skip
  · cases rep_non r; rfl
  · cases rep_bl r; rfl
  · cases rep_int r; rfl
  · cases rep_str r; rfl
theorem reps_flat : ∀ {ds : List D} {vs : List V}, Reps G K as H ds vs → ds.all flat = true → vs.all flatV = true
  | [], vs, r, _ => by simp only [Reps] at r; subst r; rfl
  | d :: ds, vs, r, h => by
    simp only [Reps] at r
    obtain ⟨v, t, rfl, r1, r2⟩ := r
    rw [List.all_cons, Bool.and_eq_true] at h
    rw [List.all_cons, rep_flat r1 h.1, reps_flat r2 h.2]
    rfl
theorem rep_eqV {d d' : D} {v v' : V} (r : Rep G K as H d v) (r' : Rep G K as H d' v') (h : flat d = true) (h' : flat d' = true) : eqV v v' = eqFlat d d' := by
  cases d <;> first
    | exact absurd (show false = true from h) Bool.false_ne_true
    | skip
  all_goals cases d' <;> first
    | exact absurd (show false = true from h') Bool.false_ne_true
    | skip
  all_goals first
    | cases rep_non r
    | cases rep_bl r
    | cases rep_int r
    | cases rep_str r
  all_goals first
    | cases rep_non r'
    | cases rep_bl r'
    | cases rep_int r'
    | cases rep_str r'
  all_goals first
    | rfl
    | (simp [eqV, eqFlat, D.beq]; done)
    | (simp only [eqV, eqFlat, D.beq]; exact beq_str _ _)
theorem reps_any {d : D} {v : V} (r : Rep G K as H d v) (h : flat d = true) : ∀ {ds : List D} {vs : List V}, Reps G K as H ds vs → ds.all flat = true → inV v vs = ds.any fun y => eqFlat y d
  | [], vs, rs, _ => by simp only [Reps] at rs; subst rs; rfl
  | y :: ds, vs, rs, hs => by
    simp only [Reps] at rs
    obtain ⟨u, t, rfl, r1, r2⟩ := rs
    rw [List.all_cons, Bool.and_eq_true] at hs
    have ih := reps_any r h r2 hs.2
    unfold inV at ih ⊢
    rw [List.any_cons, List.any_cons, ih, rep_eqV r1 r hs.1 h]
theorem pys_any (a : Dat) : ∀ l : List Dat, (pysOf l).any (fun z => PyData.eqv z (pyOf a)) = l.any fun z => Dat.eqv z a
  | [] => by simp [pysOf]
  | b :: l => by rw [pysOf, List.any_cons, List.any_cons, pys_any a l, py_eqv]
theorem in_core {d d' : D} {x y : V} {k : Bool} (R : Rel G K as m H) (r1 : Rep G K as H d x) (r2 : Rep G K as H d' y) (h : inD m d d' = some k) :
    (∃ i j, x = .str i ∧ y = .str j ∧ k = (!(Builtin.Str.occurrences j i 0 j.length 1).isEmpty)) ∨
    (∃ p xs, y = .ref p ∧ (SqL K H p xs ∨ SqT K H p xs) ∧ flatV x = true ∧ xs.all flatV = true ∧ k = inV x xs) ∨
    (∃ a o, y = .ref a ∧ DGet H a x o ∧ k = o.isSome) ∨
    (∃ e es, Dp K H x e ∧ Dp K H y (.list es) ∧ SeqAt.shaped e = true ∧ SeqAt.shaped (.list es) = true ∧ k = es.any fun z => PyData.eqv z e) := by
  unfold inD at h
  split at h
  · cases h
    cases rep_str r1
    cases rep_str r2
    exact .inl ⟨_, _, rfl, rfl, (in_findT _ _).symm⟩
  · obtain ⟨p, vs, rfl, _, hp, rs⟩ := rep_tup r2
    split at h
    · rename_i hf
      rw [Bool.and_eq_true] at hf
      cases h
      exact .inr (.inl ⟨p, vs, rfl, .inr (SqT.of hp), rep_flat r1 hf.1, reps_flat rs hf.2, (reps_any r1 hf.1 rs hf.2).symm⟩)
    · cases h
  · obtain ⟨p, rfl, hp⟩ := rep_ref r2
    split at h
    · rename_i e
      split at h
      · rename_i hk
        cases h
        obtain ⟨o, h1, h2, h3⟩ := get_ok (R.at_ _ p _ hp e) hk r1
        refine .inr (.inr (.inl ⟨p, o, rfl, h1, ?_⟩))
        cases e2 : dGet _ d with
        | none => rw [h3 e2]; rfl
        | some z => obtain ⟨v, e3, _⟩ := h2 z e2; rw [e3]; rfl
      · cases h
    · rename_i e
      obtain ⟨vs, h0, rs⟩ := R.lst hp e
      split at h
      · rename_i hf
        rw [Bool.and_eq_true] at hf
        cases h
        exact .inr (.inl ⟨p, vs, rfl, .inl (SqL.of h0), rep_flat r1 hf.1, reps_flat rs hf.2, (reps_any r1 hf.1 rs hf.2).symm⟩)
      · unfold inDat at h
        split at h
        · rename_i a l g1 g2
          cases h
          obtain ⟨a1, a2, a3⟩ := dat_of R 58 g1 r1
          obtain ⟨b1, b2, b3⟩ := dat_of R 59 g2 r2
          refine .inr (.inr (.inr ⟨pyOf a, pysOf l, a1, b1, by unfold SeqAt.shaped; rw [a3, decide_eq_true (by omega)]; rfl, by
            have b2' : (PyData.list (pysOf l)).depth ≤ 59 := b2
            have b3' : (PyData.list (pysOf l)).canLay0 = true := b3
            unfold SeqAt.shaped; rw [b3', decide_eq_true (by omega)]; rfl, (pys_any a l).symm⟩))
        · cases h
    · cases h
  · cases h
theorem cm_in : CmOk G K .inn (fun x y H Q => (∃ i j, x = .str i ∧ y = .str j ∧ Q (.bl (!(Builtin.Str.occurrences j i 0 j.length 1).isEmpty)) H) ∨ rIn K false x y H Q ∨ (∃ a o, y = .ref a ∧ DGet H a x o ∧ Q (.bl o.isSome) H) ∨ rInD K x y H Q) := by
  intro Ex as m H d d' x y Q R r1 r2 q
  obtain ⟨k, e, q⟩ := of_bl R q
  rcases in_core R r1 r2 e with ⟨i, j, h1, h2, rfl⟩ | ⟨p, xs, h1, h2, h3, h4, rfl⟩ | ⟨a, o, h1, h2, rfl⟩ | ⟨pe, es, h1, h2, h3, h4, rfl⟩
  · exact .inl ⟨i, j, h1, h2, q⟩
  · exact .inr (.inl ⟨p, xs, h1, h2, h3, h4, q⟩)
  · exact .inr (.inr (.inl ⟨a, o, h1, h2, q⟩))
  · exact .inr (.inr (.inr ⟨pe, es, h1, h2, h3, h4, q⟩))
theorem or_in (hu : X.A.units + 65 < cLine) : OpR X (compareOp .In) (fun x y H Q => (∃ i j, x = .str i ∧ y = .str j ∧ Q (.bl (!(Builtin.Str.occurrences j i 0 j.length 1).isEmpty)) H) ∨ rIn X.K false x y H Q ∨ (∃ a o, y = .ref a ∧ DGet H a x o ∧ Q (.bl o.isSome) H) ∨ rInD X.K x y H Q) := op_in_str.or (op_in_seq.or ((op_in_dct (by omega)).or (op_inD hu)))
theorem kvsK_dl : ∀ {kvs : List (D × D)} {ks : List (Key × V)}, KvsK G K as H kvs ks → ks.length = kvs.length
  | [], _, h => by cases (show _ = _ from h); rfl
  | _ :: _, _, ⟨_, _, _, e, _, _, h⟩ => by subst e; simp [kvsK_dl h]
theorem kvsT_dl : ∀ {kvs : List (D × D)} {ks : List (List Key × V)}, KvsT G K as H kvs ks → ks.length = kvs.length
  | [], _, h => by cases (show _ = _ from h); rfl
  | _ :: _, _, ⟨_, _, _, e, _, _, h⟩ => by subst e; simp [kvsT_dl h]
theorem eqKv_ok (R : Rel G K as m H) {ls : List (D × D)} {lk : List (Key × V)} (rl : KvsK G K as H ls lk) : ∀ {ks : List (D × D)} {kk : List (Key × V)} {r : Bool}, KvsK G K as H ks kk → eqKv m ls ks = some r → KvR K H lk kk r
  | [], _, r, h, e => by
    cases (show _ = _ from h)
    cases e
    exact .nil
  | p :: t, _, r, ⟨k1, v1, t', e1, h1, h2, h3⟩, e => by
    subst e1
    obtain ⟨g1, g2⟩ := kvsK_get h1 rl
    unfold eqKv at e
    cases hd : dGet ls p.1 with
    | none =>
      rw [hd] at e
      cases e
      exact .miss (g2 hd)
    | some y =>
      rw [hd] at e
      simp only at e
      obtain ⟨y', hy, ry⟩ := g1 y hd
      cases hb : datEq m p.2 y with
      | none => rw [hb] at e; cases e
      | some b =>
        rw [hb] at e
        cases hc : eqKv m ls t with
        | none => rw [hc] at e; cases e
        | some c =>
          rw [hc] at e
          cases e
          unfold datEq at hb
          split at hb
          · rename_i a b' q1 q2
            cases hb
            obtain ⟨a1, a2, a3⟩ := dat_of R 58 q1 h2
            obtain ⟨b1, b2, b3⟩ := dat_of R 58 q2 ry
            rw [← py_eqv]
            exact .hit hy a1 b1 (by unfold SeqAt.shaped; rw [a3, decide_eq_true (by omega)]; rfl) (by unfold SeqAt.shaped; rw [b3, decide_eq_true (by omega)]; rfl) (eqKv_ok R rl h3 hc)
          · cases hb
theorem dctOf_dl (R : Rel G K as m H) {d : D} {x : V} {t : Bool} {kvs : List (D × D)} (r : Rep G K as H d x) (h : dctOf m d = some (t, kvs)) : ∃ a, x = .ref a ∧ DL H a kvs.length ∧ (t = false → ∃ ks, H a = some (.dK ks) ∧ KvsK G K as H kvs ks) := by
  cases d with
  | ref n =>
    obtain ⟨p, rfl, hp⟩ := rep_ref r
    unfold dctOf at h
    simp only at h
    split at h
    · rename_i t' kvs' e
      cases h
      have hm := R.at_ _ p _ hp e
      cases t with
      | false =>
        obtain ⟨ks, h1, h2⟩ := hm
        exact ⟨p, rfl, .inl ⟨ks, h1, kvsK_dl h2⟩, fun _ => ⟨ks, h1, h2⟩⟩
      | true =>
        obtain ⟨ks, h1, h2⟩ := hm
        exact ⟨p, rfl, .inr ⟨ks, h1, kvsT_dl h2⟩, fun z => by cases z⟩
    · cases h
  | _ => cases h
theorem eqDct_ok (R : Rel G K as m H) {d d' : D} {x y : V} {k : Bool} (f : Bool → Bool) {Q : VK} (r1 : Rep G K as H d x) (r2 : Rep G K as H d' y) (h : eqDct m d d' = some k) (q : Q (.bl (f k)) H) : rEqDc K f x y H Q := by
  unfold eqDct at h
  split at h
  · rename_i t ks u ls e1 e2
    obtain ⟨a, rfl, d1, k1⟩ := dctOf_dl R r1 e1
    obtain ⟨b, rfl, d2, k2⟩ := dctOf_dl R r2 e2
    refine ⟨a, b, rfl, rfl, ?_⟩
    split at h
    · rename_i hl
      split at h
      · rename_i h0
        cases h
        subst h0
        exact .inl ⟨_, _, d1, d2, .inr rfl, by rw [decide_eq_true hl]; exact q⟩
      · split at h
        · cases h
        · rename_i htu
          have ht : t = false := by cases t <;> simp_all
          have hu : u = false := by cases u <;> simp_all
          obtain ⟨kk, h1, h2⟩ := k1 ht
          obtain ⟨lk, h3, h4⟩ := k2 hu
          exact .inr ⟨kk, lk, k, h1, h3, by rw [kvsK_dl h2, kvsK_dl h4]; exact hl, eqKv_ok R h4 h2 h, q⟩
    · rename_i hl
      cases h
      exact .inl ⟨_, _, d1, d2, .inl hl, by rw [decide_eq_false hl]; exact q⟩
  · cases h
theorem cm_eq : CmOk G K .eq (fun x y H Q => rEq x y H Q ∨ (rEqD K x y H Q ∨ (rEqLn K x y H Q ∨ rEqDc K id x y H Q))) := by
  intro Ex as m H d d' x y Q R r1 r2 q
  obtain ⟨k, e, q⟩ := of_bl R q
  rcases eq_core (Q := fun k => Q (.bl k) H) (Ex := Ex) R r1 r2 e q with h | ⟨p, p', h1, h2, h3, h4, h5⟩ | h | ⟨h1, h2⟩
  · exact .inl h
  · exact .inr (.inl ⟨p, p', h1, h2, h3, h4, h5⟩)
  · exact .inr (.inr (.inl h))
  · exact .inr (.inr (.inr (eqDct_ok R id r1 r2 h1 h2)))
theorem cm_ne : CmOk G K .ne (fun x y H Q => rNe x y H Q ∨ (rNeD K x y H Q ∨ (rNeLn K x y H Q ∨ rEqDc K not x y H Q))) := by
  intro Ex as m H d d' x y Q R r1 r2 q
  obtain ⟨k, e, q⟩ := of_bl R q
  obtain ⟨k', e', rfl⟩ := Option.map_eq_some_iff.mp e
  rcases eq_core (Q := fun k => Q (.bl (!k)) H) (Ex := Ex) R r1 r2 e' q with h | ⟨p, p', h1, h2, h3, h4, h5⟩ | h | ⟨h1, h2⟩
  · exact .inl h
  · exact .inr (.inl ⟨p, p', h1, h2, h3, h4, h5⟩)
  · exact .inr (.inr (.inl h))
  · exact .inr (.inr (.inr (eqDct_ok R not r1 r2 h1 h2)))
def BiOk (G : Gam) (K : PySem.W.Frag) (b : Bi) (r : List V → Hp → VK → Prop) : Prop := ∀ (Ex : Nat → Hp → Prop) (as : List Addr) (m : Mem) (H : Hp) (ds : List D) (vs : List V) (Q : VK), Rel G K as m H → Reps G K as H ds vs →
  Out G K Ex as H (bi b ds m) (fun d as' m' H' => ∀ v, Rep G K as' H' d v → Q v H') → r vs H Q
variable {x : Str} {id : String} {es : List Expr} {el : Es} {r : List V → Hp → VK → Prop} {bb : Bi}
theorem es_bi (hc : CallR X (.builtin id) r) (hr : BiOk G X.K bb r) (hg : Gl X x) (hm : X.mg x = none) (hv : bootBuiltins x = some (.builtin id)) (ha : PA X (e :: es) (rdA G X.K W (evalEs C el))) (hn : x ≠ "__name__" := by decide) (hdb : (x == ("__debug__" : Str)) = false := by decide)
    (he : starEach (e :: es) X.env = (false, eval e X.env) :: starEach es X.env := by rfl) (hpl : (backTo pos (starEach es X.env)).any (·.1) = false := by rfl) : PE X (.Call (.Name x p2) (e :: es) [] pos) (rdE G X.K W (evalE C (.bi bb el))) :=
  pe_imp (pe_callB hc hg hm hv ha hn hdb he hpl) fun σ H Q q => (rdE.args q).imp fun vs H1 ⟨as, m, ds, R, r, o⟩ => hr _ as m H1 ds vs Q R r o
theorem es_bty (hc : CallR X (.type id) r) (hr : BiOk G X.K bb r) (hg : Gl X x) (hm : X.mg x = none) (hv : bootBuiltins x = some (.type id)) (ha : PA X (e :: es) (rdA G X.K W (evalEs C el))) (hn : x ≠ "__name__" := by decide) (hdb : (x == ("__debug__" : Str)) = false := by decide)
    (he : starEach (e :: es) X.env = (false, eval e X.env) :: starEach es X.env := by rfl) (hpl : (backTo pos (starEach es X.env)).any (·.1) = false := by rfl) : PE X (.Call (.Name x p2) (e :: es) [] pos) (rdE G X.K W (evalE C (.bi bb el))) :=
  pe_imp (pe_callTy hc hg hm hv ha hn hdb he hpl) fun σ H Q q => (rdE.args q).imp fun vs H1 ⟨as, m, ds, R, r, o⟩ => hr _ as m H1 ds vs Q R r o
theorem reps1 {d : D} {vs : List V} (r : Reps G K as H [d] vs) : ∃ v, vs = [v] ∧ Rep G K as H d v := by
  simp only [Reps] at r
  obtain ⟨v, t, rfl, h, rfl⟩ := r
  exact ⟨v, rfl, h⟩
theorem kvsK_len : ∀ {kvs : List (D × D)} {ks : List (Key × V)}, KvsK G K as H kvs ks → ks.length = kvs.length
  | [], _, h => by cases (show _ = _ from h); rfl
  | _ :: _, _, ⟨_, _, _, e, _, _, h⟩ => by subst e; simp [kvsK_len h]
theorem kvsT_len : ∀ {kvs : List (D × D)} {ks : List (List Key × V)}, KvsT G K as H kvs ks → ks.length = kvs.length
  | [], _, h => by cases (show _ = _ from h); rfl
  | _ :: _, _, ⟨_, _, _, e, _, _, h⟩ => by subst e; simp [kvsT_len h]
theorem bo_len : BiOk G K .len (fun xs H Q => (∃ (x : V) (n : Nat), xs = [x] ∧ LenV K x H n ∧ Q (V.int (n : Int)) H) ∨ (∃ a kvs, xs = [V.ref a] ∧ H a = some (.dK kvs) ∧ Q (V.int kvs.length) H) ∨ rLenT xs H Q) := by
  intro Ex as m H ds vs Q R r q
  unfold bi at q
  split at q <;> first
    | exact q.elim
    | skip
  all_goals rename_i hb; try (cases hb; done)
  obtain ⟨v, rfl, r1⟩ := reps1 r
  rename_i d
  obtain ⟨d', e0, q⟩ := opt_ok q
  obtain ⟨n, hn, rfl⟩ := Option.map_eq_some_iff.mp e0
  have q := fin_d (v := V.int (n : Int)) R q (by simp only [Rep])
  unfold lenD at hn
  split at hn <;> first
    | (cases hn; done)
    | skip
  · split at hn
    · rename_i hl
      cases hn
      cases rep_str r1
      exact .inl ⟨_, _, rfl, ⟨by rw [str_len, line_eq]; exact hl, (str_len _).symm⟩, q⟩
    · cases hn
  · cases hn
    obtain ⟨p, vs, rfl, _, hp, rs⟩ := rep_tup r1
    exact .inl ⟨_, _, rfl, .inr ⟨vs, SqT.of hp, rs.len.symm⟩, q⟩
  · cases hn
    obtain ⟨p, vs, rfl, hp, rs⟩ := rep_rol r1
    exact .inl ⟨_, _, rfl, .inl ⟨vs, hp.seq, rs.len.symm⟩, q⟩
  · obtain ⟨p, rfl, hp⟩ := rep_ref r1
    split at hn
    · cases hn
      obtain ⟨vs, h0, rs⟩ := R.lst hp (by assumption)
      exact .inl ⟨_, _, rfl, .inl ⟨vs, SqL.of h0, rs.len.symm⟩, q⟩
    · cases hn
      obtain ⟨ks, h0, rs⟩ := R.at_ _ p _ hp (by assumption)
      rw [← kvsK_len rs] at q
      exact .inr (.inl ⟨p, ks, rfl, h0, q⟩)
    · cases hn
      obtain ⟨ks, h0, rs⟩ := R.at_ _ p _ hp (by assumption)
      rw [← kvsT_len rs] at q
      exact .inr (.inr ⟨p, ks, rfl, h0, q⟩)
    · cases hn
theorem cr_len' : CallR X (.builtin "len") (fun xs H Q => (∃ (x : V) (n : Nat), xs = [x] ∧ LenV X.K x H n ∧ Q (V.int (n : Int)) H) ∨ (∃ a kvs, xs = [V.ref a] ∧ H a = some (.dK kvs) ∧ Q (V.int kvs.length) H) ∨ rLenT xs H Q) := call_len.or (call_lenD.or call_len_dT)
theorem allB_some : ∀ {ds : List D} {bs : List Bool}, allB ds = some bs → ds = bs.map .bl
  | [], _, h => by cases h; rfl
  | .bl b :: r, bs, h => by
    obtain ⟨t, ht, rfl⟩ := Option.map_eq_some_iff.mp h
    rw [allB_some ht]; rfl
  | .non :: _, _, h | .int _ :: _, _, h | .str _ :: _, _, h | .tup _ :: _, _, h | .rol _ :: _, _, h | .ins _ _ :: _, _, h | .ref _ :: _, _, h | .exc _ :: _, _, h | .clo _ _ :: _, _, h => by cases h
theorem reps_bls : ∀ {bs : List Bool} {vs : List V}, Reps G K as H (bs.map .bl) vs → vs = bs.map V.bl
  | [], vs, r => by simpa only [List.map_nil, Reps] using r
  | b :: bs, vs, r => by
    simp only [List.map_cons, Reps] at r
    obtain ⟨v, t, rfl, r1, r2⟩ := r
    rw [rep_bl r1, reps_bls r2]; rfl
theorem one_list {d : D} {n : Nat} {ds : List D} {v : V} (R : Rel G K as m H) (r1 : Rep G K as H (.ref n) v) (h : rdL m n = some ds) : ∃ p vs, v = .ref p ∧ SqL K H p vs ∧ Reps G K as H ds vs := seq_of R r1 h
theorem bo_all : BiOk G K .all (rAll K) := by
  intro Ex as m H ds vs Q R r q
  unfold bi at q
  split at q <;> first
    | exact q.elim
    | skip
  all_goals rename_i hb; try (cases hb; done)
  obtain ⟨v, rfl, r1⟩ := reps1 r
  obtain ⟨d', e, q⟩ := opt_ok q
  obtain ⟨bs, hn, rfl⟩ := Option.map_eq_some_iff.mp e
  obtain ⟨l, hl, hb⟩ := Option.bind_eq_some_iff.mp hn
  obtain ⟨p, vs, rfl, h0, rs⟩ := one_list (d := .non) R r1 hl
  rw [allB_some hb] at rs
  rw [reps_bls rs] at h0
  exact ⟨p, bs, rfl, h0, fin_d R q (by simp only [Rep])⟩
end
end FS
namespace FS
open PySem L2
section
variable {G : Gam} {X : Cx} {W : WX} {e a b c : Expr} {pos p2 p3 : Pos} {f g h : Sto → Mem → Res D} {fs : Sto → Mem → Res (List D)} {m : Mem} {as : List Addr} {H : Hp} {σ : L2.St} {δ : Sto} {K : PySem.W.Frag} {C : Ctx} {rest : List Expr}
variable {ea eb ec : E} {x : Str} {id : String} {es : List Expr} {el : Es} {r : List V → Hp → VK → Prop} {bb : Bi}
theorem kvsK_keys : ∀ {kvs : List (D × D)} {ks : List (Key × V)}, KvsK G K as H kvs ks → Reps G K as H (kvs.map (·.1)) (ks.map fun kv => kV kv.1)
  | [], _, h => by cases (show _ = _ from h); exact reps_nil
  | p :: _, _, ⟨k, v, t, e, h1, _, h⟩ => by
    subst e
    refine reps_cons ?_ (kvsK_keys h)
    show Rep G K as _ p.1 _
    cases hp : p.1 <;> rw [hp] at h1 <;> first
      | (cases h1; simp only [Rep]; rfl)
      | exact nomatch h1
theorem keyV_rep {d : D} {k : Key} (h : keyV d = some k) : Rep G K as H d (kV k) := by
  cases d <;> first
    | (cases h; done)
    | skip
  · cases h; simp only [Rep, kV]
  · cases h; simp only [Rep, kV]
theorem keysV_rep : ∀ {ds : List D} {k : List Key}, ds.mapM keyV = some k → Reps G K as H ds (k.map kV)
  | [], k, h => by
    have : k = [] := by simpa using h.symm
    subst this
    exact reps_nil
  | d :: ds, k, h => by
    rw [List.mapM_cons] at h
    obtain ⟨x, h1, h⟩ := Option.bind_eq_some_iff.mp h
    obtain ⟨r, h2, h⟩ := Option.bind_eq_some_iff.mp h
    cases h
    exact reps_cons (keyV_rep h1) (keysV_rep h2)
theorem keyT_rep (R : Rel G K as m H) {d : D} {k : List Key} {q : Addr} (h : keyT d = some k) (hq : H q = some (.tup (k.map kV))) : Rep G K as H d (.ref q) := by
  cases d <;> first
    | (cases h; done)
    | skip
  rename_i ds
  simp only [Rep]
  refine ⟨q, _, rfl, fun hm => ?_, hq, keysV_rep h⟩
  obtain ⟨i, hi⟩ := List.mem_iff_getElem?.mp hm
  have hlt : i < m.length := by rw [← R.len]; exact (List.getElem?_eq_some_iff.mp hi).1
  have r := R.at_ i q _ hi (List.getElem?_eq_getElem hlt)
  generalize m[i] = mo at r
  cases mo with
  | lst ds => obtain ⟨vs, e, _⟩ := r; rw [hq] at e; cases e
  | obj c fs => obtain ⟨dx, vs, _, e, _⟩ := r; rw [hq] at e; cases e
  | dct t z kvs =>
    cases t <;> cases z
    · obtain ⟨ks, e, _⟩ := r; rw [hq] at e; cases e
    · obtain ⟨ks, o, e, _⟩ := r; rw [hq] at e; cases e
    · obtain ⟨ks, e, _⟩ := r; rw [hq] at e; cases e
    · obtain ⟨ks, o, e, _⟩ := r; rw [hq] at e; cases e
theorem kvsT_refs (R : Rel G K as m H) : ∀ {kvs : List (D × D)} {ks : List (List Key × V)} {bs : List Addr}, KvsT G K as H kvs ks → IsKeys H ks bs → Reps G K as H (kvs.map (·.1)) (bs.map V.ref)
  | [], _, bs, h, hk => by
    cases (show _ = _ from h)
    cases hk
    exact reps_nil
  | p :: r, _, bs, ⟨k1, v1, t, e, h1, h2, h3⟩, hk => by
    subst e
    cases hk with
    | cons a b => exact reps_cons (keyT_rep R h1 a) (kvsT_refs R h3 b)
def rListT : List V → Hp → VK → Prop := fun xs H Q => ∃ d kvs, xs = [V.ref d] ∧ Rd H d (.dT kvs) ∧ ∀ p bs, H p = none → IsKeys H kvs bs → Q (.ref p) (upd H p (.lst (bs.map V.ref)))
theorem bo_list : BiOk G K .list (fun xs H Q => (∃ p ys, xs = [.ref p] ∧ (SqL K H p ys ∨ SqT K H p ys) ∧ ∀ l, H l = none → Q (.ref l) (upd H l (.lst ys))) ∨ (rListD xs H Q ∨ rListT xs H Q)) := by
  intro Ex as m H ds vs Q R r q
  unfold bi at q
  split at q <;> first
    | exact q.elim
    | skip
  all_goals rename_i hb; try (cases hb; done)
  all_goals obtain ⟨v, rfl, r1⟩ := reps1 r
  · obtain ⟨p, rfl, hp⟩ := rep_ref r1
    split at q
    · obtain ⟨vs, h0, rs⟩ := R.lst hp (by assumption)
      exact .inl ⟨p, vs, rfl, .inl (SqL.of h0), fin_l R q rs⟩
    · obtain ⟨ks, h0, rs⟩ := R.at_ _ p _ hp (by assumption)
      exact .inr (.inl ⟨p, ks, rfl, h0, fin_l R q (kvsK_keys rs)⟩)
    · obtain ⟨ks, h0, rs⟩ := R.at_ _ p _ hp (by assumption)
      exact .inr (.inr ⟨p, ks, rfl, .inl h0, fun l bs hn hk => fin_l R q (kvsT_refs R rs hk) l hn⟩)
    · exact q.elim
  · obtain ⟨p, vs, rfl, hp, rs⟩ := rep_rol r1
    exact .inl ⟨p, vs, rfl, .inl hp.seq, fin_l R q rs⟩
  · obtain ⟨p, vs, rfl, _, hp, rs⟩ := rep_tup r1
    exact .inl ⟨p, vs, rfl, .inr (SqT.of hp), fin_l R q rs⟩
theorem cr_list (hc : X.calm = true) : CallR X (.type "list") (fun xs H Q => (∃ p ys, xs = [.ref p] ∧ (SqL X.K H p ys ∨ SqT X.K H p ys) ∧ ∀ l, H l = none → Q (.ref l) (upd H l (.lst ys))) ∨ (rListD xs H Q ∨ rListT xs H Q)) := call_list_of.or ((call_list_dK hc).or (call_list_dT hc))
def tagU (G : Gam) : Tag → Value
  | .own c => .ref (G.cls c)
  | .int => .type "int"
  | .bool => .type "bool"
  | .str => .type "str"
  | .non => .type "NoneType"
  | .tuple => .type "tuple"
  | .list => .type "list"
def tyU (G : Gam) : Ty → Value
  | .cls c => .ref (G.cls c)
  | .int => .type "int"
  | .bool => .type "bool"
  | .str => .type "str"
  | .list => .type "list"
  | .tuple => .type "tuple"
  | .vale => .type "ValueError"
def tyV' (G : Gam) : Ty → V
  | .cls c => .ref (G.cls c)
  | .int => .ty "int"
  | .bool => .ty "bool"
  | .str => .ty "str"
  | .list => .ty "list"
  | .tuple => .ty "tuple"
  | .vale => .ty "ValueError"
theorem ty_clsV (t : Ty) : ClsV (tyV' G t) (tyU G t) := by
  cases t <;> first
    | exact ClsV.own _
    | exact ClsV.ty _
structure IsiOk (G : Gam) (K : PySem.W.Frag) (sub : Nat → Nat → Bool) (vale : Nat → Bool) : Prop where
  ins : ∀ c, (G.imm c = true ∨ G.mu c = true) → PySem.W.findIn K (.ref (G.cls c)) "__class__" = some (some (.builtin "object.__class__")) ∧ PySem.W.mroIn K (G.cls c) (.type "object") = some true
  dsc : PySem.W.specialIn K (.builtin "object.__class__") "__get__" = some (some (.builtin "getset_descriptor.__get__")) ∧ PySem.W.takesIn K (.builtin "object.__class__") = some true
  one : ∀ c e, (G.imm c = true ∨ G.mu c = true ∨ G.xc c = true) → G.kc e = true → PySem.W.kitOne K (.ref (G.cls c)) (.ref (G.cls e)) = some (sub c e)
  oth : ∀ n e, n ∈ ["int", "bool", "str", "NoneType", "tuple", "list"] → G.kc e = true → PySem.W.kitOne K (.type n) (.ref (G.cls e)) = some false
  bty : ∀ c n, n ∈ ["int", "bool", "str", "tuple", "list"] → (G.imm c = true ∨ G.mu c = true ∨ G.xc c = true) → PySem.W.kitOne K (.ref (G.cls c)) (.type n) = some false
  exc : ∀ c, G.xc c = true → ExcC K (G.cls c)
  vl : ∀ c, (G.imm c = true ∨ G.mu c = true ∨ G.xc c = true) → G.kv = true → PySem.W.kitOne K (.ref (G.cls c)) (.type "ValueError") = some (vale c)
def tyK (G : Gam) : Ty → Bool
  | .cls c => G.kc c
  | .vale => G.kv
  | _ => true
def tagK (G : Gam) : Tag → Prop
  | .own c => G.imm c = true ∨ G.mu c = true ∨ G.xc c = true
  | _ => True
theorem isi_one {sub : Nat → Nat → Bool} {vale : Nat → Bool} (IO : IsiOk G K sub vale) : ∀ {g : Tag} {t : Ty}, tagK G g → tyK G t = true → PySem.W.kitOne K (tagU G g) (tyU G t) = some (tagIs sub vale g t)
  | .own c, .cls e, hg, ht => IO.one c e hg ht
  | .own c, .int, hg, _ => IO.bty c "int" (by decide) hg
  | .own c, .bool, hg, _ => IO.bty c "bool" (by decide) hg
  | .own c, .str, hg, _ => IO.bty c "str" (by decide) hg
  | .own c, .list, hg, _ => IO.bty c "list" (by decide) hg
  | .own c, .tuple, hg, _ => IO.bty c "tuple" (by decide) hg
  | .own c, .vale, hg, ht => IO.vl c hg ht
  | .int, .cls e, _, ht => IO.oth "int" e (by decide) ht
  | .int, .int, _, _ => kit_ty (a := "int") (b := "int") (r := true) (by decide +kernel)
  | .int, .bool, _, _ => kit_ty (a := "int") (b := "bool") (r := false) (by decide +kernel)
  | .int, .str, _, _ => kit_ty (a := "int") (b := "str") (r := false) (by decide +kernel)
  | .int, .list, _, _ => kit_ty (a := "int") (b := "list") (r := false) (by decide +kernel)
  | .int, .tuple, _, _ => kit_ty (a := "int") (b := "tuple") (r := false) (by decide +kernel)
  | .int, .vale, _, _ => kit_ty (a := "int") (b := "ValueError") (r := false) (by decide +kernel)
  | .bool, .cls e, _, ht => IO.oth "bool" e (by decide) ht
  | .bool, .int, _, _ => kit_ty (a := "bool") (b := "int") (r := true) (by decide +kernel)
  | .bool, .bool, _, _ => kit_ty (a := "bool") (b := "bool") (r := true) (by decide +kernel)
  | .bool, .str, _, _ => kit_ty (a := "bool") (b := "str") (r := false) (by decide +kernel)
  | .bool, .list, _, _ => kit_ty (a := "bool") (b := "list") (r := false) (by decide +kernel)
  | .bool, .tuple, _, _ => kit_ty (a := "bool") (b := "tuple") (r := false) (by decide +kernel)
  | .bool, .vale, _, _ => kit_ty (a := "bool") (b := "ValueError") (r := false) (by decide +kernel)
  | .str, .cls e, _, ht => IO.oth "str" e (by decide) ht
  | .str, .int, _, _ => kit_ty (a := "str") (b := "int") (r := false) (by decide +kernel)
  | .str, .bool, _, _ => kit_ty (a := "str") (b := "bool") (r := false) (by decide +kernel)
  | .str, .str, _, _ => kit_ty (a := "str") (b := "str") (r := true) (by decide +kernel)
  | .str, .list, _, _ => kit_ty (a := "str") (b := "list") (r := false) (by decide +kernel)
  | .str, .tuple, _, _ => kit_ty (a := "str") (b := "tuple") (r := false) (by decide +kernel)
  | .str, .vale, _, _ => kit_ty (a := "str") (b := "ValueError") (r := false) (by decide +kernel)
  | .non, .cls e, _, ht => IO.oth "NoneType" e (by decide) ht
  | .non, .int, _, _ => kit_ty (a := "NoneType") (b := "int") (r := false) (by decide +kernel)
  | .non, .bool, _, _ => kit_ty (a := "NoneType") (b := "bool") (r := false) (by decide +kernel)
  | .non, .str, _, _ => kit_ty (a := "NoneType") (b := "str") (r := false) (by decide +kernel)
  | .non, .list, _, _ => kit_ty (a := "NoneType") (b := "list") (r := false) (by decide +kernel)
  | .non, .tuple, _, _ => kit_ty (a := "NoneType") (b := "tuple") (r := false) (by decide +kernel)
  | .non, .vale, _, _ => kit_ty (a := "NoneType") (b := "ValueError") (r := false) (by decide +kernel)
  | .tuple, .cls e, _, ht => IO.oth "tuple" e (by decide) ht
  | .tuple, .int, _, _ => kit_ty (a := "tuple") (b := "int") (r := false) (by decide +kernel)
  | .tuple, .bool, _, _ => kit_ty (a := "tuple") (b := "bool") (r := false) (by decide +kernel)
  | .tuple, .str, _, _ => kit_ty (a := "tuple") (b := "str") (r := false) (by decide +kernel)
  | .tuple, .list, _, _ => kit_ty (a := "tuple") (b := "list") (r := false) (by decide +kernel)
  | .tuple, .tuple, _, _ => kit_ty (a := "tuple") (b := "tuple") (r := true) (by decide +kernel)
  | .tuple, .vale, _, _ => kit_ty (a := "tuple") (b := "ValueError") (r := false) (by decide +kernel)
  | .list, .cls e, _, ht => IO.oth "list" e (by decide) ht
  | .list, .int, _, _ => kit_ty (a := "list") (b := "int") (r := false) (by decide +kernel)
  | .list, .bool, _, _ => kit_ty (a := "list") (b := "bool") (r := false) (by decide +kernel)
  | .list, .str, _, _ => kit_ty (a := "list") (b := "str") (r := false) (by decide +kernel)
  | .list, .list, _, _ => kit_ty (a := "list") (b := "list") (r := true) (by decide +kernel)
  | .list, .tuple, _, _ => kit_ty (a := "list") (b := "tuple") (r := false) (by decide +kernel)
  | .list, .vale, _, _ => kit_ty (a := "list") (b := "ValueError") (r := false) (by decide +kernel)
inductive TyE (K : PySem.W.Frag) (H : Hp) : V → Value → Prop where
  | tyx {x : V} {t : Value} (h : TyX K H x t) : TyE K H x t
  | exc {p : Addr} {o : Obj} {D : Addr} (e : H p = some (ExcH o)) (z : Zc (.ref D) none o) (f : ∃ vs, o.data = .fields vs) (c : ExcC K D) : TyE K H (.ref p) (.ref D)
theorem kit_ofE {X : Cx} {pins : List (Addr × Obj)} {σ : L2.St} {H : Hp} {s : Shared} {x : V} {u t : Value} (I : Inv X pins σ H s) (rx : RelV x u) (ty : TyE X.K H x t) : ∃ P : Heap → Prop, PySem.W.KitX X.K u t P ∧ P s.heap ∧ u ≠ .builtin "__main__.__loader__#opaque" := by
  cases ty with
  | tyx h => exact kit_of I rx h
  | @exc p oe D e z f C =>
    cases (show u = Value.ref p from rx)
    have hget : s.heap.get? p = some oe := (I.hok p _ e).1
    obtain ⟨vs, hv⟩ := f
    have J : PySem.W.InstAt s.heap p oe D none := by
      obtain ⟨oc, od, oda, osl⟩ := oe
      obtain ⟨h1, h2⟩ := z
      dsimp only at h1 h2 hv
      subst h1 h2 hv
      exact ⟨hget, rfl, rfl, trivial⟩
    exact ⟨_, PySem.W.handS_kitx_exc C.hg C.hk C.hs C.hd C.ha C.hn C.ht C.hm, J, fun z => nomatch z⟩
theorem call_isiE {X : Cx} : CallR X (.builtin "isinstance") (fun xs H Q => ∃ (x c : V) (t u : Value) (b : Bool), xs = [x, c] ∧ ClsV c u ∧ TyE X.K H x t ∧ PySem.W.kitOne X.K t u = some b ∧ Q (.bl b) H) := by
  intro pins s σ H xs us Q I r h
  obtain ⟨x, c, t, u, b, rfl, k, ty, e, q⟩ := h
  obtain ⟨u1, u2, rfl, r1, r2⟩ := vals2 r
  have e2 := k.eq r2
  subst e2
  obtain ⟨P, Z, p, hx⟩ := kit_ofE I r1 ty
  exact PySem.W.kia_one Z I.kIn p e hx fun tk => ⟨.bl b, H, I.tok tk, rfl, q⟩
theorem tag_ty {sub : Nat → Nat → Bool} {vale : Nat → Bool} (GO : GOk G K) (IO : IsiOk G K sub vale) (R : Rel G K as m H) {d : D} {v : V} {g : Tag} (r : Rep G K as H d v) (h : tagOf m d = some g) : TyE K H v (tagU G g) ∧ tagK G g := by
  cases d with
  | non => cases rep_non r; cases h; exact ⟨.tyx <| .base .non, trivial⟩
  | bl _ => cases rep_bl r; cases h; exact ⟨.tyx <| .base (.bl _), trivial⟩
  | int _ => cases rep_int r; cases h; exact ⟨.tyx <| .base (.int _), trivial⟩
  | str _ => cases rep_str r; cases h; exact ⟨.tyx <| .base (.str _), trivial⟩
  | tup ds => obtain ⟨p, vs, rfl, _, hp, _⟩ := rep_tup r; cases h; exact ⟨.tyx <| .base (.tup hp), trivial⟩
  | rol ds =>
    obtain ⟨p, vs, rfl, hp, _⟩ := rep_rol r
    cases h
    rcases hp with ⟨_, o, hp⟩ | ⟨_, hp⟩ | ⟨o, its, n, hk, hc, _⟩
    · exact ⟨.tyx <| .base (.frz hp), trivial⟩
    · exact ⟨.tyx <| .base (.lst hp), trivial⟩
    · exact ⟨.tyx (.kList hk hc), trivial⟩
  | ins c ds =>
    obtain ⟨p, dx, vs, rfl, _, hc, hp, _⟩ := rep_ins r
    cases h
    exact ⟨.tyx <| .base (.ins hp (GO.cls c (.inl hc)) (IO.ins c (.inl hc)).1 IO.dsc.1 IO.dsc.2 (IO.ins c (.inl hc)).2), .inl hc⟩
  | ref n =>
    obtain ⟨p, rfl, hp⟩ := rep_ref r
    unfold tagOf at h
    simp only at h
    split at h
    · cases h
      obtain ⟨vs, h0, rs⟩ := R.lst hp (by assumption)
      exact ⟨.tyx <| .base (.lst h0), trivial⟩
    · cases h
      obtain ⟨dx, vs, hc, h0, rs⟩ := R.at_ _ p _ hp (by assumption)
      exact ⟨.tyx <| .base (.ins h0 (GO.cls _ (.inr hc)) (IO.ins _ (.inr hc)).1 IO.dsc.1 IO.dsc.2 (IO.ins _ (.inr hc)).2), .inr (.inl hc)⟩
    · cases h
  | exc c =>
    obtain ⟨p, o, rfl, _, hc, hp, z, f⟩ := (show ∃ p o, v = .ref p ∧ p ∉ as ∧ G.xc c = true ∧ H p = some (ExcH o) ∧ Zc (.ref (G.cls c)) none o ∧ ∃ vs, o.data = .fields vs from by simpa only [Rep] using r)
    cases h
    exact ⟨.exc hp z f (IO.exc c hc), .inr (.inr hc)⟩
  | _ => cases h
theorem out_opt {Ex : Nat → Hp → Prop} {Q : VK} {o : Option Tag} {k : Tag → Bool} (R : Rel G K as m H) (q : Out G K Ex as H (match o with | some g => .ok (.bl (k g)) m | none => .no) fun d as' m' H' => ∀ v, Rep G K as' H' d v → Q v H') : ∃ g, o = some g ∧ Q (.bl (k g)) H := by
  cases o with
  | none => exact q.elim
  | some g => exact ⟨g, rfl, fin_d R q (by simp only [Rep])⟩
theorem es_isi {t : Ty} (GO : GOk G X.K) (IO : IsiOk G X.K C.sub C.vale) (hg : Gl X "isinstance") (hm : X.mg "isinstance" = none) (hv : bootBuiltins "isinstance" = some (.builtin "isinstance")) (ha : PE X a (rdE G X.K W (evalE C ea))) (hb : PE X b (tC (tyV' G t))) (ht : tyK G t = true)
    (hs : starEach [a, b] X.env = (false, eval a X.env) :: starEach [b] X.env := by rfl) (hs2 : starEach [b] X.env = (false, eval b X.env) :: starEach [] X.env := by rfl) (hpl : (backTo pos (starEach [b] X.env)).any (·.1) = false := by rfl) :
    PE X (.Call (.Name "isinstance" p2) [a, b] [] pos) (rdE G X.K W (evalE C (.isi ea [t]))) :=
  pe_imp (pe_callB call_isiE hg hm hv (pa_cons ha (pa_cons hb pa_nil hs2) hs) (by decide) (by decide) hs hpl) fun σ H Q q => (rdE.to q).imp fun v H1 ⟨as, m, d, R, r, o⟩ => by
    obtain ⟨g, e, q⟩ := out_opt R o
    obtain ⟨h1, h2⟩ := tag_ty GO IO R r e
    exact ⟨v, tyV' G t, tagU G g, tyU G t, _, rfl, ty_clsV t, h1, isi_one IO h2 ht, by simpa using q⟩
def knd : Bk → String
  | .s => "str"
  | .l => "list"
  | .d => "dict"
theorem bk_ty (R : Rel G K as m H) {d : D} {v : V} {k : Bk} (r : Rep G K as H d v) (h : bk m d = some k) (hk : k ≠ .d) : tyV K (knd k) v H := by
  cases d with
  | str s => cases rep_str r; cases h; rfl
  | ref n =>
    obtain ⟨p, rfl, hp⟩ := rep_ref r
    unfold bk at h
    simp only at h
    split at h
    · cases h
      obtain ⟨vs, h0, rs⟩ := R.lst hp (by assumption)
      exact .inl ⟨rfl, vs, SqL.of h0⟩
    · cases h; exact absurd rfl hk
    · cases h
  | _ => cases h
def BmOk (G : Gam) (K : PySem.W.Frag) (b : Bm) (k : Bk) (r : V → List V → Hp → VK → Prop) : Prop := ∀ (Ex : Nat → Hp → Prop) (as : List Addr) (m : Mem) (H : Hp) (d : D) (ds : List D) (v : V) (vs : List V) (Q : VK), Rel G K as m H → bk m d = some k → Rep G K as H d v → Reps G K as H ds vs →
  Out G K Ex as H (bm b d ds m) (fun d as' m' H' => ∀ v, Rep G K as' H' d v → Q v H') → r v vs H Q
variable {rm : V → List V → Hp → VK → Prop} {o : Expr} {eo : E} {bm' : Bm} {k : Bk} {name : Str}
theorem bm_split {Ex : Nat → Hp → Prop} {Q : VK} (hk : k ≠ .d) (h1 : ∀ k', bmK bm' k' = true → k' = k) (S : St2 G K as H δ σ) (R : Rel G K as m H)
    (q : Out G K Ex as H (evalE C (.bm eo bm' el) δ m) fun d as' m' H' => ∀ v, Rep G K as' H' d v → Q v H') :
    Out G K Ex as H (evalE C eo δ m) fun d as' m' H' => ∀ v, Rep G K as' H' d v → tyV K (knd k) v H' ∧ Rel G K as' m' H' ∧ Grow as H as' H' ∧ Out G K Ex as' H' ((evalEs C el δ m').bind fun ds m2 => if bk m2 d = some k then bm bm' d ds m2 else .no) fun d as' m' H' => ∀ v, Rep G K as' H' d v → Q v H' := by
  simp only [evalE] at q
  refine q.bind.imp fun d as' m' H' R' g' o' v r => ?_
  cases hb : bk m' d with
  | none => rw [hb] at o'; exact o'.elim
  | some k' =>
    rw [hb] at o'
    simp only at o'
    split at o'
    · rename_i hk'
      have := h1 k' hk'
      subst this
      exact ⟨bk_ty R' r hb hk, R', g', o'⟩
    · exact o'.elim
theorem es_bm (pa : PlainAttrs (knd k)) (slot : Slot (knd k) name id) (hty : typeOf (.builtin id) = pure (.type "method_descriptor")) (hmt : MtR X id rm) (hk : k ≠ .d) (h1 : ∀ k', bmK bm' k' = true → k' = k) (hr : BmOk G X.K bm' k rm)
    (ho : PE X o (rdE G X.K W (evalE C eo))) (ha : PA X (e :: es) (rdA G X.K W (evalEs C el)))
    (hbase : attributeBase o name X.env (eval o X.env) = eval o X.env := by rfl)
    (hfew : ((backTo pos (starEach (e :: es) X.env)).all (fun x => !x.1) && (backToKw pos (keywordEach [] X.env)).all (fun x => x.1.isSome)
      && decide ((e :: es).length + ([] : List Keyword).length + (if ([] : List Keyword).isEmpty then 0 else 1) < 30)) = true := by rfl)
    (hline : (p2.endLine == pos.line) = true := by rfl) (hs : starEach (e :: es) X.env = (false, eval e X.env) :: starEach es X.env := by rfl) (hplain : (backTo pos (starEach es X.env)).any (·.1) = false := by rfl) :
    PE X (.Call (.Attribute o name p2) (e :: es) [] pos) (rdE G X.K W (evalE C (.bm eo bm' el))) :=
  pe_imp (pe_bm pa slot hty hmt ho ha hbase hfew hline hs hplain) fun σ H Q ⟨as, m, δ, R, S, q⟩ =>
    ⟨as, m, δ, R, S, (bm_split hk h1 S R q).imp fun d as1 m1 H1 R1 g1 q1 v r1 => ⟨(q1 v r1).1, as1, m1, δ, R1, S.grow g1, (q1 v r1).2.2.2.bind.imp fun ds as2 m2 H2 R2 g2 q2 vs r2 => by
      split at q2
      · rename_i hb
        exact hr _ as2 m2 H2 d ds v vs Q R2 hb (r1.grow g2) r2 q2
      · exact q2.elim⟩⟩
theorem es_bm0 (pa : PlainAttrs (knd k)) (slot : Slot (knd k) name id) (hty : typeOf (.builtin id) = pure (.type "method_descriptor")) (hmt : MtR X id rm) (hk : k ≠ .d) (h1 : ∀ k', bmK bm' k' = true → k' = k) (hr : BmOk G X.K bm' k rm)
    (ho : PE X o (rdE G X.K W (evalE C eo))) (hbase : attributeBase o name X.env (eval o X.env) = eval o X.env := by rfl) (hline : (p2.endLine == pos.line) = true := by rfl) :
    PE X (.Call (.Attribute o name p2) [] [] pos) (rdE G X.K W (evalE C (.bm eo bm' .nil))) :=
  pe_imp (pe_bm0 pa slot hty hmt ho hbase hline) fun σ H Q ⟨as, m, δ, R, S, q⟩ =>
    ⟨as, m, δ, R, S, (bm_split hk h1 S R q).imp fun d as1 m1 H1 R1 g1 q1 v r1 => ⟨(q1 v r1).1, by
      have q2 := (q1 v r1).2.2.2
      simp only [evalEs, Res.bind] at q2
      split at q2
      · rename_i hb
        exact hr _ as1 m1 H1 d [] v [] Q R1 hb r1 reps_nil q2
      · exact q2.elim⟩⟩
theorem mo_append : BmOk G K .append .l rAppend := by
  intro Ex as m H d ds v vs Q R hk r rs q
  unfold bm at q
  split at q <;> first
    | exact q.elim
    | skip
  all_goals rename_i hb; try (cases hb; done)
  obtain ⟨p, rfl, hp⟩ := rep_ref r
  obtain ⟨u, rfl, ru⟩ := reps1 rs
  split at q
  · obtain ⟨xs, h0, rx⟩ := R.lst hp (by assumption)
    split at q
    · rename_i hl
      refine ⟨p, xs, u, rfl, rfl, h0, by rw [rx.len, line_eq]; exact hl, ?_⟩
      obtain ⟨g, R'⟩ := R.put hp h0 nf_lst (o := .lst (xs ++ [u])) (mo := .lst (_ ++ [_])) fun g => ⟨_, upd_same, reps_app (rx.grow g) (reps_one (ru.grow g))⟩
      exact q _ _ R' g _ (by simp only [Rep])
    · exact q.elim
  · exact q.elim
theorem mo_clear : BmOk G K .clear .l rClear := by
  intro Ex as m H d ds v vs Q R hk r rs q
  unfold bm at q
  split at q <;> first
    | exact q.elim
    | skip
  all_goals rename_i hb; try (cases hb; done)
  obtain ⟨p, rfl, hp⟩ := rep_ref r
  have e0 : vs = [] := by simpa only [Reps] using rs
  subst e0
  split at q
  · obtain ⟨xs, h0, rx⟩ := R.lst hp (by assumption)
    refine ⟨p, xs, rfl, rfl, h0, ?_⟩
    obtain ⟨g, R'⟩ := R.put hp h0 nf_lst (o := .lst []) (mo := .lst []) fun g => ⟨_, upd_same, reps_nil⟩
    exact q _ _ R' g _ (by simp only [Rep])
  · exact q.elim
theorem mo_find : BmOk G K .find .s (fun x xs H Q => ∃ a b, x = .str a ∧ xs = [.str b] ∧ Q (.int (Txt.find a b)) H) := by
  intro Ex as m H d ds v vs Q R hk r rs q
  unfold bm at q
  split at q <;> first
    | exact q.elim
    | skip
  all_goals rename_i hb; try (cases hb; done)
  obtain ⟨u, rfl, ru⟩ := reps1 rs
  cases rep_str r
  cases rep_str ru
  exact ⟨_, _, rfl, rfl, by rw [find_findS]; exact fin_d R q (by simp only [Rep])⟩
theorem es_dct0K : PE X (.Dict [] [] pos) (rdE G X.K W (evalE C (.dct0 false))) := pe_imp pe_dnewK fun σ H Q ⟨as, m, δ, R, S, q⟩ p hp => by
  obtain ⟨g, R', hi⟩ := R.newM (mo := .dct false false []) (o := .dK []) hp fun g => ⟨[], upd_same, rfl⟩
  exact q _ _ R' g _ (by simp only [Rep]; exact ⟨p, rfl, hi⟩)
end
end FS
namespace FS
open PySem L2
def OutS (G : Gam) (K : PySem.W.Frag) (W : WX) (Z : Ends) (as : List Addr) (H : Hp) (r : SR) : Prop := match r with
  | .nx δ m => ∀ as' H' σ', Rel G K as' m H' → Grow as H as' H' → St2 G K as' H' δ σ' → Z.nx σ' H'
  | .rt d m => ∀ as' H' v, Rel G K as' m H' → Grow as H as' H' → Rep G K as' H' d v → Z.rt v H'
  | .bk δ m => ∀ as' H' σ', Rel G K as' m H' → Grow as H as' H' → St2 G K as' H' δ σ' → Z.bk σ' H'
  | .ct δ m => ∀ as' H' σ', Rel G K as' m H' → Grow as H as' H' → St2 G K as' H' δ σ' → Z.ct σ' H'
  | .ex c δ m => ∀ as' H' σ', Rel G K as' m H' → Grow as H as' H' → St2 G K as' H' δ σ' → W (.ref (G.cls c)) none σ' H'
  | .no => False
def rdS (G : Gam) (K : PySem.W.Frag) (W : WX) (f : Sto → Mem → SR) : TS := fun Z σ H => ∃ as m δ, Rel G K as m H ∧ St2 G K as H δ σ ∧ OutS G K W Z as H (f δ m)
section
variable {G : Gam} {X : Cx} {W : WX} {e a b c : Expr} {pos p2 p3 : Pos} {f g h : Sto → Mem → Res D} {fs : Sto → Mem → Res (List D)} {m : Mem} {as as' : List Addr} {H H' : Hp} {σ : L2.St} {δ : Sto} {K : PySem.W.Frag} {C : Ctx} {rest : List Expr} {Z Z' : Ends}
variable {ea eb ec : E} {r : SR}
theorem OutS.later (h : OutS G K W Z as H r) (g : Grow as H as' H') : OutS G K W Z as' H' r := by
  cases r with
  | no => exact h
  | rt d m => exact fun as1 H1 v R1 g1 r1 => h as1 H1 v R1 (g.trans g1) r1
  | _ => exact fun as1 H1 σ1 R1 g1 S1 => h as1 H1 σ1 R1 (g.trans g1) S1
theorem OutS.seq {k : Sto → Mem → SR} (h : OutS G K W Z as H (r.seq k)) : OutS G K W { Z with nx := fun σ' H' => ∃ as' m' δ', Rel G K as' m' H' ∧ St2 G K as' H' δ' σ' ∧ Grow as H as' H' ∧ OutS G K W Z as' H' (k δ' m') } as H r := by
  cases r with
  | nx δ m => exact fun as1 H1 σ1 R1 g1 S1 => ⟨as1, m, δ, R1, S1, g1, OutS.later (show OutS G K W Z as H (k δ m) from h) g1⟩
  | _ => exact h
theorem OutS.toS {α : Type} {x : Res α} {k : α → Mem → SR} (S : St2 G K as H δ σ) (h : OutS G K W Z as H (x.toS δ k)) :
    Out G K (fun c H' => W (.ref (G.cls c)) none σ H') as H x fun d as' m' H' => OutS G K W Z as' H' (k d m') := by
  cases x with
  | ok d m => exact fun as1 H1 R1 g1 => OutS.later (show OutS G K W Z as H (k d m) from h) g1
  | ex c m => exact fun as1 H1 R1 g1 => h as1 H1 σ R1 g1 (S.grow g1)
  | no => exact h
theorem rdS.to {k : Sto → D → Mem → SR} (q : rdS G K W (fun δ m => (f δ m).toS δ (k δ)) Z σ H) :
    rdE G K W f σ H fun v H1 => ∃ as m δ d, Rel G K as m H1 ∧ St2 G K as H1 δ σ ∧ Rep G K as H1 d v ∧ OutS G K W Z as H1 (k δ d m) := by
  obtain ⟨as, m, δ, R, S, o⟩ := q
  exact ⟨as, m, δ, R, S, (OutS.toS S o).imp fun d as' m' H' R' g' o' v r => ⟨as', m', δ, d, R', S.grow g', r, o'⟩⟩
variable {st : Stmt} {sts : List Stmt} {s1 : S} {s2 : Ss}
theorem ss_nil : PSs X [] (rdS G X.K W (execSs C .nil)) := pss_imp pss_nil fun Z σ H ⟨as, m, δ, R, S, o⟩ => o as H σ R Grow.refl S
theorem ss_cons (h1 : PS X st (rdS G X.K W (execS C s1))) (h2 : PSs X sts (rdS G X.K W (execSs C s2))) : PSs X (st :: sts) (rdS G X.K W (execSs C (.cons s1 s2))) :=
  pss_imp (pss_cons h1 h2) fun Z σ H ⟨as, m, δ, R, S, o⟩ => ⟨as, m, δ, R, S, by
    have o2 := OutS.seq (show OutS G X.K W Z as H ((execS C s1 δ m).seq fun σ' m' => execSs C s2 σ' m') from o)
    cases hr : execS C s1 δ m with
    | nx δ1 m1 =>
      rw [hr] at o2
      intro as1 H1 σ1 R1 g1 S1
      obtain ⟨as2, m2, δ2, R2, S2, _, q⟩ := o2 as1 H1 σ1 R1 g1 S1
      exact ⟨as2, m2, δ2, R2, S2, q⟩
    | _ => rw [hr] at o2; exact o2⟩
theorem ss_expr (ha : PE X e (rdE G X.K W (evalE C ea))) (hs : swapsWith e none pos.line X.env = pure false := by rfl) : PS X (.Expr e pos) (rdS G X.K W (execS C (.ex ea))) :=
  ps_imp (ps_expr ha hs) fun Z σ H q => (rdS.to (k := fun δ _ m => .nx δ m) q).imp fun v H1 ⟨as, m, δ, d, R, S, r, o⟩ => o as H1 σ R Grow.refl S
theorem ss_ret (ha : PE X e (rdE G X.K W (evalE C ea))) : PS X (.Return (some e) pos) (rdS G X.K W (execS C (.ret ea))) :=
  ps_imp (ps_ret ha) fun Z σ H q => (rdS.to (k := fun _ d m => .rt d m) q).imp fun v H1 ⟨as, m, δ, d, R, S, r, o⟩ => o as H1 v R Grow.refl r
theorem ss_if {p q : List Stmt} {sp sq : Ss} (hc : PT X c (rdT G X.K W (evalE C ec))) (ha : PSs X p (rdS G X.K W (execSs C sp))) (hb : PSs X q (rdS G X.K W (execSs C sq))) : PS X (.If c p q pos) (rdS G X.K W (execS C (.ifs ec sp sq))) :=
  ps_imp (ps_if hc ha hb) fun Z σ H ⟨as, m, δ, R, S, o⟩ => ⟨as, m, δ, R, S, (OutS.toS S (show OutS G X.K W Z as H ((evalE C ec δ m).toS δ fun d m1 => match d with
    | .bl true => execSs C sp δ m1
    | .bl false => execSs C sq δ m1
    | _ => .no) from o)).imp fun d as1 m1 H1 R1 g1 o1 => by
      cases d <;> first
        | exact (show False from o1).elim
        | skip
      rename_i k
      cases k with
      | true => exact ⟨true, rfl, as1, m1, δ, R1, S.grow g1, o1⟩
      | false => exact ⟨false, rfl, as1, m1, δ, R1, S.grow g1, o1⟩⟩
mutual
def tgS : Tg → List Nat
  | .nm i => [i]
  | .tp l => tgsS l
def tgsS : List Tg → List Nat
  | [] => []
  | t :: l => tgS t ++ tgsS l
end
def Fr (σ σ' : L2.St) (vs : List Nat) : Prop := σ'.length = σ.length ∧ ∀ j, j ∉ vs → σ'[j]? = σ[j]?
theorem Fr.trans {σ1 σ2 σ3 : L2.St} {u v : List Nat} (h1 : Fr σ1 σ2 u) (h2 : Fr σ2 σ3 v) : Fr σ1 σ3 (u ++ v) := ⟨h2.1.trans h1.1, fun j hj => by
  rw [List.mem_append, not_or] at hj
  rw [h2.2 j hj.2, h1.2 j hj.1]⟩
def gB (G : Gam) (K : PySem.W.Frag) (t : Tg) : TG := fun v σ H Q => ∃ as m δ d δ', Rel G K as m H ∧ St2 G K as H δ σ ∧ Rep G K as H d v ∧ bindT m t d δ = some δ' ∧ ∀ σ', St2 G K as H δ' σ' → Fr σ σ' (tgS t) → Q σ' H
def gBs (G : Gam) (K : PySem.W.Frag) (l : List Tg) : TGs := fun vs σ H Q => ∃ as m δ ds δ', Rel G K as m H ∧ St2 G K as H δ σ ∧ Reps G K as H ds vs ∧ bindTs m l ds δ = some δ' ∧ ∀ σ', St2 G K as H δ' σ' → Fr σ σ' (tgsS l) → Q σ' H
theorem pg_imp {t t' : TG} {e : Expr} (h : PG X e t) (hi : ∀ v σ H Q, t' v σ H Q → t v σ H Q) : PG X e t' := ⟨fun pins s σ H v u Q I r q => h.run pins s σ H v u Q I r (hi _ _ _ _ q)⟩
theorem pgs_imp {t t' : TGs} {e : List Expr} (h : PGs X e t) (hi : ∀ v σ H Q, t' v σ H Q → t v σ H Q) : PGs X e t' := ⟨fun pins s σ H v u Q I r q => h.run pins s σ H v u Q I r (hi _ _ _ _ q)⟩
theorem gg_name {i : Nat} {x : Str} (hN : X.N.Nodup) (hi : X.N[i]? = some x := by rfl) (hx : Loc X.env.scope x := by first | exact Or.inl rfl | exact Or.inr rfl) (hf : X.fn x = true ∨ X.env.scope.names.lookup x = some .local := by first | exact .inl rfl | exact .inr rfl) (hsl : G.sl i = false := by rfl) : PG X (.Name x pos) (gB G X.K (.nm i)) :=
  pg_imp (pg_name hN hi hx hf) fun v σ H Q ⟨as, m, δ, d, δ', R, S, r, hb, q⟩ => by
    simp only [bindT, Option.some.injEq] at hb
    subst hb
    exact q _ (S.set i r hsl) ⟨by simp, fun j hj => by
      simp only [tgS, List.mem_singleton] at hj
      rw [List.getElem?_set_ne (Ne.symm hj)]⟩
theorem ggs_nil : PGs X [] (gBs G X.K []) := pgs_imp pgs_nil fun v σ H Q ⟨as, m, δ, ds, δ', R, S, r, hb, q⟩ => by
  cases ds with
  | nil =>
    simp only [bindTs, Option.some.injEq] at hb
    subst hb
    exact ⟨by simpa only [Reps] using r, q _ S ⟨rfl, fun _ _ => rfl⟩⟩
  | cons d ds => cases hb
theorem ggs_cons {e : Expr} {es : List Expr} {t : Tg} {l : List Tg} (h1 : PG X e (gB G X.K t)) (h2 : PGs X es (gBs G X.K l)) (hs : (assignEach (e :: es) X.env).map (·.2) = assign e X.env :: (assignEach es X.env).map (·.2) := by rfl) : PGs X (e :: es) (gBs G X.K (t :: l)) :=
  pgs_imp (pgs_cons h1 h2 hs) fun vs σ H Q ⟨as, m, δ, ds, δ', R, S, r, hb, q⟩ => by
    cases ds with
    | nil => cases hb
    | cons d ds =>
      simp only [Reps] at r
      obtain ⟨v, rr, rfl, r1, r2⟩ := r
      obtain ⟨δ1, h1, h2⟩ := Option.bind_eq_some_iff.mp (show (bindT m t d δ).bind (fun σ' => bindTs m l ds σ') = some δ' from hb)
      exact ⟨v, rr, rfl, as, m, δ, d, δ1, R, S, r1, h1, fun σ1 S1 f1 => ⟨as, m, δ1, ds, δ', R, S1, r2, h2, fun σ2 S2 f2 => q σ2 S2 (by simp only [tgsS]; exact f1.trans f2)⟩⟩
theorem pg_orr {t t' : TG} {e : Expr} (h : PG X e t) (h' : PG X e t') : PG X e (fun v σ H Q => t v σ H Q ∨ t' v σ H Q) := ⟨fun pins s σ H v u Q I r q => q.elim (h.run pins s σ H v u Q I r) (h'.run pins s σ H v u Q I r)⟩
theorem bindTs_len {δ' : Sto} : ∀ {l : List Tg} {ds : List D} {δ : Sto}, bindTs m l ds δ = some δ' → ds.length = l.length := by
  intro l
  induction l with
  | nil => intro ds δ h; cases ds with
    | nil => rfl
    | cons _ _ => cases h
  | cons t l ih => intro ds δ h; cases ds with
    | nil => cases h
    | cons d ds =>
      obtain ⟨_, _, h2⟩ := Option.bind_eq_some_iff.mp (show (bindT m t d δ).bind (fun σ' => bindTs m l ds σ') = some δ' from h)
      simp [ih h2]
theorem gg_tup {es : List Expr} {k n : Nat} {l : List Tg} (hc : X.calm = true) (h : PGs X es (gBs G X.K l)) (hl : l.length = n := by rfl) (hn : (assignEach es X.env).length = n := by rfl) (hst : (assignEach es X.env).findIdx? (·.1) = none := by rfl) : PG X (.Tuple es k pos) (gB G X.K (.tp l)) :=
  pg_imp (pg_orr (pg_tup hc h hn hst) (pg_lst hc h hn hst)) fun v σ H Q ⟨as, m, δ, d, δ', R, S, r, hb, q⟩ => by
    cases d <;> first
      | (cases hb; done)
      | skip
    · rename_i ds
      obtain ⟨p, vs, rfl, _, hp, rs⟩ := rep_tup r
      have hb : bindTs m l ds δ = some δ' := hb
      refine .inl ⟨p, vs, rfl, SqT.of hp, ?_, as, m, δ, ds, δ', R, S, rs, hb, fun σ' S' f' => q σ' S' (by simp only [tgS]; exact f')⟩
      rw [rs.len, bindTs_len hb, hl]
    · rename_i k'
      obtain ⟨p, rfl, hp⟩ := rep_ref r
      obtain ⟨ds, h1, hb⟩ := Option.bind_eq_some_iff.mp (show (rdL m k').bind (fun ds => bindTs m l ds δ) = some δ' from hb)
      obtain ⟨vs, h2, rs⟩ := R.lst hp (rdL_some h1)
      refine .inr ⟨p, vs, rfl, SqL.of h2, ?_, as, m, δ, ds, δ', R, S, rs, hb, fun σ' S' f' => q σ' S' (by simp only [tgS]; exact f')⟩
      rw [rs.len, bindTs_len hb, hl]
variable {tg : Expr} {t : Tg}
theorem ss_set {i : Nat} {x : Str} {pos' : Pos} (hN : X.N.Nodup) (ha : PE X e (rdE G X.K W (evalE C ea))) (hi : X.N[i]? = some x := by rfl) (hx : Loc X.env.scope x := by first | exact Or.inl rfl | exact Or.inr rfl) (hs : swapsWith e (some (.Name x pos')) pos.line X.env = pure false := by rfl) (hf : X.fn x = true ∨ X.env.scope.names.lookup x = some .local := by first | exact .inl rfl | exact .inr rfl) (hsl : G.sl i = false := by rfl) :
    PS X (.Assign [.Name x pos'] e pos) (rdS G X.K W (execS C (.set i ea))) :=
  ps_imp (ps_set hN hi hx ha hs hf) fun Z σ H q => (rdS.to (k := fun δ d m => .nx (δ.set i (some d)) m) q).imp fun v H1 ⟨as, m, δ, d, R, S, r, o⟩ => o as H1 _ R Grow.refl (S.set i r hsl)
theorem ss_unp (ha : PE X e (rdE G X.K W (evalE C ea))) (hg : PG X tg (gB G X.K t)) (hs : swapsWithSole [tg] e pos.line X.env = pure false := by rfl) (hw : swappedStores [tg] e X.env = pure none := by rfl)
    (h1 : (assignEach [tg] X.env).map (·.2) = [assign tg X.env] := by rfl) : PS X (.Assign [tg] e pos) (rdS G X.K W (execS C (.unp t ea))) :=
  ps_imp (ps_asg ha hg hs hw h1) fun Z σ H q => (rdS.to (k := fun δ d m => match bindT m t d δ with
    | some σ' => .nx σ' m
    | none => .no) q).imp fun v H1 ⟨as, m, δ, d, R, S, r, o⟩ => by
      cases hb : bindT m t d δ with
      | none => rw [hb] at o; exact o.elim
      | some δ' => rw [hb] at o; exact ⟨as, m, δ, d, δ', R, S, r, hb, fun σ' S' _ => o as H1 σ' R Grow.refl S'⟩
def ItOk (G : Gam) (K : PySem.W.Frag) (as0 : List Addr) (H0 : Hp) (ds : List D) (gd : Guard) (J : L2.It) : Prop :=
  ∀ (i : Nat) (as : List Addr) (m : Mem) (H : Hp), Rel G K as m H → Grow as0 H0 as H → gOk gd m = true →
    (i = ds.length → J.stop i H) ∧ ∀ d, ds[i]? = some d → J.go i H ∧ ∀ x H', J.yld i H x H' → Rel G K as m H' ∧ Grow as H as H' ∧ Rep G K as H' d x
def rdI (G : Gam) (K : PySem.W.Frag) (W : WX) (f : Sto → Mem → Res (List D × Guard)) : TI := fun σ H R => ∃ as m δ, Rel G K as m H ∧ St2 G K as H δ σ ∧
  Out G K (fun c H' => W (.ref (G.cls c)) none σ H') as H (f δ m) fun p as' m' H' => ∀ J, ItOk G K as' H' p.1 p.2 J → R J H'
theorem drop_at {α : Type} {l : List α} {i : Nat} (h : i < l.length) : ∃ d, l[i]? = some d ∧ l.drop i = d :: l.drop (i + 1) := ⟨l[i], List.getElem?_eq_getElem h, List.drop_eq_getElem_cons h⟩
theorem ss_for {iter : Expr} {body : List Stmt} {it : It} {sb : Ss} (hp : PassesOwn (model X.prog X.w) X.A X.env X.xe) (hc : X.calm = true) (hi : PI X tg iter (rdI G X.K W (evalI C it))) (hg : PG X tg (gB G X.K t)) (hb : PSs X body (rdS G X.K W (execSs C sb)))
    (hs : ∀ x, foldedSetIterable iter X.env x = pure x := by intro _; rfl) : PS X (.For tg iter body [] pos) (rdS G X.K W (execS C (.frs t it sb))) :=
  ps_imp (ps_for hp hc hi hg hb hs) fun Z σ H ⟨as, m, δ, R, S, o⟩ => ⟨as, m, δ, R, S, (OutS.toS S (show OutS G X.K W Z as H ((evalI C it δ m).toS δ fun p m1 => frLoop p.2 t (execSs C sb) p.1 δ m1) from o)).imp fun p as1 m1 H1 R1 g1 o1 J hJ => by
    obtain ⟨ds, gd⟩ := p
    refine ⟨fun i k σ H => k = ds.length - i ∧ i ≤ ds.length ∧ ∃ as m δ, Rel G X.K as m H ∧ St2 G X.K as H δ σ ∧ Grow as1 H1 as H ∧ OutS G X.K W Z as H (frLoop gd t (execSs C sb) (ds.drop i) δ m), ⟨ds.length, rfl, Nat.zero_le _, as1, m1, δ, R1, S.grow g1, Grow.refl, o1⟩, ?_⟩
    rintro i k σ H ⟨rfl, hle, as, m, δ, R, S, g, o⟩
    by_cases hlt : i < ds.length
    · obtain ⟨d, hd, e⟩ := drop_at hlt
      rw [e] at o
      simp only [frLoop] at o
      split at o
      · rename_i hgd
        obtain ⟨hgo, hy⟩ := (hJ i as m H R g hgd).2 d hd
        refine .inr ⟨hgo, fun σ' H' => ∃ as m δ, Rel G X.K as m H' ∧ St2 G X.K as H' δ σ' ∧ Grow as1 H1 as H' ∧ OutS G X.K W Z as H' (frLoop gd t (execSs C sb) (ds.drop (i + 1)) δ m), fun σ' H' w => ⟨ds.length - (i + 1), by omega, rfl, hlt, w⟩, fun x H' y => ?_⟩
        obtain ⟨R', g', rx⟩ := hy x H' y
        cases hbd : bindT m t d δ with
        | none => rw [hbd] at o; exact o.elim
        | some δ' =>
          rw [hbd] at o
          refine ⟨as, m, δ, d, δ', R', S.grow g', rx, hbd, fun σ' S' _ => ⟨as, m, δ', R', S', ?_⟩⟩
          have o := OutS.later o g'
          simp only at o
          cases hr : execSs C sb δ' m with
          | nx δ2 m2 => rw [hr] at o; exact fun as2 H2 σ2 R2 g2 S2 => ⟨as2, m2, δ2, R2, S2, (g.trans g').trans g2, OutS.later o g2⟩
          | ct δ2 m2 => rw [hr] at o; exact fun as2 H2 σ2 R2 g2 S2 => ⟨as2, m2, δ2, R2, S2, (g.trans g').trans g2, OutS.later o g2⟩
          | bk δ2 m2 => rw [hr] at o; exact o
          | rt d m2 => rw [hr] at o; exact o
          | ex c δ2 m2 => rw [hr] at o; exact o
          | no => rw [hr] at o; exact o
      · exact o.elim
    · have e : i = ds.length := by omega
      subst e
      rw [List.drop_length] at o
      simp only [frLoop] at o
      split at o
      · rename_i hgd
        exact .inl ⟨(hJ _ as m H R g hgd).1 rfl, o as H σ R Grow.refl S⟩
      · exact o.elim⟩
theorem pi_imp {wi wi' : TI} {iter : Expr} (h : PI X tg iter wi) (hi : ∀ σ H R, wi' σ H R → wi σ H R) : PI X tg iter wi' := ⟨fun pins s σ H R I q => h.run pins s σ H R I (hi _ _ _ q)⟩
theorem pi_orr {wi wi' : TI} {iter : Expr} (h : PI X tg iter wi) (h' : PI X tg iter wi') : PI X tg iter (fun σ H R => wi σ H R ∨ wi' σ H R) := ⟨fun pins s σ H R I q => q.elim (h.run pins s σ H R I) (h'.run pins s σ H R I)⟩
theorem gOk_of {n : Nat} {mo : MO} {gd : Guard} (h : gOk gd m = true) (hm : (n, mo) ∈ gd) : m[n]? = some mo := by
  unfold gOk at h
  simpa using List.all_eq_true.mp h _ hm
theorem itok_lst {as0 : List Addr} {H0 : Hp} {n : Nat} {p : Addr} {ds : List FS.D} {gd : Guard} (hp : as0[n]? = some p) (hg : (n, MO.lst ds) ∈ gd) : ItOk G K as0 H0 ds gd (Itl K p) := fun i as m H R g hgd => by
  obtain ⟨vs, h0, rs⟩ := R.lst (g.ix hp) (gOk_of hgd hg)
  refine ⟨fun e => ⟨vs, SqL.of h0, by rw [rs.len, e]; exact Nat.le_refl _⟩, fun d hd => ?_⟩
  obtain ⟨v, h1, h2⟩ := rs.get hd
  refine ⟨⟨vs, v, SqL.of h0, h1⟩, fun x H' ⟨e, hx⟩ => ?_⟩
  subst e
  have := hx vs (SqL.of h0)
  rw [h1] at this
  cases this
  exact ⟨R, Grow.refl, h2⟩
theorem itok_rol {as0 : List Addr} {H0 : Hp} {p : Addr} {ds : List FS.D} {vs : List V} {gd : Guard} (hp : RoL K as0 H0 p vs) (rs : Reps G K as0 H0 ds vs) : ItOk G K as0 H0 ds gd (Itl K p) := fun i as m H R g hgd => by
  have hp := (hp.grow g).seq
  have rs := rs.grow g
  refine ⟨fun e => ⟨vs, hp, by rw [rs.len, e]; exact Nat.le_refl _⟩, fun d hd => ?_⟩
  obtain ⟨v, h1, h2⟩ := rs.get hd
  refine ⟨⟨vs, v, hp, h1⟩, fun x H' ⟨e, hx⟩ => ?_⟩
  subst e
  have := hx vs hp
  rw [h1] at this
  cases this
  exact ⟨R, Grow.refl, h2⟩
theorem itok_tup {as0 : List Addr} {H0 : Hp} {p : Addr} {ds : List FS.D} {vs : List V} {gd : Guard} (hn : p ∉ as0) (hp : H0 p = some (.tup vs)) (rs : Reps G K as0 H0 ds vs) : ItOk G K as0 H0 ds gd (Itt K p) := fun i as m H R g hgd => by
  have hp := SqT.of (K := K) (g.keep _ _ hp hn nofun)
  have rs := rs.grow g
  refine ⟨fun e => ⟨vs, hp, by rw [rs.len, e]; exact Nat.le_refl _⟩, fun d hd => ?_⟩
  obtain ⟨v, h1, h2⟩ := rs.get hd
  refine ⟨⟨vs, v, hp, h1⟩, fun x H' ⟨e, hx⟩ => ?_⟩
  subst e
  have := hx vs hp
  rw [h1] at this
  cases this
  exact ⟨R, Grow.refl, h2⟩
theorem itok_str {as0 : List Addr} {H0 : Hp} {s : List Nat} {gd : Guard} : ItOk G K as0 H0 (s.map fun c => .str [c]) gd (Its ⟨s.toArray⟩) := fun i as m H R g hgd => by
  refine ⟨fun e => by show s.toArray.size ≤ i; rw [e]; simp, fun d hd => ?_⟩
  rw [List.getElem?_map] at hd
  obtain ⟨c, hc, rfl⟩ := Option.map_eq_some_iff.mp hd
  refine ⟨by show i < s.toArray.size; have := (List.getElem?_eq_some_iff.mp hc).1; simpa using this, fun x H' ⟨e, c', h1, h2⟩ => ?_⟩
  subst e
  have h1 : s.toArray[i]? = some c' := h1
  have : s[i]? = some c' := by simpa using h1
  rw [hc] at this
  cases this
  exact ⟨R, Grow.refl, by simp only [Rep]; exact h2⟩
theorem itok_rng {as0 : List Addr} {H0 : Hp} {lo hi : Int} {gd : Guard} : ItOk G K as0 H0 (rngL lo hi) gd (Itr lo (hi - lo).toNat) := fun i as m H R g hgd => by
  refine ⟨fun e => by show (hi - lo).toNat ≤ i; rw [e]; simp [rngL], fun d hd => ?_⟩
  unfold rngL at hd
  rw [List.getElem?_map] at hd
  obtain ⟨c, hc, rfl⟩ := Option.map_eq_some_iff.mp hd
  obtain ⟨hlt, hc⟩ := List.getElem?_eq_some_iff.mp hc
  simp at hlt hc
  subst hc
  exact ⟨by show i < (hi - lo).toNat; omega, fun x H' ⟨e, hx⟩ => by subst e; exact ⟨R, Grow.refl, by simp only [Rep]; exact hx⟩⟩
variable {iter : Expr}
theorem ei_seq (ha : PE X iter (rdE G X.K W (evalE C ea))) : PI X tg iter (rdI G X.K W (evalI C (.seq ea))) :=
  pi_imp (pi_orr (pi_list ha) (pi_orr (pi_tup ha) (pi_str ha))) fun σ H Rr ⟨as, m, δ, R, S, o⟩ => by
    simp only [evalI] at o
    cases hd : evalE C ea δ m with
    | no => rw [hd] at o; exact o.elim
    | ex c m1 =>
      rw [hd] at o
      exact .inl ⟨as, m, δ, R, S, by rw [hd]; exact o⟩
    | ok d0 m0 =>
      have o2 := o.bind
      rw [hd] at o2
      cases hs : seqOf m0 d0 with
      | none =>
        rw [hd] at o
        simp only [Res.bind, hs] at o
        exact o.elim
      | some p =>
        cases d0 with
        | tup ds =>
          refine .inr (.inl ⟨as, m, δ, R, S, ?_⟩)
          rw [hd]
          refine o2.impE fun d as1 m1 H1 e R1 g1 o1 v r => ?_
          cases e
          cases hs
          obtain ⟨q, vs, rfl, hn, hq, rs⟩ := rep_tup r
          exact ⟨q, rfl, ⟨vs, SqT.of hq⟩, Out.here R1 o1 _ (itok_tup hn hq rs)⟩
        | rol ds =>
          refine .inl ⟨as, m, δ, R, S, ?_⟩
          rw [hd]
          refine o2.impE fun d as1 m1 H1 e R1 g1 o1 v r => ?_
          cases e
          cases hs
          obtain ⟨q, vs, rfl, hq, rs⟩ := rep_rol r
          exact ⟨q, rfl, ⟨vs, hq.seq⟩, Out.here R1 o1 _ (itok_rol hq rs)⟩
        | str s =>
          refine .inr (.inr ⟨as, m, δ, R, S, ?_⟩)
          rw [hd]
          refine o2.impE fun d as1 m1 H1 e R1 g1 o1 v r => ?_
          cases e
          cases hs
          cases rep_str r
          exact ⟨_, rfl, Out.here R1 o1 _ itok_str⟩
        | ref n =>
          refine .inl ⟨as, m, δ, R, S, ?_⟩
          rw [hd]
          refine o2.impE fun d as1 m1 H1 e R1 g1 o1 v r => ?_
          cases e
          rw [hs] at o1
          obtain ⟨q, rfl, hq⟩ := rep_ref r
          simp only [seqOf] at hs
          split at hs
          · rename_i ds hm
            cases hs
            obtain ⟨vs, h0, _⟩ := R1.lst hq hm
            exact ⟨q, rfl, ⟨vs, SqL.of h0⟩, Out.here R1 o1 _ (itok_lst hq (List.mem_singleton.mpr rfl))⟩
          · cases hs
        | _ => cases hs
theorem ei_rng1 (hg : Gl X "range") (hm : X.mg "range" = none) (ha : PE X a (rdE G X.K W (evalE C ea))) (hs : starEach [a] X.env = [(false, eval a X.env)] := by rfl) (hs2 : starEach [a] X.env = (false, eval a X.env) :: starEach [] X.env := by rfl) :
    PI X tg (.Call (.Name "range" p2) [a] [] pos) (rdI G X.K W (evalI C (.rng (.cst (.int 0)) ea))) :=
  pi_imp (pi_range1 hg hm (pa_cons ha pa_nil hs2) hs) fun σ H Rr ⟨as, m, δ, R, S, o⟩ => ⟨as, m, δ, R, S, by
    simp only [evalI, evalE, Res.bind] at o
    refine o.bind.imp fun d as1 m1 H1 R1 g1 o1 v r => ?_
    cases d <;> first
      | exact (show False from o1).elim
      | skip
    rename_i j
    simp only at o1
    split at o1
    · rename_i hj
      cases rep_int r
      unfold rngOk at hj
      simp only [Bool.and_eq_true, decide_eq_true_eq] at hj
      refine ⟨j, rfl, by omega, by omega, Out.here R1 o1 _ ?_⟩
      have e : (j - 0).toNat = j.toNat := by omega
      have := itok_rng (G := G) (K := X.K) (as0 := as1) (H0 := H1) (lo := 0) (hi := j) (gd := [])
      rw [e] at this
      exact this
    · exact o1.elim⟩
theorem ei_rng2 (hg : Gl X "range") (hm : X.mg "range" = none) (ha : PE X a (rdE G X.K W (evalE C ea))) (hb : PE X b (rdE G X.K W (evalE C eb))) (hs : starEach [a, b] X.env = [(false, eval a X.env), (false, eval b X.env)] := by rfl) (hs2 : starEach [b] X.env = [(false, eval b X.env)] := by rfl)
    (hs3 : starEach [a, b] X.env = (false, eval a X.env) :: starEach [b] X.env := by rfl) (hs4 : starEach [b] X.env = (false, eval b X.env) :: starEach [] X.env := by rfl) :
    PI X tg (.Call (.Name "range" p2) [a, b] [] pos) (rdI G X.K W (evalI C (.rng ea eb))) :=
  pi_imp (pi_range2 hg hm (pa_cons ha (pa_cons hb pa_nil hs4) hs3) hs hs2) fun σ H Rr ⟨as, m, δ, R, S, o⟩ => ⟨as, m, δ, R, S, by
    simp only [evalI] at o
    refine o.bind.imp fun d as1 m1 H1 R1 g1 o1 v r => ⟨as1, m1, δ, R1, S.grow g1, o1.bind.imp fun d2 as2 m2 H2 R2 g2 o2 v2 r2 => ?_⟩
    cases d <;> first
      | exact (show False from o2).elim
      | skip
    cases d2 <;> first
      | exact (show False from o2).elim
      | skip
    rename_i i j
    simp only at o2
    split at o2
    · rename_i hj
      cases rep_int r
      cases rep_int r2
      unfold rngOk at hj
      simp only [Bool.and_eq_true, decide_eq_true_eq] at hj
      exact ⟨i, j, rfl, ⟨by omega, by omega, by omega, by omega⟩, Out.here R2 o2 _ itok_rng⟩
    · exact o2.elim⟩
end
end FS
namespace FS
open PySem L2
abbrev W0 : WX := fun _ _ _ _ => False
section
variable {G : Gam} {X : Cx} {W : WX} {e a b c : Expr} {pos p2 p3 : Pos} {f g h : Sto → Mem → Res D} {fs : Sto → Mem → Res (List D)} {m : Mem} {as as' : List Addr} {H H' : Hp} {σ : L2.St} {δ : Sto} {K : PySem.W.Frag} {C : Ctx} {rest : List Expr} {Z Z' : Ends}
variable {ea eb ec : E} {tg iter : Expr} {t : Tg}
theorem wipe_in {σ : L2.St} {j : Nat} : ∀ {vs : List Nat}, j ∈ vs → (wipe σ vs)[j]? = if j < σ.length then some none else none
  | [], h => by cases h
  | v :: vs, h => by
    show ((wipe σ vs).set v none)[j]? = _
    by_cases q : v = j
    · subst q
      rw [List.getElem?_set_self']
      have := wipe_length σ vs
      by_cases hl : v < σ.length
      · rw [if_pos hl, List.getElem?_eq_getElem (by omega)]; rfl
      · rw [if_neg hl, List.getElem?_eq_none (by omega)]; rfl
    · rw [List.getElem?_set_ne q]
      rcases List.mem_cons.mp h with e | e
      · exact absurd e.symm q
      · exact wipe_in e
theorem wipe_fr {σ σ2 : L2.St} {vs ts : List Nat} (hsub : ∀ j ∈ ts, j ∈ vs) (fr : Fr (wipe σ vs) σ2 ts) : wipe σ2 vs = wipe σ vs := by
  have hl : σ2.length = σ.length := by rw [fr.1, wipe_length]
  apply List.ext_getElem?
  intro j
  by_cases hj : j ∈ vs
  · rw [wipe_in hj, wipe_in hj, hl]
  · rw [wipe_out hj, fr.2 j fun z => hj (hsub j z)]
theorem St2.wipe (S : St2 G K as H δ σ) : ∀ vs : List Nat, (∀ i ∈ vs, G.sl i = false) → St2 G K as H (wipeD δ vs) (L2.wipe σ vs)
  | [], _ => S
  | v :: vs, h => (St2.wipe S vs fun i hi => h i (List.mem_cons_of_mem _ hi)).unset v none (h v List.mem_cons_self)
theorem Out.calm {Ex : Nat → Hp → Prop} {α β : Type} {x : Res α} {k : α → Mem → Res β} {post : β → List Addr → Mem → Hp → Prop} {Ex' : Nat → Hp → Prop} (h : Out G K Ex as H (x.calm.bind k) post) :
    Out G K Ex' as H x fun a as' m' H' => Out G K Ex as' H' (k a m') post := by
  cases x with
  | ok d m => exact fun as1 H1 R1 g1 => Out.later (show Out G K Ex as H (k d m) post from h) g1
  | ex c m => exact h.elim
  | no => exact h
theorem lc_read {own : List Nat} {it : It} {eo : Oe} {Q : VK} (hsub : ∀ j ∈ tgS t, j ∈ own) (hsl : ∀ i ∈ own, G.sl i = false) : rdE G K W (evalE C (.lc own it t eo ea)) σ H Q → tLc (rdI G K W (evalI C it)) (gB G K t) (rdT G K W0 (evalC C eo)) (rdE G K W0 (evalE C ea)) own σ H Q :=
  fun ⟨as, m, δ, R, S, o⟩ => ⟨as, m, δ, R, S, o.bind.imp fun p as1 m1 H1 R1 g1 o1 J hJ D hD => by
    obtain ⟨ds, gd⟩ := p
    simp only at o1 hJ
    obtain ⟨g2, R2, hi2⟩ := R1.newM (mo := .lst []) (o := .lst []) hD fun g => ⟨[], upd_same, reps_nil⟩
    refine ⟨fun i k H => k = ds.length - i ∧ i ≤ ds.length ∧ ∃ as m, Rel G K as m H ∧ Grow (as1 ++ [D]) (upd H1 D (.lst [])) as H ∧ Out G K (fun c H' => W (.ref (G.cls c)) none σ H') as H (lcLoop gd m1.length t (evalC C eo) (evalE C ea) (wipeD δ own) (ds.drop i) m) fun d as' m' H' => ∀ v, Rep G K as' H' d v → Q v H',
      ⟨ds.length, rfl, Nat.zero_le _, as1 ++ [D], _, R2, Grow.refl, o1.later g2⟩, ?_⟩
    rintro i k H ⟨rfl, hle, as, m, R, g, o⟩
    have gg : Grow as1 H1 as H := g2.trans g
    have S0 := ((S.grow g1).grow gg).wipe own hsl
    by_cases hlt : i < ds.length
    · obtain ⟨d, hd, e⟩ := drop_at hlt
      rw [e] at o
      simp only [lcLoop] at o
      split at o
      · rename_i hgd
        obtain ⟨hgo, hy⟩ := (hJ i as m H R gg hgd).2 d hd
        refine .inr ⟨hgo, fun H' => ∃ as m, Rel G K as m H' ∧ Grow (as1 ++ [D]) (upd H1 D (.lst [])) as H' ∧ Out G K (fun c H' => W (.ref (G.cls c)) none σ H') as H' (lcLoop gd m1.length t (evalC C eo) (evalE C ea) (wipeD δ own) (ds.drop (i + 1)) m) fun d as' m' H' => ∀ v, Rep G K as' H' d v → Q v H',
          fun H' w => ⟨ds.length - (i + 1), by omega, rfl, hlt, w⟩, fun x H' y => ?_⟩
        obtain ⟨R', g', rx⟩ := hy x H' y
        cases hbd : bindT m t d (wipeD δ own) with
        | none => rw [hbd] at o; exact o.elim
        | some δ' =>
          rw [hbd] at o
          refine ⟨as, m, _, d, δ', R', S0.grow g', rx, hbd, fun σ' S' fr => ⟨wipe_fr hsub fr, as, m, δ', R', S', (Out.calm (o.later g')).imp fun b as3 m3 H3 R3 g3 o3 => ?_⟩⟩
          cases b <;> first
            | exact (show False from o3).elim
            | skip
          rename_i kb
          cases kb with
          | false => exact ⟨false, rfl, as3, m3, R3, (g.trans g').trans g3, o3⟩
          | true =>
            refine ⟨true, rfl, as3, m3, δ', R3, S'.grow g3, (Out.calm o3).imp fun z as4 m4 H4 R4 g4 o4 w rw_ => ?_⟩
            split at o4
            · rename_i acc hacc
              split at o4
              · rename_i hal
                have g5 := ((g.trans g').trans g3).trans g4
                have hix := g5.ix hi2
                obtain ⟨vs, h0, rs⟩ := R4.lst hix hacc
                refine ⟨vs, h0, by rw [rs.len, line_eq]; exact hal, ?_⟩
                obtain ⟨g6, R6⟩ := R4.put hix h0 nf_lst (o := .lst (vs ++ [w])) (mo := .lst (acc ++ [z])) fun g => ⟨_, upd_same, reps_app (rs.grow g) (reps_one (rw_.grow g))⟩
                exact ⟨as4, _, R6, g5.trans g6, o4.later g6⟩
              · exact o4.elim
            · exact o4.elim
      · exact o.elim
    · have e : i = ds.length := by omega
      subst e
      rw [List.drop_length] at o
      simp only [lcLoop] at o
      split at o
      · rename_i hgd
        exact .inl ⟨(hJ _ as m H R gg hgd).1 rfl, o as H R Grow.refl _ (by simp only [Rep]; exact ⟨D, rfl, g.ix hi2⟩)⟩
      · exact o.elim⟩
theorem es_lc {elt : Expr} {ifs : List Expr} {scope : Scope} {own : List (Str × Nat)} {it : It} {eo : Oe} (hc : X.calm = true) (hN : X.N.Nodup) (hi : PI X tg iter (rdI G X.K W (evalI C it))) (ok : BlkOk X.N X.env.scope scope own)
    (hg : ∀ (s : Shared) (H : Hp) (Ca : Addr) (cl : List (Str × Addr)) (fp : List Addr), PG (X.blk s H scope (compEnvC scope cl Ca X.env) fp) tg (gB G X.K t))
    (ht : ∀ (s : Shared) (H : Hp) (Ca : Addr) (cl : List (Str × Addr)) (fp : List Addr), PTs (X.blk s H scope (compEnvC scope cl Ca X.env) fp) ifs (rdT G X.K W0 (evalC C eo)))
    (he : ∀ (s : Shared) (H : Hp) (Ca : Addr) (cl : List (Str × Addr)) (fp : List Addr), PE (X.blk s H scope (compEnvC scope cl Ca X.env) fp) elt (rdE G X.K W0 (evalE C ea)))
    (hsub : ∀ j ∈ tgS t, j ∈ own.map (·.2)) (hs : ∀ x, foldedSetIterable iter X.env x = pure x := by intro _; rfl) (hsl : ∀ i ∈ own.map (·.2), G.sl i = false := by intro _ _; rfl) : PE X (.ListComp elt [⟨tg, iter, ifs, 0⟩] scope pos) (rdE G X.K W (evalE C (.lc (own.map (·.2)) it t eo ea))) :=
  pe_imp (pe_lc hc hN hi ok hg ht he hs) fun σ H Q q => lc_read hsub hsl q
theorem tt_none {Y : Cx} : PTs Y [] (rdT G Y.K W0 (evalC C .none)) := ⟨fun pins s σ H Q I ⟨as, m, δ, R, S, o⟩ => by
  obtain ⟨k, e, q⟩ := Out.here R o
  cases e
  exact pts_nil.run pins s σ H Q I q⟩
theorem ss_setLc {i : Nat} {y : Str} {py : Pos} {elt : Expr} {ifs : List Expr} {scope : Scope} {own : List (Str × Nat)} {it : It} {eo : Oe} {spos : Pos} (hc : X.calm = true) (hN : X.N.Nodup) (hy : X.N[i]? = some y) (hyl : X.env.scope.names.lookup y = some .local)
    (hsw : swapsWith (.ListComp elt [⟨tg, iter, ifs, 0⟩] scope pos) (some (.Name y py)) spos.line X.env = pure true) (hi : PI X tg iter (rdI G X.K W (evalI C it))) (ok : BlkOk X.N X.env.scope scope own)
    (hg : ∀ (s : Shared) (H : Hp) (Ca : Addr) (cl : List (Str × Addr)) (fp : List Addr), PG (X.blk s H scope (compEnvC scope cl Ca X.env) fp) tg (gB G X.K t))
    (ht : ∀ (s : Shared) (H : Hp) (Ca : Addr) (cl : List (Str × Addr)) (fp : List Addr), PTs (X.blk s H scope (compEnvC scope cl Ca X.env) fp) ifs (rdT G X.K W0 (evalC C eo)))
    (he : ∀ (s : Shared) (H : Hp) (Ca : Addr) (cl : List (Str × Addr)) (fp : List Addr), PE (X.blk s H scope (compEnvC scope cl Ca X.env) fp) elt (rdE G X.K W0 (evalE C ea)))
    (hsub : ∀ j ∈ tgS t, j ∈ own.map (·.2)) (hs : ∀ x, foldedSetIterable iter X.env x = pure x := by intro _; rfl) (hsl : ∀ i ∈ own.map (·.2), G.sl i = false := by intro _ _; rfl) (hsi : G.sl i = false := by rfl) :
    PS X (.Assign [.Name y py] (.ListComp elt [⟨tg, iter, ifs, 0⟩] scope pos) spos) (rdS G X.K W (execS C (.set i (.lc (own.map (·.2)) it t eo ea)))) :=
  ps_imp (ps_setLc hc hN hy hyl hsw hi ok hg ht he hs) fun Z σ H q => lc_read hsub hsl ((rdS.to (k := fun δ d m => .nx (δ.set i (some d)) m) q).imp fun v H1 ⟨as, m, δ, d, R, S, r, o⟩ => o as H1 _ R Grow.refl (S.set i r hsi))
theorem kvsK_any {y : FS.D} {k : Key} (hk : keyV y = some k) : ∀ {kvs : List (FS.D × FS.D)} {ks : List (Key × V)}, KvsK G K as H kvs ks → (kvs.any fun p => D.beq p.1 y) = (ks.any fun kv => decide (kv.1 = k))
  | [], _, h => by cases (show _ = _ from h); rfl
  | p :: r, _, ⟨k1, v1, t, e, h1, h2, h3⟩ => by
    subst e
    rw [List.any_cons, List.any_cons, kvsK_any hk h3, keyV_inj h1 hk]
theorem kvsK_map {y d : FS.D} {k : Key} {v : V} (hk : keyV y = some k) (r : Rep G K as H d v) : ∀ {kvs : List (FS.D × FS.D)} {ks : List (Key × V)}, KvsK G K as H kvs ks →
    KvsK G K as H (kvs.map fun p => if D.beq p.1 y then (p.1, d) else p) (ks.map fun kv => if kv.1 = k then (kv.1, v) else kv)
  | [], _, h => by cases (show _ = _ from h); rfl
  | p :: rr, _, ⟨k1, v1, t, e, h1, h2, h3⟩ => by
    subst e
    have hb := keyV_inj h1 hk
    rw [List.map_cons, List.map_cons]
    by_cases q : k1 = k
    · rw [decide_eq_true q] at hb
      rw [hb, if_pos rfl, if_pos q]
      exact ⟨k1, v, _, rfl, h1, r, kvsK_map hk r h3⟩
    · rw [decide_eq_false q] at hb
      rw [hb, if_neg (by decide), if_neg q]
      exact ⟨k1, v1, _, rfl, h1, h2, kvsK_map hk r h3⟩
theorem kvsK_app : ∀ {kvs es : List (FS.D × FS.D)} {ks us : List (Key × V)}, KvsK G K as H kvs ks → KvsK G K as H es us → KvsK G K as H (kvs ++ es) (ks ++ us)
  | [], _, _, _, h, h' => by cases (show _ = _ from h); exact h'
  | _ :: _, _, _, _, ⟨k1, v1, t, e, h1, h2, h3⟩, h' => by subst e; exact ⟨k1, v1, _, rfl, h1, h2, kvsK_app h3 h'⟩
theorem kvsK_put {y d : FS.D} {k : Key} {v : V} {kvs : List (FS.D × FS.D)} {ks : List (Key × V)} (hk : keyV y = some k) (r : Rep G K as H d v) (h : KvsK G K as H kvs ks) : KvsK G K as H (dPut kvs y d) (putK ks k v) := by
  unfold dPut putK
  rw [kvsK_any hk h]
  split
  · exact kvsK_map hk r h
  · exact kvsK_app h ⟨k, v, [], rfl, hk, r, rfl⟩
theorem kvsT_any {y : FS.D} {k : List Key} (hk : keyT y = some k) : ∀ {kvs : List (FS.D × FS.D)} {ks : List (List Key × V)}, KvsT G K as H kvs ks → (kvs.any fun p => D.beq p.1 y) = (ks.any fun kv => decide (kv.1 = k))
  | [], _, h => by cases (show _ = _ from h); rfl
  | p :: r, _, ⟨k1, v1, t, e, h1, h2, h3⟩ => by
    subst e
    rw [List.any_cons, List.any_cons, kvsT_any hk h3, keyT_inj h1 hk]
theorem kvsT_map {y d : FS.D} {k : List Key} {v : V} (hk : keyT y = some k) (r : Rep G K as H d v) : ∀ {kvs : List (FS.D × FS.D)} {ks : List (List Key × V)}, KvsT G K as H kvs ks →
    KvsT G K as H (kvs.map fun p => if D.beq p.1 y then (p.1, d) else p) (ks.map fun kv => if kv.1 = k then (kv.1, v) else kv)
  | [], _, h => by cases (show _ = _ from h); rfl
  | p :: rr, _, ⟨k1, v1, t, e, h1, h2, h3⟩ => by
    subst e
    have hb := keyT_inj h1 hk
    rw [List.map_cons, List.map_cons]
    by_cases q : k1 = k
    · rw [decide_eq_true q] at hb
      rw [hb, if_pos rfl, if_pos q]
      exact ⟨k1, v, _, rfl, h1, r, kvsT_map hk r h3⟩
    · rw [decide_eq_false q] at hb
      rw [hb, if_neg (by decide), if_neg q]
      exact ⟨k1, v1, _, rfl, h1, h2, kvsT_map hk r h3⟩
theorem kvsT_app : ∀ {kvs es : List (FS.D × FS.D)} {ks us : List (List Key × V)}, KvsT G K as H kvs ks → KvsT G K as H es us → KvsT G K as H (kvs ++ es) (ks ++ us)
  | [], _, _, _, h, h' => by cases (show _ = _ from h); exact h'
  | _ :: _, _, _, _, ⟨k1, v1, t, e, h1, h2, h3⟩, h' => by subst e; exact ⟨k1, v1, _, rfl, h1, h2, kvsT_app h3 h'⟩
theorem kvsT_put {y d : FS.D} {k : List Key} {v : V} {kvs : List (FS.D × FS.D)} {ks : List (List Key × V)} (hk : keyT y = some k) (r : Rep G K as H d v) (h : KvsT G K as H kvs ks) : KvsT G K as H (dPut kvs y d) (putK ks k v) := by
  unfold dPut putK
  rw [kvsT_any hk h]
  split
  · exact kvsT_map hk r h
  · exact kvsT_app h ⟨k, v, [], rfl, hk, r, rfl⟩
theorem set_dct (hu : X.A.units + 1 < cLine) : PSet X (fun o i v H Q => ∃ p H', o = .ref p ∧ DPut H p i v H' ∧ Q H') := by
  intro pins s σ H o i v ov iv u Q I ro ri rv h
  obtain ⟨p, H', rfl, g, q⟩ := h
  cases ro
  exact d_setItem hu I g ri rv fun s' I' => ⟨H', I', q⟩
theorem PSet.or {t t' : TSet} (h : PSet X t) (h' : PSet X t') : PSet X (fun o i v H Q => t o i v H Q ∨ t' o i v H Q) := fun pins s σ H o i v ov iv u Q I ro ri rv q =>
  q.elim (h pins s σ H o i v ov iv u Q I ro ri rv) (h' pins s σ H o i v ov iv u Q I ro ri rv)
theorem ss_setI {value : Expr} {pos' : Pos} (hu : X.A.units + 1 < cLine) (hv : PE X value (rdE G X.K W (evalE C ec))) (ha : PE X a (rdE G X.K W (evalE C ea))) (hb : PE X b (rdE G X.K W (evalE C eb)))
    (hs : swapsWithSole [.Subscript a b pos'] value pos.line X.env = pure false := by rfl) (hw : swappedStores [.Subscript a b pos'] value X.env = pure none := by rfl)
    (h1 : (assignEach [.Subscript a b pos'] X.env).map (·.2) = [assign (.Subscript a b pos') X.env] := by rfl)
    (hA : ∀ v, assign (.Subscript a b pos') X.env v = (do
      let ov ← holding [v] (eval a X.env)
      let iv ← holding [v, ov] (eval b X.env)
      standAt pos'
      holding [v, ov, iv] (setItem ov iv v)
      release [v, ov, iv] []) := by intro _; rfl) : PS X (.Assign [.Subscript a b pos'] value pos) (rdS G X.K W (execS C (.setI ea eb ec))) :=
  ps_imp (ps_asg hv (pg_sub ha hb (FS.PSet.or set_list (set_dct hu)) hA) hs hw h1) fun Z σ H q => (rdS.to (k := fun δ v m1 => (evalE C ea δ m1).toS δ fun x m2 => (evalE C eb δ m2).toS δ fun k m3 => match storeI x k v m3 with
      | some m4 => .nx δ m4
      | none => .no) q).imp fun v H1 ⟨as1, m1, δ1, d1, R1, S1, r1, o1⟩ => ⟨as1, m1, δ1, R1, S1, (OutS.toS S1 o1).imp fun d2 as2 m2 H2 R2 g2 o2 x r2 => ⟨as2, m2, δ1, R2, S1.grow g2, (OutS.toS (S1.grow g2) o2).imp fun d3 as3 m3 H3 R3 g3 o3 y r3 => by
        have r1 := (r1.grow g2).grow g3
        have r2 := r2.grow g3
        cases hst : storeI d2 d3 d1 m3 with
        | none => rw [hst] at o3; exact o3.elim
        | some m4 =>
          rw [hst] at o3
          unfold storeI at hst
          split at hst
          · rename_i n
            obtain ⟨p, rfl, hp⟩ := rep_ref r2
            split at hst
            · rename_i ds hm
              split at hst
              · rename_i k
                obtain ⟨j, hj, rfl⟩ := Option.map_eq_some_iff.mp hst
                cases rep_int r3
                obtain ⟨vs, h0, rs⟩ := R3.lst hp hm
                obtain ⟨g4, R4⟩ := R3.put hp h0 nf_lst (o := .lst (vs.set j v)) (mo := .lst (ds.set j d1)) fun g => ⟨_, upd_same, reps_set (rs.grow g) (r1.grow g)⟩
                exact .inl ⟨p, vs, k, j, rfl, rfl, h0, by rw [rs.len]; exact hj, o3 as3 _ σ R4 g4 (((S1.grow g2).grow g3).grow g4)⟩
              · cases hst
            · rename_i tt kvs hm
              split at hst
              · rename_i hk
                cases hst
                rw [Bool.and_eq_true, decide_eq_true_eq] at hk
                cases tt with
                | false =>
                  obtain ⟨k, hk'⟩ := keyOk_f hk.1
                  obtain ⟨ks, h0, rs⟩ := R3.at_ _ p _ hp hm
                  obtain ⟨g4, R4⟩ := R3.put hp h0 nf_dK (o := .dK (putK ks k v)) (mo := .dct false false (dPut kvs d3 d1)) fun g => ⟨_, upd_same, kvsK_put hk' (r1.grow g) (rs.grow g)⟩
                  refine .inr ⟨p, _, rfl, .inl ⟨ks, k, h0, rep_key r3 hk', by rw [kvsK_len rs, line_eq]; exact hk.2, rfl⟩, o3 as3 _ σ R4 g4 (((S1.grow g2).grow g3).grow g4)⟩
                | true =>
                  obtain ⟨k, hk'⟩ := keyOk_t hk.1
                  obtain ⟨ks, h0, rs⟩ := R3.at_ _ p _ hp hm
                  obtain ⟨bq, rfl, hbn, hb⟩ := rep_keyT r3 hk'
                  obtain ⟨g4, R4⟩ := R3.put hp h0 nf_dT (o := .dT (putK ks k v)) (mo := .dct true false (dPut kvs d3 d1)) fun g => ⟨_, upd_same, kvsT_put hk' (r1.grow g) (rs.grow g)⟩
                  refine .inr ⟨p, _, rfl, .inr ⟨ks, k, bq, h0, rfl, hb, by rw [kvsT_len rs, line_eq]; exact hk.2, rfl⟩, o3 as3 _ σ R4 g4 (((S1.grow g2).grow g3).grow g4)⟩
              · cases hst
            · cases hst
          · cases hst⟩⟩
end
end FS
namespace FS
open PySem L2
def Holds (h : Heap) (c : Addr) (v : V) : Prop := ∃ o u, h.get? c = some o ∧ o.data = .cell (some u) ∧ RelV v u
theorem relV_fun {v v' : V} {u : Value} (h : RelV v u) (h' : RelV v' u) : v = v' := by
  cases v <;> cases v' <;> simp only [RelV] at h h' <;> first
    | (subst h; cases h'; done)
    | (subst h; cases h'; rfl; done)
    | (obtain ⟨t, rfl⟩ := h; cases h'; done)
    | (obtain ⟨t, rfl⟩ := h; obtain ⟨t', e⟩ := h'; cases e; done)
    | (obtain ⟨t, rfl⟩ := h; obtain ⟨t', e⟩ := h'; cases e; rfl; done)
    | (subst h; obtain ⟨t', e⟩ := h'; cases e; done)
theorem Holds.fun {h : Heap} {c : Addr} {v v' : V} (a : Holds h c v) (b : Holds h c v') : v = v' := by
  obtain ⟨o, u, h1, h2, h3⟩ := a
  obtain ⟨o', u', h4, h5, h6⟩ := b
  rw [h1] at h4; cases h4
  rw [h2] at h5; cases h5
  exact relV_fun h3 h6
structure RT (h : Heap) (fr : List Addr) (H H2 : Hp) : Prop where
  at_ : ∀ b, H b = H2 b ∨ (b ∉ fr ∧ ∃ o, h.get? b = some o ∧ ((H b = none ∧ H2 b = some (CelO o)) ∨ (H b = some (CelO o) ∧ H2 b = none)))
def back (H H2 H2' : Hp) : Hp := fun b => match H b, H2 b with
  | none, some _ => none
  | some x, none => some x
  | _, _ => H2' b
structure Fx (H H2 H2' : Hp) : Prop where
  k1 : ∀ b x, H b = none → H2 b = some x → H2' b = some x
  k2 : ∀ b x, H b = some x → H2 b = none → H2' b = none
theorem back_eq {H H2 H2' : Hp} {b : Addr} (e : H b = H2 b) : back H H2 H2' b = H2' b := by
  unfold back
  rw [e]
  cases H2 b <;> rfl
theorem back_n {H H2 H2' : Hp} {b : Addr} {x : HO} (e : H b = none) (e2 : H2 b = some x) : back H H2 H2' b = none := by unfold back; rw [e, e2]
theorem back_s {H H2 H2' : Hp} {b : Addr} {x : HO} (e : H b = some x) (e2 : H2 b = none) : back H H2 H2' b = some x := by unfold back; rw [e, e2]
section
variable {P : Program} {w : World} {h h' : Heap} {fr : List Addr} {H H2 H2' : Hp}
theorem RT.cases (r : RT h fr H H2) (b : Addr) : H b = H2 b ∨ (b ∉ fr ∧ ∃ o, h.get? b = some o ∧ H b = none ∧ H2 b = some (CelO o)) ∨ (b ∉ fr ∧ ∃ o, h.get? b = some o ∧ H b = some (CelO o) ∧ H2 b = none) := by
  rcases r.at_ b with e | ⟨n, o, ho, ⟨e1, e2⟩ | ⟨e1, e2⟩⟩
  · exact .inl e
  · exact .inr (.inl ⟨n, o, ho, e1, e2⟩)
  · exact .inr (.inr ⟨n, o, ho, e1, e2⟩)
theorem RT.sub (r : RT h fr H H2) {b : Addr} {x : HO} (e : H b = some x) (hx : ∀ o, x ≠ CelO o) : H2 b = some x := by
  rcases r.cases b with q | ⟨_, o, _, q, _⟩ | ⟨_, o, _, q, _⟩
  · rw [← q]; exact e
  · rw [e] at q; cases q
  · rw [e] at q; cases q; exact absurd rfl (hx o)
theorem own_cel {y : Addr} : ∀ o, HO.own y ≠ CelO o := fun o z => by unfold CelO at z; cases z
theorem tup_cel {xs : List V} : ∀ o, HO.tup xs ≠ CelO o := fun o z => by unfold CelO at z; cases z
theorem celO_ok {b : Addr} {o : Obj} {H : Hp} (e : h.get? b = some o) : ObjOk P w H h b (CelO o) := ⟨e, trivial, ⟨o, e⟩, fun _ _ _ _ => trivial⟩
theorem RT.hok (r : RT h fr H H2) (x : HOk P w H h) : HOk P w H2 h := fun b o e => by
  rcases r.cases b with q | ⟨_, o', ho, _, q⟩ | ⟨_, o', ho, _, q⟩
  · exact (x b o (q.trans e)).stay (fun _ _ _ z => z) (fun c z => r.sub z own_cel) fun c xs z => r.sub z tup_cel
  · rw [q] at e; cases e; exact celO_ok ho
  · rw [q] at e; cases e
theorem RT.swap (r : RT h fr H H2) : RT h fr H2 H := ⟨fun b => by
  rcases r.at_ b with e | ⟨n, o, ho, e | e⟩
  · exact .inl e.symm
  · exact .inr ⟨n, o, ho, .inr ⟨e.2, e.1⟩⟩
  · exact .inr ⟨n, o, ho, .inl ⟨e.2, e.1⟩⟩⟩
theorem RT.env {K : PySem.W.Frag} {mg : Str → Option Value} {base : Heap} {A : Around} {outer : List Env} {s : Shared} (r : RT s.heap (frs outer) H H2) (nb : ∀ b o, base.get? b = some o → H2 b = none) (e : Env0 P w K mg base A outer s H) : Env0 P w K mg base A outer s H2 :=
  ⟨e.frames, e.mod, fun b o z => ⟨(e.bs b o z).1, nb b o z⟩, e.bsz, e.funs, fun b hb => by
    rcases r.cases b with q | ⟨n, _⟩ | ⟨n, _⟩
    · rw [← q]; exact e.frf b hb
    · exact absurd hb n
    · exact absurd hb n, r.hok e.hok, e.bare⟩
theorem RT.fx (r : RT h fr H H2) (frz : ∀ b o u, H2 b = some (.frz o u) → H2' b = some (.frz o u)) (free : ∀ b o, h.get? b = some o → H2 b = none → H2' b = none) : Fx H H2 H2' := by
  constructor
  · intro b x e e2
    rcases r.cases b with q | ⟨_, o, ho, _, q⟩ | ⟨_, o, ho, q, _⟩
    · rw [q, e2] at e; cases e
    · rw [q] at e2; cases e2; exact frz _ _ _ q
    · rw [e] at q; cases q
  · intro b x e e2
    rcases r.cases b with q | ⟨_, o, ho, q, _⟩ | ⟨_, o, ho, _, q⟩
    · rw [q, e2] at e; cases e
    · rw [e] at q; cases q
    · exact free b o ho e2
theorem RT.back (r : RT h fr H H2) (f : Fx H H2 H2') (b : Addr) : (H b = H2 b ∧ back H H2 H2' b = H2' b) ∨ (∃ o, h.get? b = some o ∧ b ∉ fr ∧ H b = none ∧ H2 b = some (CelO o) ∧ H2' b = some (CelO o) ∧ back H H2 H2' b = none) ∨
    (∃ o, h.get? b = some o ∧ b ∉ fr ∧ H b = some (CelO o) ∧ H2 b = none ∧ H2' b = none ∧ back H H2 H2' b = some (CelO o)) := by
  rcases r.cases b with q | ⟨n, o, ho, q1, q2⟩ | ⟨n, o, ho, q1, q2⟩
  · exact .inl ⟨q, back_eq q⟩
  · exact .inr (.inl ⟨o, ho, n, q1, q2, f.k1 b _ q1 q2, back_n q1 q2⟩)
  · exact .inr (.inr ⟨o, ho, n, q1, q2, f.k2 b _ q1 q2, back_s q1 q2⟩)
theorem RT.bsub (r : RT h fr H H2) (f : Fx H H2 H2') {b : Addr} {x : HO} (e : H2' b = some x) (hx : ∀ o, x ≠ CelO o) : FS.back H H2 H2' b = some x := by
  rcases r.back f b with ⟨_, q⟩ | ⟨o, _, _, _, _, q, _⟩ | ⟨o, _, _, _, _, q, _⟩
  · rw [q]; exact e
  · rw [e] at q; cases q; exact absurd rfl (hx o)
  · rw [e] at q; cases q
theorem RT.tbl (r : RT h fr H H2) {b : Addr} {ps : Array Value} (e : H b = some (.tbl ps)) : H2 b = some (.tbl ps) := r.sub e fun o z => by unfold CelO at z; cases z
theorem RT.hokb (r : RT h fr H H2) (f : Fx H H2 H2') (x : HOk P w H2' h') (keep : ∀ b o, h.get? b = some o → H2 b = none → b ∉ fr → h'.get? b = some o) : HOk P w (FS.back H H2 H2') h' := fun b o e => by
  rcases r.back f b with ⟨_, q⟩ | ⟨o', _, _, _, _, _, q⟩ | ⟨o', ho, n, _, q2, _, q⟩
  · rw [q] at e
    exact (x b o e).stay (fun _ _ _ z => z) (fun c z => r.bsub f z own_cel) fun c xs z => r.bsub f z tup_cel
  · rw [q] at e; cases e
  · rw [q] at e; cases e
    exact celO_ok (keep b o' ho q2 n)
theorem RT.un (r : RT h fr H H2) (u : Un fr [] H2 H2' h h') (x : HOk P w H2' h') : Fx H H2 H2' ∧ Un fr [] H (FS.back H H2 H2') h h' ∧ HOk P w (FS.back H H2 H2') h' := by
  have f : Fx H H2 H2' := r.fx u.frzs fun b o e n => u.free b o e n (by simp)
  refine ⟨f, ⟨fun b o e n hb hx => ?_, fun b o e n hb hx => ?_, fun b o e n hx => ?_, u.there, fun b xs e => ?_, fun b o v e => ?_, fun b ps e => ?_⟩, r.hokb f x fun b o e n hb => u.keep b o e n hb (by simp)⟩
  · rcases r.back f b with ⟨q, _⟩ | ⟨o', ho, _, _, _, q, _⟩ | ⟨o', _, _, q, _⟩
    · exact u.keep b o e (q ▸ n) hb hx
    · rw [e] at ho; cases ho
      exact (x b _ q).1
    · rw [n] at q; cases q
  · rcases r.back f b with ⟨q, _⟩ | ⟨o', ho, nb, _⟩ | ⟨o', ho, nb, _⟩
    · exact u.slot b o e (q ▸ n) hb hx
    · exact absurd hb nb
    · exact absurd hb nb
  · rcases r.back f b with ⟨q, q2⟩ | ⟨o', ho, _, _, _, _, q⟩ | ⟨o', _, _, q, _⟩
    · rw [q2]; exact u.free b o e (q ▸ n) hx
    · exact q
    · rw [n] at q; cases q
  · exact r.bsub f (u.tups b xs (r.sub e tup_cel)) tup_cel
  · rcases r.back f b with ⟨q, q2⟩ | ⟨o', ho, _, q, _⟩ | ⟨o', _, _, q, _, _, q2⟩
    · rw [q2]; exact u.frzs b o v (q ▸ e)
    · rw [e] at q; cases q
    · rw [q2, ← q]; exact e
  · obtain ⟨more, z⟩ := u.tbls b ps (r.tbl e)
    exact ⟨more, r.bsub f z fun o z => by unfold CelO at z; cases z⟩
theorem RT.ce {outer : List Env} {s s' : Shared} {Q Q2 : VK} {u : Value} (r : RT s.heap (frs outer) H H2) (hq : ∀ v H2', Fx H H2 H2' → Q2 v H2' → Q v (FS.back H H2 H2')) (c : CE outer P w H2 s Q2 u s') : CE outer P w H s Q u s' := by
  obtain ⟨v, H2', os, bare, un, hok, rv, q⟩ := c
  obtain ⟨f, un', hok'⟩ := r.un un hok
  exact ⟨v, _, os, bare, un', hok', rv, hq v H2' f q⟩
theorem RT.cx {outer : List Env} {s s' : Shared} {E E2 : XK} {u : Value} (r : RT s.heap (frs outer) H H2) (hq : ∀ c d H2', Fx H H2 H2' → E2 c d H2' → E c d (FS.back H H2 H2')) (c : CX P w outer H2 s E2 u s') : CX P w outer H s E u s' := by
  obtain ⟨a, B, H2', cls, d, e, fl, hok, u, na, os, ag, q⟩ := c
  have f : Fx H H2 H2' := r.fx u.frzs fun b o e n => u.free b o e n
  refine ⟨a, B, FS.back H H2 H2', cls, d, e, fl, r.hokb f hok fun b o e n hb => u.keep b o e n hb, ⟨fun b o e n hb => ?_, u.slot, fun b o e n => ?_, u.there, fun b xs e => ?_, fun b o v e => ?_, fun b ps e => ?_⟩, ?_, os, ag, hq _ _ _ f q⟩
  · rcases r.back f b with ⟨q, _⟩ | ⟨o', ho, _, _, _, q, _⟩ | ⟨o', _, _, q, _⟩
    · exact u.keep b o e (q ▸ n) hb
    · rw [e] at ho; cases ho
      exact (hok b _ q).1
    · rw [n] at q; cases q
  · rcases r.back f b with ⟨q, q2⟩ | ⟨o', ho, _, _, _, _, q⟩ | ⟨o', _, _, q, _⟩
    · rw [q2]; exact u.free b o e (q ▸ n)
    · exact q
    · rw [n] at q; cases q
  · exact r.bsub f (u.tups b xs (r.sub e tup_cel)) tup_cel
  · rcases r.back f b with ⟨q, q2⟩ | ⟨o', ho, _, q, _⟩ | ⟨o', _, _, q, _, _, q2⟩
    · rw [q2]; exact u.frzs b o v (q ▸ e)
    · rw [e] at q; cases q
    · rw [q2, ← q]; exact e
  · obtain ⟨more, z⟩ := u.tbls b ps (r.tbl e)
    exact ⟨more, r.bsub f z fun o z => by unfold CelO at z; cases z⟩
  · rcases r.back f a with ⟨_, q⟩ | ⟨o', ho, _, _, _, _, q⟩ | ⟨o', ho, n, _, q2, _, _⟩
    · rw [q]; exact na
    · exact q
    · have z := u.keep a o' ho q2 n
      have z2 : B.get? a = none := fl.2.1
      rw [z2] at z; cases z
end
section
variable {X : Cx} {W : WX} {k : Nat} {f Ca : Addr} {fd : FuncData} {ps : List Str} {sp : Sp} {pins : List (Addr × Obj)} {σ : L2.St} {H H2 : Hp} {s : Shared} {Q : VK} {us : List Value} {vs : List V}
abbrev qB (H H2 : Hp) (Q : VK) : VK := fun v H2' => Fx H H2 H2' → Q v (back H H2 H2')
abbrev eB (W : WX) (σ : L2.St) (H H2 : Hp) : XK := fun c d H2' => Fx H H2 H2' → W c d σ (back H H2 H2')
theorem end_rt (hx : PassesAt (CX X.prog X.w) X σ (WE W σ)) (I : Inv X pins σ H s) (r : RT s.heap (frs X.stack) H H2) {rr : Result} {s' : Shared} (hq : CR (CX X.prog X.w) X.stack X.prog X.w H2 s (qB H H2 Q) (eB W σ H H2) rr s') :
    match rr with
    | .ok (.ret u) => EP X pins σ Q u s'
    | .ok _ => False
    | .error e => X.xe e s' := by
  cases rr with
  | error e => exact hx pins H s e s' I (r.cx (fun c d H2' f q => q f) hq)
  | ok fl =>
    cases fl with
    | ret u => exact I.after (r.ce (fun v H2' f q => q f) hq)
    | next => exact hq
    | brk => exact hq
    | cont => exact hq
theorem run_fnRT (F : FnOk X.prog X.w X.K X.mg X.base (CX X.prog X.w) k f fd ps sp) (hr : Room k X.A) (hb : Binds X.K fd ps []) (hx : PassesAt (CX X.prog X.w) X σ (WE W σ)) (I : Inv X pins σ H s) (r : RT s.heap (frs X.stack) H H2) (nb : ∀ b o, X.base.get? b = some o → H2 b = none)
    (rv : Vals vs us) (h : sp vs H2 (qB H H2 Q) (eB W σ H H2)) : wpAny (model X.prog X.w) X.A (PySem.call (.ref f) us) (EP X pins σ Q) X.xe s := by
  have hl : us.length = ps.length := by rw [← rv.length]; exact F.len _ _ _ _ h
  have b := hb s us I.kIn (by rw [List.append_nil]; exact hl)
  rw [List.append_nil] at b
  refine wpAny_call (codeAny_mono (F.run X.A X.stack s H2 ⟨us, []⟩ us vs _ _ hr (r.env nb I.env0) b rv h) fun rr s' hq => ?_)
  have := end_rt hx I r hq
  cases rr with
  | error e => exact this
  | ok fl => cases fl <;> exact this
end
structure Tr (G : Gam) (o1 o2 : List (Nat × Addr × V)) (s1 s2 : Nat → Bool) (as : List Addr) (H H' : Hp) : Prop where
  keep : ∀ b x, H b = some x → (∀ o, x ≠ CelO o) → H' b = some x
  cel : ∀ c v, CellG (G.ow o1 s1) as H c v → CellG (G.ow o2 s2) as H' c v
section
variable {G : Gam} {K : PySem.W.Frag} {o1 o2 : List (Nat × Addr × V)} {s1 s2 : Nat → Bool} {as as' : List Addr} {H H' H2 H2' : Hp} {m : Mem}
theorem lst_cel {xs : List V} : ∀ o, HO.lst xs ≠ CelO o := fun o z => by unfold CelO at z; cases z
theorem frzl_cel {o : Obj} {xs : List V} : ∀ o', HO.frz o (.lst xs) ≠ CelO o' := fun o z => by unfold CelO at z; injection z with _ z; cases z
theorem ins_cel {C dx : Addr} {fs : List (Str × V)} : ∀ o, HO.ins C dx fs ≠ CelO o := fun o z => by unfold CelO at z; cases z
theorem fnO_cel {lam : Option Expr} {f : Addr} {F : NdefX.NF} : ∀ o, FO lam f F ≠ CelO o := fun o z => by
  cases lam with
  | none => unfold FO CelO NdefX.FnO at z; cases z
  | some e => unfold FO LamO CelO at z; cases z
theorem codeO_cel {c : Addr} {q : Str} : ∀ o, LamX.CodeO c q ≠ CelO o := fun o z => by unfold CelO LamX.CodeO at z; cases z
theorem RoL.tr {p : Addr} {vs : List V} (t : Tr G o1 o2 s1 s2 as H H') (h : RoL K as H p vs) : RoL K as H' p vs := by
  rcases h with ⟨hn, o, h⟩ | ⟨hn, h⟩ | h
  · exact .inl ⟨hn, o, t.keep _ _ h frzl_cel⟩
  · exact .inr (.inl ⟨hn, t.keep _ _ h lst_cel⟩)
  · exact .inr (.inr h)
theorem exc_cel {ob : Obj} : ∀ o, ExcH ob ≠ CelO o := fun o z => by
  unfold ExcH CelO at z
  injection z with z1 z2
  cases z2
mutual
theorem Rep.tr (t : Tr G o1 o2 s1 s2 as H H') : ∀ {d : D} {v : V}, Rep (G.ow o1 s1) K as H d v → Rep (G.ow o2 s2) K as H' d v
  | .non, _, h => by simp only [Rep] at h ⊢; exact h
  | .bl _, _, h => by simp only [Rep] at h ⊢; exact h
  | .int _, _, h => by simp only [Rep] at h ⊢; exact h
  | .str _, _, h => by simp only [Rep] at h ⊢; exact h
  | .tup ds, _, h => by
    simp only [Rep] at h ⊢
    obtain ⟨p, vs, e, hn, hp, r⟩ := h
    exact ⟨p, vs, e, hn, t.keep _ _ hp tup_cel, Reps.tr t r⟩
  | .rol ds, _, h => by
    simp only [Rep] at h ⊢
    obtain ⟨p, vs, e, hp, r⟩ := h
    exact ⟨p, vs, e, hp.tr t, Reps.tr t r⟩
  | .ins c ds, _, h => by
    simp only [Rep] at h ⊢
    obtain ⟨p, dx, vs, e, hn, hc, hp, hl, r⟩ := h
    exact ⟨p, dx, vs, e, hn, hc, t.keep _ _ hp ins_cel, hl, Reps.tr t r⟩
  | .ref n, _, h => by simp only [Rep] at h ⊢; exact h
  | .exc c, _, h => by
    simp only [Rep] at h ⊢
    obtain ⟨p, o, e, hn, hc, hp, r⟩ := h
    exact ⟨p, o, e, hn, hc, t.keep _ _ hp exc_cel, r⟩
  | .clo f ds, _, h => by
    simp only [Rep] at h ⊢
    obtain ⟨p, I, cl, c, ws, e, hn, hi, hp, hcn, hc, C, r⟩ := h
    exact ⟨p, I, cl, c, ws, e, hn, hi, t.keep _ _ hp fnO_cel, hcn, t.keep _ _ hc codeO_cel, C.imp fun c' v hc' => t.cel c' v hc', Reps.tr t r⟩
theorem Reps.tr (t : Tr G o1 o2 s1 s2 as H H') : ∀ {ds : List D} {vs : List V}, Reps (G.ow o1 s1) K as H ds vs → Reps (G.ow o2 s2) K as H' ds vs
  | [], _, h => by simp only [Reps] at h ⊢; exact h
  | d :: ds, _, h => by
    simp only [Reps] at h ⊢
    obtain ⟨v, r, e, h1, h2⟩ := h
    exact ⟨v, r, e, Rep.tr t h1, Reps.tr t h2⟩
end
theorem KvsK.tr (t : Tr G o1 o2 s1 s2 as H H') : ∀ {l : List (D × D)} {ks : List (Key × V)}, KvsK (G.ow o1 s1) K as H l ks → KvsK (G.ow o2 s2) K as H' l ks
  | [], _, h => h
  | _ :: _, _, ⟨k, v, r, e, h1, h2, h3⟩ => ⟨k, v, r, e, h1, h2.tr t, KvsK.tr t h3⟩
theorem KvsT.tr (t : Tr G o1 o2 s1 s2 as H H') : ∀ {l : List (D × D)} {ks : List (List Key × V)}, KvsT (G.ow o1 s1) K as H l ks → KvsT (G.ow o2 s2) K as H' l ks
  | [], _, h => h
  | _ :: _, _, ⟨k, v, r, e, h1, h2, h3⟩ => ⟨k, v, r, e, h1, h2.tr t, KvsT.tr t h3⟩
theorem Flds.tr (t : Tr G o1 o2 s1 s2 as H H') : ∀ {l : List (Nat × D)} {ks : List (Str × V)}, Flds (G.ow o1 s1) K as H l ks → Flds (G.ow o2 s2) K as H' l ks
  | [], _, h => h
  | _ :: _, _, ⟨v, r, e, hk, h1, h2⟩ => ⟨v, r, e, hk, h1.tr t, Flds.tr t h2⟩
theorem MRep.tr (t : Tr G o1 o2 s1 s2 as H H') {p : Addr} {mo : MO} (h : MRep (G.ow o1 s1) K as H p mo) : MRep (G.ow o2 s2) K as H' p mo := by
  cases mo with
  | lst ds => obtain ⟨vs, e1, r⟩ := h; exact ⟨vs, t.keep _ _ e1 lst_cel, r.tr t⟩
  | obj c fs => obtain ⟨dx, vs, hc, e1, r⟩ := h; exact ⟨dx, vs, hc, t.keep _ _ e1 ins_cel, r.tr t⟩
  | dct tt z kvs =>
    cases tt <;> cases z
    · obtain ⟨ks, e1, r⟩ := h; exact ⟨ks, t.keep _ _ e1 (fun o z => by unfold CelO at z; cases z), r.tr t⟩
    · obtain ⟨ks, o, e1, r⟩ := h; exact ⟨ks, o, t.keep _ _ e1 (fun o z => by unfold CelO at z; injection z with _ z; cases z), r.tr t⟩
    · obtain ⟨ks, e1, r⟩ := h; exact ⟨ks, t.keep _ _ e1 (fun o z => by unfold CelO at z; cases z), r.tr t⟩
    · obtain ⟨ks, o, e1, r⟩ := h; exact ⟨ks, o, t.keep _ _ e1 (fun o z => by unfold CelO at z; injection z with _ z; cases z), r.tr t⟩
theorem tabs_tr {T : List NdefX.NTab} (k : ∀ b x, H b = some x → (∀ o, x ≠ CelO o) → H' b = some x) (h : NdefX.TabsN T H) : NdefX.TabsN T H' := tabs_imp h fun b o e z => k b o e fun o' q => by
  unfold CelO at q
  subst q
  rcases z with ⟨_, z⟩ | ⟨_, z⟩ <;> cases z
theorem Rel.tr (t : Tr G o1 o2 s1 s2 as H H') (R : Rel (G.ow o1 s1) K as m H) : Rel (G.ow o2 s2) K as m H' :=
  ⟨R.len, R.nd, fun i p mo e1 e2 => (R.at_ i p mo e1 e2).tr t, tabs_tr t.keep R.tabs⟩
structure Cv (h : Heap) (fr : List Addr) (o1 o2 : List (Nat × Addr × V)) (H H2 : Hp) : Prop where
  rt : RT h fr H H2
  w1 : ∀ j c v, (j, c, v) ∈ o1 → H c = none ∧ Holds h c v
  w2 : ∀ j c v, (j, c, v) ∈ o2 → H2 c = none ∧ Holds h c v
  t1 : ∀ c, H c = none → H2 c ≠ none → ∃ j v, (j, c, v) ∈ o1
  t2 : ∀ c, H2 c = none → H c ≠ none → ∃ j v, (j, c, v) ∈ o2
  b1 : ∀ j c v, (j, c, v) ∈ o1 → H2 c = none → ∃ j v, (j, c, v) ∈ o2
  b2 : ∀ j c v, (j, c, v) ∈ o2 → H c = none → ∃ j v, (j, c, v) ∈ o1
variable {h : Heap} {fr : List Addr}
theorem Cv.swap (q : Cv h fr o1 o2 H H2) : Cv h fr o2 o1 H2 H := ⟨q.rt.swap, q.w2, q.w1, q.t2, q.t1, q.b2, q.b1⟩
theorem Cv.tr (q : Cv h fr o1 o2 H H2) (hf : ∀ p, H p = none → p ∉ as) : Tr G o1 o2 s1 s2 as H H2 := by
  refine ⟨fun b x e hx => q.rt.sub e hx, fun c v hc => ?_⟩
  rcases hc with ⟨hn, o, u, h1, h2, h3⟩ | ⟨j, hj⟩
  · rcases q.rt.cases c with z | ⟨_, o', ho, z, _⟩ | ⟨_, o', ho, z1, z2⟩
    · exact .inl ⟨hn, o, u, z ▸ h1, h2, h3⟩
    · rw [h1] at z; cases z
    · rw [h1] at z1
      have := celO_inj (Option.some.inj z1)
      subst this
      obtain ⟨j, v', hj⟩ := q.t2 c z2 (by rw [h1]; simp)
      have := (q.w2 j c v' hj).2.fun ⟨_, u, ho, h2, h3⟩
      subst this
      exact .inr ⟨j, hj⟩
  · obtain ⟨e1, hh⟩ := q.w1 j c v hj
    rcases q.rt.cases c with z | ⟨_, o', ho, _, z⟩ | ⟨_, o', ho, z, _⟩
    · obtain ⟨j', v', hj'⟩ := q.b1 j c v hj (z ▸ e1)
      have := (q.w2 j' c v' hj').2.fun hh
      subst this
      exact .inr ⟨j', hj'⟩
    · obtain ⟨o, u, g1, g2, g3⟩ := hh
      rw [ho] at g1; cases g1
      exact .inl ⟨hf c e1, o', u, z, g2, g3⟩
    · rw [e1] at z; cases z
theorem Cv.bk (q : Cv h fr o1 o2 H H2) (f : Fx H H2 H2') (hf : ∀ p, H p = none → p ∉ as) (hf2 : ∀ p, H2' p = none → p ∉ as') (g : Grow as H2 as' H2') : Tr G o2 o1 s2 s1 as' H2' (back H H2 H2') ∧ Grow as H as' (back H H2 H2') := by
  refine ⟨⟨fun b x e hx => q.rt.bsub f e hx, fun c v hc => ?_⟩, g.pre, fun p hp => ?_, fun p o e hn ht => ?_, fun p ps e hn => ?_, fun p o x e => ?_⟩
  · rcases hc with ⟨hn, o, u, h1, h2, h3⟩ | ⟨j, hj⟩
    · rcases q.rt.back f c with ⟨_, z⟩ | ⟨o', ho, _, z1, z2, z3, _⟩ | ⟨o', _, _, _, _, z, _⟩
      · exact .inl ⟨hn, o, u, z.trans h1, h2, h3⟩
      · rw [h1] at z3
        have := celO_inj (Option.some.inj z3)
        subst this
        obtain ⟨j, v', hj⟩ := q.t1 c z1 (by rw [z2]; simp)
        have := (q.w1 j c v' hj).2.fun ⟨_, u, ho, h2, h3⟩
        subst this
        exact .inr ⟨j, hj⟩
      · rw [h1] at z; cases z
    · obtain ⟨e1, hh⟩ := q.w2 j c v hj
      rcases q.rt.back f c with ⟨z, _⟩ | ⟨o', _, _, _, z, _⟩ | ⟨o', ho, _, z1, z2, z3, z4⟩
      · obtain ⟨j', v', hj'⟩ := q.b2 j c v hj (z ▸ e1)
        have := (q.w1 j' c v' hj').2.fun hh
        subst this
        exact .inr ⟨j', hj'⟩
      · rw [e1] at z; cases z
      · obtain ⟨o, u, g1, g2, g3⟩ := hh
        rw [ho] at g1; cases g1
        exact .inl ⟨hf2 c z3, o', u, z4, g2, g3⟩
  · rcases g.new p hp with z | z
    · exact .inl z
    · rcases q.rt.cases p with e | ⟨_, o', _, e, _⟩ | ⟨_, o', ho, e, _⟩
      · exact .inr (e.trans z)
      · exact .inr e
      · exact absurd hp (hf2 p (f.k2 p _ e z))
  · rcases q.rt.back f p with ⟨z, z2⟩ | ⟨o', _, _, z, _⟩ | ⟨o', _, _, z, _, _, z2⟩
    · rw [z2]; exact g.keep p o (z ▸ e) hn ht
    · rw [e] at z; cases z
    · rw [z2, ← z]; exact e
  · rcases q.rt.back f p with ⟨z, z2⟩ | ⟨o', _, _, z, _⟩ | ⟨o', _, _, z, _, _, z2⟩
    · rw [z2]; exact g.kept p ps (z ▸ e) hn
    · rw [e] at z; cases z
    · rw [z2]; simp
  · rcases q.rt.back f p with ⟨z, z2⟩ | ⟨o', _, _, z, _⟩ | ⟨o', _, _, z, _, _, z2⟩
    · rw [z2]; exact g.fz p o x (z ▸ e)
    · rw [e] at z; cases z
    · rw [z2, ← z]; exact e
theorem Cv.out {α : Type} {Ex : Nat → Hp → Prop} {r : Res α} {k : α → List Addr → Mem → Hp → Prop} (q : Cv h fr o1 o2 H H2) (R : Rel (G.ow o1 s1) K as m H) (o : Out (G.ow o1 s1) K Ex as H r k) :
    Out (G.ow o2 s2) K (fun c H2' => Fx H H2 H2' → Ex c (back H H2 H2')) as H2 r fun a as' m' H2' => Fx H H2 H2' → k a as' m' (back H H2 H2') ∧ Tr G o2 o1 s2 s1 as' H2' (back H H2 H2') := by
  have hf : ∀ p, H p = none → p ∉ as := fun p e => R.fresh e
  cases r with
  | no => exact o
  | ok a m1 =>
      intro as' H2' R' g' f
      obtain ⟨t, g⟩ := q.bk (G := G) (s1 := s1) (s2 := s2) f hf (fun p e => R'.fresh e) g'
      exact ⟨o as' _ (R'.tr t) g, t⟩
  | ex c m1 =>
      intro as' H2' R' g' f
      obtain ⟨t, g⟩ := q.bk (G := G) (s1 := s1) (s2 := s2) f hf (fun p e => R'.fresh e) g'
      exact o as' _ (R'.tr t) g
theorem Cv.rel (q : Cv h fr o1 o2 H H2) (R : Rel (G.ow o1 s1) K as m H) : Rel (G.ow o2 s2) K as m H2 := R.tr (q.tr fun p e => R.fresh e)
theorem Cv.reps {ds : List D} {vs : List V} (q : Cv h fr o1 o2 H H2) (R : Rel (G.ow o1 s1) K as m H) (r : Reps (G.ow o1 s1) K as H ds vs) : Reps (G.ow o2 s2) K as H2 ds vs := Reps.tr (q.tr fun p e => R.fresh e) r
theorem Cv.outD {Ex : Nat → Hp → Prop} {r : Res D} {Q : VK} (q : Cv h fr o1 o2 H H2) (R : Rel (G.ow o1 s1) K as m H) (o : Out (G.ow o1 s1) K Ex as H r fun d as' m' H' => ∀ v, Rep (G.ow o1 s1) K as' H' d v → Q v H') :
    Out (G.ow o2 s2) K (fun c H2' => Fx H H2 H2' → Ex c (back H H2 H2')) as H2 r fun d as' m' H2' => ∀ v, Rep (G.ow o2 s2) K as' H2' d v → qB H H2 Q v H2' := by
  have := q.out (s2 := s2) R o
  cases r with
  | no => exact this
  | ok a m1 => exact fun as' H2' R' g' v rv f => (this as' H2' R' g' f).1 v (rv.tr (this as' H2' R' g' f).2)
  | ex c m1 => exact this
end
end FS
namespace FS
open PySem L2
def spF (G : Gam) (K : PySem.W.Frag) (P : Prog) (n f : Nat) : Sp := fun vs H Q E => ∃ as m ds, Rel G K as m H ∧ Reps G K as H ds vs ∧ Out G K (fun c H' => E (.ref (G.cls c)) none H') as H (call P n f ds m) fun d as' m' H' => ∀ v, Rep G K as' H' d v → Q v H'
def spI (G : Gam) (K : PySem.W.Frag) (P : Prog) (n f c : Nat) : Sp := fun vs H Q E => ∃ x dx ws as0 H0 as m ds, vs = .ref x :: ws ∧ H0 x = none ∧ x ∉ as ∧ H x = some (.ins (G.cls c) dx []) ∧ Grow as0 H0 as H ∧ Rel G K as m H ∧ Reps G K as H ds ws ∧
  Out G K (fun c H' => E (.ref (G.cls c)) none H') as0 H0 (call P n f ds m) fun d as' m' H' => Rep G K as' H' d (.ref x) → Q .non H'
def ownOf (n : Nat) (cl : List (Str × Addr)) (fr : List Str) (ws : List V) : List (Nat × Addr × V) := (fr.zip ws).zipIdx.map fun p => (n + p.2, (cl.lookup p.1.1).getD 0, p.1.2)
def slC (n k : Nat) (j : Nat) : Bool := decide (n ≤ j) && decide (j < n + k)
theorem mem_ownOf {n : Nat} {cl : List (Str × Addr)} {fr : List Str} {ws : List V} {j : Nat} {c : Addr} {v : V} : (j, c, v) ∈ ownOf n cl fr ws ↔ ∃ i y, fr[i]? = some y ∧ ws[i]? = some v ∧ j = n + i ∧ c = (cl.lookup y).getD 0 := by
  unfold ownOf
  rw [List.mem_map]
  constructor
  · rintro ⟨⟨⟨y, v'⟩, i⟩, hm, e⟩
    cases e
    have h := List.mk_mem_zipIdx_iff_getElem?.mp hm
    obtain ⟨h1, h2⟩ := List.getElem?_zip_eq_some.mp h
    exact ⟨i, y, h1, h2, rfl, rfl⟩
  · rintro ⟨i, y, h1, h2, rfl, rfl⟩
    exact ⟨((y, v), i), List.mk_mem_zipIdx_iff_getElem?.mpr (List.getElem?_zip_eq_some.mpr ⟨h1, h2⟩), rfl⟩
def spC (G : Gam) (K : PySem.W.Frag) (P : Prog) (n f : Nat) (I : CloI) (cl : List (Str × Addr)) : List (Option V) → Sp := fun ws vs H Q E => ∃ as m ds cs wv, ws = wv.map some ∧ wv.length = I.fr.length ∧
  Rel (G.ow (ownOf I.ps.length cl I.fr wv) (slC I.ps.length I.fr.length)) K as m H ∧ Reps (G.ow (ownOf I.ps.length cl I.fr wv) (slC I.ps.length I.fr.length)) K as H ds vs ∧ Reps (G.ow (ownOf I.ps.length cl I.fr wv) (slC I.ps.length I.fr.length)) K as H cs wv ∧
  Out (G.ow (ownOf I.ps.length cl I.fr wv) (slC I.ps.length I.fr.length)) K (fun c H' => E (.ref (G.cls c)) none H') as H (call P n f (ds ++ cs) m) fun d as' m' H' => ∀ v, Rep (G.ow (ownOf I.ps.length cl I.fr wv) (slC I.ps.length I.fr.length)) K as' H' d v → Q v H'
structure CkOk (prog : Program) (w : World) (K : PySem.W.Frag) (mg : Str → Option Value) (base : Heap) (k : Nat) (lam : Option Expr) (f : Addr) (F : NdefX.NF) (ps fr : List Str) (sp : List (Option V) → Sp) : Prop where
  len : ∀ ws vs H Q E, sp ws vs H Q E → vs.length = ps.length
  run : ∀ (A : Around) (outer : List Env) (s : Shared) (H : Hp) (us : List Value) (vs : List V) (ws : List (Option V)) (Q : VK) (E : XK), Room k A → Env0 prog w K mg base A outer s H → H f = some (FO lam f F) → H F.c = some (LamX.CodeO F.c F.qual) →
    NdefX.CellsAt F.cl fr ws s.heap H → (∀ y c, F.cl.lookup y = some c → c ∉ frs outer ∧ base.get? c = none) → Vals vs us → sp ws vs H Q E → codeAny (model prog w) A (.call (.ref f) ⟨us, []⟩) (CR (CX prog w) outer prog w H s Q E) s
structure Kn (prog : Program) (w : World) (K : PySem.W.Frag) (mg : Str → Option Value) (base : Heap) (G : Gam) (P : Prog) (n : Nat) : Prop where
  fn : ∀ f np nl b, G.kfn f = true → P.fns f = some (.fn np nl b) → ∃ fd, FnOk prog w K mg base (CX prog w) n (G.fa f) fd (G.pn f) (spF G K P n f) ∧ Binds K fd (G.pn f) [] ∧ PySem.W.keepIn K (.ref (G.fa f)) = true ∧ ∃ oc od osl, K.lookup (G.fa f) = some ⟨oc, od, .func fd, osl⟩
  ini : ∀ f c np nl l, G.kfn f = true → P.fns f = some (.ini c np nl l) → ∃ fd ps, FnOk prog w K mg base (CX prog w) n (G.fa f) fd ps (spI G K P n f c) ∧ Binds K fd ps [] ∧ PySem.W.keepIn K (.ref (G.fa f)) = true
  clo : ∀ f I np nl b, G.clo f = some I → P.fns f = some (.fn np nl b) → ∀ p cl c, CkOk prog w K mg base n I.lam p (NdefX.NF.of I.st I.name I.qual cl c) I.ps I.fr (spC G K P n f I cl)
def isFn (P : Prog) (f : Nat) : Prop := ∃ np nl b, P.fns f = some (.fn np nl b)
def isIni (P : Prog) (f c : Nat) : Prop := ∃ np nl l, P.fns f = some (.ini c np nl l)
structure Stc (K : PySem.W.Frag) (G : Gam) (P : Prog) : Prop where
  GO : GOk G K
  IO : IsiOk G K P.sub P.vale
  flds : P.flds = G.flds
  meth : ∀ c i g, P.mt c i = some g → (G.imm c = true ∨ G.mu c = true) → Meth K (G.cls c) (G.mn i) (G.fa g) ∧ G.kfn g = true ∧ isFn P g
  imm : ∀ c f, P.cini c = some (.imm f) → Mk K (G.cls c) (G.fa f) ∧ G.imm c = true ∧ G.kfn f = true ∧ isIni P f c
  chg : ∀ c f, P.cini c = some (.chg f) → Mk K (G.cls c) (G.fa f) ∧ G.mu c = true ∧ G.kfn f = true ∧ isFn P f
  bare : ∀ c, P.cini c = some .bare → PySem.W.makesIn K (G.cls c) = true ∧ PySem.W.findIn K (.ref (G.cls c)) "__init__" = some (some (.builtin "object.__init__")) ∧ PySem.W.keepIn K (.ref (G.cls c)) = true ∧ G.imm c = true ∧ G.flds c = []
structure EnvOk (G : Gam) (P : Prog) (n : Nat) (X : Cx) (W : WX) (C : Ctx) : Prop where
  st : Stc X.K G P
  room : Room n X.A
  calm : X.calm = true
  tk : Takes X W
  hC : C = ctx P (call P n) (call P (n - 1))
  kn : Kn X.prog X.w X.K X.mg X.base G P n
  kn1 : Kn X.prog X.w X.K X.mg X.base G P (n - 1)
  own : PassesOwn (model X.prog X.w) X.A X.env X.xe
theorem EnvOk.blk {G : Gam} {P : Prog} {n : Nat} {X : Cx} {W : WX} {C : Ctx} (E0 : EnvOk G P n X W C) {s : Shared} {H : Hp} {scope : Scope} {env : Env} {fp : List Addr} : EnvOk G P n (X.blk s H scope env fp) W0 C :=
  ⟨E0.st, E0.room, E0.calm, takes0, E0.hC, E0.kn, E0.kn1, PassesOwn.never⟩
theorem EnvOk.hu2 {G : Gam} {P : Prog} {n : Nat} {X : Cx} {W : WX} {C : Ctx} (E0 : EnvOk G P n X W C) : X.A.units + 65 < cLine := by have := E0.room.un; omega
theorem EnvOk.hu {G : Gam} {P : Prog} {n : Nat} {X : Cx} {W : WX} {C : Ctx} (E0 : EnvOk G P n X W C) : X.A.units + 1 < cLine := hu_of E0.room
section
variable {G : Gam} {P : Prog} {n : Nat} {X : Cx} {W : WX} {C : Ctx} {e a b c o : Expr} {pos p2 p3 : Pos} {m : Mem} {as as' : List Addr} {H H' : Hp} {σ : L2.St} {δ : Sto} {K : PySem.W.Frag} {es : List Expr} {el : Es} {ea eb ec eo : E} {x : Str} {fi ci : Nat}
theorem EnvOk.call (E0 : EnvOk G P n X W C) : C.call = FS.call P n := by rw [E0.hC]; rfl
theorem EnvOk.make (E0 : EnvOk G P n X W C) : C.make = FS.mk P (FS.call P (n - 1)) := by rw [E0.hC]; rfl
theorem EnvOk.mt (E0 : EnvOk G P n X W C) : C.mt = P.mt := by rw [E0.hC]; rfl
theorem EnvOk.flds (E0 : EnvOk G P n X W C) : C.flds = G.flds := by rw [E0.hC]; exact E0.st.flds
theorem EnvOk.sub (E0 : EnvOk G P n X W C) : IsiOk G X.K C.sub C.vale := by rw [E0.hC]; exact E0.st.IO
theorem app_nil' {vs : List V} {H : Hp} {Q : VK} {E : XK} {sp : Sp} (h : sp vs H Q E) : sp (vs ++ []) H Q E := by rw [List.append_nil]; exact h
theorem es_call (E0 : EnvOk G P n X W C) (hk : G.kfn fi = true) (hf : isFn P fi) (hg : Gl X x) (hm : X.mg x = some (.ref (G.fa fi))) (ha : PA X (e :: es) (rdA G X.K W (evalEs C el))) (hdb : (x == ("__debug__" : Str)) = false := by decide)
    (he : starEach (e :: es) X.env = (false, eval e X.env) :: starEach es X.env := by rfl) (hpl : (backTo pos (starEach es X.env)).any (·.1) = false := by rfl) : PE X (.Call (.Name x p2) (e :: es) [] pos) (rdE G X.K W (evalE C (.call fi el))) := by
  obtain ⟨np, nl, b, hb⟩ := hf
  obtain ⟨fd, F, B, kp, _⟩ := E0.kn.fn fi np nl b hk hb
  refine pe_imp (pe_callSD F E0.room hg hm kp B .nil (passAt E0.tk) ha hdb he hpl) fun σ H Q q => (rdE.args q).imp fun vs H1 ⟨as, m, ds, R, r, o⟩ => app_nil' ⟨as, m, ds, R, r, ?_⟩
  rw [E0.call] at o
  exact o
theorem meth_core {i : Nat} {Ex : Nat → Hp → Prop} {Q : VK} (E0 : EnvOk G P n X W C) (hmn : ∀ f, G.kf f = true → G.fnm f ≠ G.mn i) (q : Out G X.K Ex as H (evalE C (.meth eo i el) δ m) fun d as' m' H' => ∀ v, Rep G X.K as' H' d v → Q v H') :
    Out G X.K Ex as H (evalE C eo δ m) fun d as1 m1 H1 => ∀ v, Rep G X.K as1 H1 d v → ∃ p c dx fs g, v = .ref p ∧ H1 p = some (.ins (G.cls c) dx fs) ∧ Cls X.K (G.cls c) ∧ Meth X.K (G.cls c) (G.mn i) (G.fa g) ∧ fs.lookup (G.mn i) = none ∧ G.kfn g = true ∧ isFn P g ∧ Rel G X.K as1 m1 H1 ∧ Grow as H as1 H1 ∧ Rep G X.K as1 H1 d v ∧
      Out G X.K Ex as1 H1 ((evalEs C el δ m1).bind fun ds m2 => FS.call P n g (d :: ds) m2) fun d as' m' H' => ∀ v, Rep G X.K as' H' d v → Q v H' := by
  have nolook : ∀ {fs : List (Str × V)}, (∀ p ∈ fs, p.1 ≠ G.mn i) → fs.lookup (G.mn i) = none := by
    intro fs
    induction fs with
    | nil => intro _; rfl
    | cons p r ih =>
      intro h
      rw [List.lookup_cons, show (G.mn i == p.1) = false from beq_eq_false_iff_ne.mpr fun z => h p List.mem_cons_self z.symm]
      exact ih fun p' hp' => h p' (List.mem_cons_of_mem _ hp')
  simp only [evalE] at q
  refine q.bind.imp fun d as1 m1 H1 R1 g1 q1 v r1 => ?_
  rw [E0.mt, E0.call] at q1
  cases d <;> first
    | exact (show False from q1).elim
    | skip
  · rename_i c ds
    obtain ⟨p, dx, vs, rfl, hn, hc, hp, hl, rs⟩ := rep_ins r1
    simp only at q1
    cases hm : P.mt c i with
    | none => rw [hm] at q1; exact q1.elim
    | some g =>
      rw [hm] at q1
      obtain ⟨M, kg, fg⟩ := E0.st.meth c i g hm (.inl hc)
      refine ⟨p, c, dx, _, g, rfl, hp, E0.st.GO.cls c (.inl hc), M, nolook fun z hz => ?_, kg, fg, R1, g1, r1, q1⟩
      have := (List.of_mem_zip hz).1
      obtain ⟨f, hf, e⟩ := List.mem_map.mp this
      rw [← e]
      exact hmn f (E0.st.GO.fkn c f hc hf)
  · rename_i k
    obtain ⟨p, rfl, hp⟩ := rep_ref r1
    simp only at q1
    cases hmo : m1[k]? with
    | none => rw [hmo] at q1; exact q1.elim
    | some mo =>
      rw [hmo] at q1
      cases mo with
      | obj c fs =>
        simp only at q1
        cases hm : P.mt c i with
        | none => rw [hm] at q1; exact q1.elim
        | some g =>
          rw [hm] at q1
          obtain ⟨dx, vs, hc, h0, rs⟩ := R1.at_ k p _ hp hmo
          obtain ⟨M, kg, fg⟩ := E0.st.meth c i g hm (.inr hc)
          refine ⟨p, c, dx, vs, g, rfl, h0, E0.st.GO.cls c (.inr hc), M, nolook ?_, kg, fg, R1, g1, r1, q1⟩
          have key : ∀ {fs : List (Nat × FS.D)} {vs : List (Str × V)}, Flds G X.K as1 H1 fs vs → ∀ z ∈ vs, z.1 ≠ G.mn i := by
            intro fs
            induction fs with
            | nil => intro vs h z hz; cases (show _ = _ from h); cases hz
            | cons p r ih =>
              rintro vs ⟨v, t, e, hk, _, h3⟩ z hz
              subst e
              rcases List.mem_cons.mp hz with rfl | hz
              · exact hmn _ hk
              · exact ih h3 z hz
          exact key rs
      | _ => exact q1.elim
theorem es_meth {i : Nat} {pl : Sem Bool} (E0 : EnvOk G P n X W C) (hx : x = G.mn i) (hmn : ∀ f, G.kf f = true → G.fnm f ≠ G.mn i) (ho : PE X o (rdE G X.K W (evalE C eo))) (ha : PA X (e :: es) (rdA G X.K W (evalEs C el)))
    (hst : starEach (e :: es) X.env = (false, eval e X.env) :: starEach es X.env := by rfl) (hpl : (backTo pos (starEach es X.env)).any (·.1) = false := by rfl)
    (ht : eval (.Call (.Attribute o x p2) (e :: es) [] pos) X.env = (do
      let ov ← eval o X.env
      standAt p2.atName
      let (f, first) ← holding [ov] (getMethod ov x pl)
      callWith pos f first (backTo pos (starEach (e :: es) X.env)) (backToKw pos (keywordEach [] X.env))) := by rfl) : PE X (.Call (.Attribute o x p2) (e :: es) [] pos) (rdE G X.K W (evalE C (.meth eo i el))) := by
  subst hx
  refine ⟨fun pins s σ H Q I ⟨as, m, δ, R, S, q⟩ => ?_⟩
  refine PySem.W.methodCall_KW (pl := pl) (thn (ho.run pins s σ H (fun v H1 => ∃ as1 m1 d p c dx fs g, v = .ref p ∧ H1 p = some (.ins (G.cls c) dx fs) ∧ Cls X.K (G.cls c) ∧ Meth X.K (G.cls c) (G.mn i) (G.fa g) ∧ fs.lookup (G.mn i) = none ∧ G.kfn g = true ∧ isFn P g ∧ Rel G X.K as1 m1 H1 ∧ Grow as H as1 H1 ∧ Rep G X.K as1 H1 d v ∧
      Out G X.K (fun c H' => W (.ref (G.cls c)) none σ H') as1 H1 ((evalEs C el δ m1).bind fun ds m2 => FS.call P n g (d :: ds) m2) fun d as' m' H' => ∀ v, Rep G X.K as' H' d v → Q v H')
      I ⟨as, m, δ, R, S, (meth_core E0 hmn q).imp fun d as1 m1 H1 R1 g1 k v r => by
        obtain ⟨p, c, dx, fs, g, k⟩ := k v r
        exact ⟨as1, m1, d, p, c, dx, fs, g, k⟩⟩) fun u s1 ⟨v, H1, I1, rv, as1, m1, d, p, c, dx, fs, g, ev, hp, hcl, M, hl, kg, fg, R1, g1, r1, q1⟩ => ?_) ht
  subst ev
  obtain rfl : u = Value.ref p := rv
  obtain ⟨np, nl, b, hb⟩ := fg
  obtain ⟨fd, F, B, kp, _⟩ := E0.kn.fn g np nl b kg hb
  refine getmeth_ok I1 hp hcl M hl ?_
  refine PySem.W.callWith_K (first := [.ref p]) (h₀ := X.base) I.ok.mod.kin M.kp (thn (ha.run pos pins s1 σ H1 (fun vs H2 => ∃ as2 m2 ds, Rel G X.K as2 m2 H2 ∧ Reps G X.K as2 H2 (d :: ds) (.ref p :: vs) ∧
      Out G X.K (fun c H' => W (.ref (G.cls c)) none σ H') as2 H2 (FS.call P n g (d :: ds) m2) fun d as' m' H' => ∀ v, Rep G X.K as' H' d v → Q v H') I1
      ⟨as1, m1, δ, R1, S.grow g1, q1.bind.imp fun ds as2 m2 H2 R2 g2 q2 vs r2 => ⟨as2, m2, ds, R2, reps_cons (r1.grow g2) r2, q2⟩⟩) fun us s2 ⟨vs, H2, I2, r, as2, m2, ds, R2, r2, q2⟩ => ⟨I2.kIn, ?_⟩) hst hpl
  exact run_fnSD (E := WE W) (us := .ref p :: us) (vs := .ref p :: vs) F E0.room B .nil (passAt E0.tk σ) I2 (.cons rfl r) (app_nil' ⟨as2, m2, d :: ds, R2, r2, q2⟩)
theorem zero_mk (h0 : n = 0) {c : Nat} {ds : List FS.D} (hne : P.cini c ≠ some .bare) : FS.mk P (FS.call P (n - 1)) c ds m = .no := by
  subst h0
  unfold FS.mk
  cases hci : P.cini c with
  | none => rfl
  | some ci =>
    cases ci with
    | bare => exact absurd hci hne
    | imm f => rfl
    | chg f => rfl
end
end FS
namespace FS
open PySem L2
section
variable {G : Gam} {P : Prog} {n : Nat} {X : Cx} {W : WX} {C : Ctx} {e a b c o : Expr} {pos p2 p3 : Pos} {m : Mem} {as as' : List Addr} {H H' : Hp} {σ : L2.St} {δ : Sto} {K : PySem.W.Frag} {es : List Expr} {el : Es} {ea eb ec eo : E} {x : Str} {fi ci : Nat} {Z : Ends}
def OffX (G : Gam) (H : Hp) (x : Addr) : Prop := ∃ c dx fs, H x = some (.ins (G.cls c) dx fs) ∧ (G.imm c = true) ∧ fs.length < (G.flds c).length
mutual
theorem Rep.off (GO : GOk G K) {x : Addr} (hx : OffX G H x) (o : HO) : ∀ {d : FS.D} {v : V}, Rep G K as H d v → Rep G K as (upd H x o) d v
  | .non, _, h => by simp only [Rep] at h ⊢; exact h
  | .bl _, _, h => by simp only [Rep] at h ⊢; exact h
  | .int _, _, h => by simp only [Rep] at h ⊢; exact h
  | .str _, _, h => by simp only [Rep] at h ⊢; exact h
  | .tup ds, _, h => by
    simp only [Rep] at h ⊢
    obtain ⟨p, vs, e, hn, hp, r⟩ := h
    refine ⟨p, vs, e, hn, ?_, Reps.off GO hx o r⟩
    rw [upd_ne]
    · exact hp
    · rintro rfl
      obtain ⟨c, dx, fs, e1, _⟩ := hx
      rw [hp] at e1; cases e1
  | .rol ds, _, h => by
    simp only [Rep] at h ⊢
    obtain ⟨p, vs, e, hp, r⟩ := h
    refine ⟨p, vs, e, ?_, Reps.off GO hx o r⟩
    rcases hp with ⟨hn, ob, hp⟩ | ⟨hn, hp⟩ | hp
    · refine .inl ⟨hn, ob, ?_⟩
      rw [upd_ne]
      · exact hp
      · rintro rfl
        obtain ⟨c, dx, fs, e1, _⟩ := hx
        rw [hp] at e1; cases e1
    · refine .inr (.inl ⟨hn, ?_⟩)
      rw [upd_ne]
      · exact hp
      · rintro rfl
        obtain ⟨c, dx, fs, e1, _⟩ := hx
        rw [hp] at e1; cases e1
    · exact .inr (.inr hp)
  | .ins c ds, _, h => by
    simp only [Rep] at h ⊢
    obtain ⟨p, dx, vs, e, hn, hc, hp, hl, r⟩ := h
    refine ⟨p, dx, vs, e, hn, hc, ?_, hl, Reps.off GO hx o r⟩
    rw [upd_ne]
    · exact hp
    · rintro rfl
      obtain ⟨c', dx', fs, e1, hc', hlt⟩ := hx
      rw [hp] at e1
      injection e1 with e1
      injection e1 with e2 e3 e4
      have := GO.inj c c' (.inl hc) (.inl hc') e2
      subst this
      subst e4
      unfold fsOf at hlt
      rw [List.length_zip, List.length_map, hl] at hlt
      omega
  | .ref n, _, h => by simp only [Rep] at h ⊢; exact h
  | .exc c, _, h => by
    simp only [Rep] at h ⊢
    obtain ⟨p, ob, e, hn, hc, hp, r⟩ := h
    refine ⟨p, ob, e, hn, hc, ?_, r⟩
    rw [upd_ne]
    · exact hp
    · rintro rfl
      obtain ⟨c', dx', fs, e1, _⟩ := hx
      rw [hp] at e1
      unfold ExcH at e1
      cases e1
  | .clo f ds, _, h => by
    simp only [Rep] at h ⊢
    obtain ⟨p, I, cl, c, ws, e, hn, hi, hp, hcn, hc, C, r⟩ := h
    have off : ∀ b u, H b = some u → (∀ C dx fs, u ≠ .ins C dx fs) → upd H x o b = some u := fun b u e hu => by
      rw [upd_ne]
      · exact e
      · rintro rfl
        obtain ⟨c', dx', fs, e1, _⟩ := hx
        rw [e] at e1; cases e1
        exact hu _ _ _ rfl
    refine ⟨p, I, cl, c, ws, e, hn, hi, off _ _ hp (fun _ _ _ z => by
      cases hl : I.lam with
      | none => rw [hl] at z; unfold FO NdefX.FnO at z; cases z
      | some e => rw [hl] at z; unfold FO LamO at z; cases z), hcn, off _ _ hc (fun _ _ _ z => by unfold LamX.CodeO at z; cases z), C.imp fun c' v hc' => ?_, Reps.off GO hx o r⟩
    rcases hc' with ⟨h0, ob, u, h1, h2⟩ | h
    · exact .inl ⟨h0, ob, u, off _ _ h1 (fun _ _ _ z => by unfold CelO at z; cases z), h2⟩
    · exact .inr h
theorem Reps.off (GO : GOk G K) {x : Addr} (hx : OffX G H x) (o : HO) : ∀ {ds : List FS.D} {vs : List V}, Reps G K as H ds vs → Reps G K as (upd H x o) ds vs
  | [], _, h => by simp only [Reps] at h ⊢; exact h
  | d :: ds, _, h => by
    simp only [Reps] at h ⊢
    obtain ⟨v, r, e, h1, h2⟩ := h
    exact ⟨v, r, e, Rep.off GO hx o h1, Reps.off GO hx o h2⟩
end
theorem KvsK.off (GO : GOk G K) {x : Addr} (hx : OffX G H x) (o : HO) : ∀ {l : List (FS.D × FS.D)} {ks : List (Key × V)}, KvsK G K as H l ks → KvsK G K as (upd H x o) l ks
  | [], _, h => h
  | _ :: _, _, ⟨k, v, t, e, h1, h2, h3⟩ => ⟨k, v, t, e, h1, h2.off GO hx o, KvsK.off GO hx o h3⟩
theorem KvsT.off (GO : GOk G K) {x : Addr} (hx : OffX G H x) (o : HO) : ∀ {l : List (FS.D × FS.D)} {ks : List (List Key × V)}, KvsT G K as H l ks → KvsT G K as (upd H x o) l ks
  | [], _, h => h
  | _ :: _, _, ⟨k, v, t, e, h1, h2, h3⟩ => ⟨k, v, t, e, h1, h2.off GO hx o, KvsT.off GO hx o h3⟩
theorem Flds.off (GO : GOk G K) {x : Addr} (hx : OffX G H x) (o : HO) : ∀ {l : List (Nat × FS.D)} {ks : List (Str × V)}, Flds G K as H l ks → Flds G K as (upd H x o) l ks
  | [], _, h => h
  | _ :: _, _, ⟨v, t, e, hk, h1, h2⟩ => ⟨v, t, e, hk, h1.off GO hx o, Flds.off GO hx o h2⟩
theorem MRep.off (GO : GOk G K) {x : Addr} (hx : OffX G H x) (o : HO) {p : Addr} {mo : MO} (hp : p ≠ x) (h : MRep G K as H p mo) : MRep G K as (upd H x o) p mo := by
  cases mo with
  | lst ds => obtain ⟨vs, e1, r⟩ := h; exact ⟨vs, (upd_ne hp).trans e1, r.off GO hx o⟩
  | obj c fs => obtain ⟨dx, vs, hc, e1, r⟩ := h; exact ⟨dx, vs, hc, (upd_ne hp).trans e1, r.off GO hx o⟩
  | dct t z kvs =>
    cases t <;> cases z
    · obtain ⟨ks, e1, r⟩ := h; exact ⟨ks, (upd_ne hp).trans e1, r.off GO hx o⟩
    · obtain ⟨ks, ob, e1, r⟩ := h; exact ⟨ks, ob, (upd_ne hp).trans e1, r.off GO hx o⟩
    · obtain ⟨ks, e1, r⟩ := h; exact ⟨ks, (upd_ne hp).trans e1, r.off GO hx o⟩
    · obtain ⟨ks, ob, e1, r⟩ := h; exact ⟨ks, ob, (upd_ne hp).trans e1, r.off GO hx o⟩
theorem Rel.off (GO : GOk G K) {x : Addr} (hx : OffX G H x) (o : HO) (hn : x ∉ as) (R : Rel G K as m H) : Rel G K as m (upd H x o) :=
  ⟨R.len, R.nd, fun i p mo e1 e2 => (R.at_ i p mo e1 e2).off GO hx o fun z => hn (z ▸ List.mem_of_getElem? e1), tabs_imp R.tabs fun b u e k => by
    rw [upd_ne]
    · exact e
    · rintro rfl
      obtain ⟨c', dx', fs, e1, _⟩ := hx
      rw [e] at e1; cases e1
      rcases k with ⟨_, z⟩ | ⟨_, z⟩ <;> cases z⟩
theorem Out.bind' {Ex : Nat → Hp → Prop} {α β : Type} {r : Res α} {f : α → Mem → Res β} {k : β → List Addr → Mem → Hp → Prop} (h : Out G K Ex as H (r.bind f) k) : Out G K Ex as H r fun a _ m' _ => Out G K Ex as H (f a m') k := by
  cases r with
  | ok a m1 => exact fun as1 H1 R1 g1 => h
  | ex c m1 => exact h
  | no => exact h
def len : Es → Nat
  | .nil => 0
  | .cons _ l => len l + 1
def nms (G : Gam) (c k : Nat) : List Str := ((G.flds c).take k).map G.fnm
def rdN (G : Gam) (K : PySem.W.Frag) (W : WX) (C : Ctx) (c k : Nat) (l : Es) : TS := fun Z σ H => ∃ as0 H0 as m δ x dx ds vs, σ[0]? = some (some (.ref x)) ∧ H0 x = none ∧ x ∉ as ∧ H x = some (.ins (G.cls c) dx ((nms G c k).zip vs)) ∧ vs.length = k ∧ Grow as0 H0 as H ∧ Rel G K as m H ∧ St2 G K as H δ σ ∧ Reps G K as H ds vs ∧
  Out G K (fun c H' => W (.ref (G.cls c)) none σ H') as0 H0 (evalEs C l δ m) fun es as' m' H' => Rep G K as' H' (.ins c (ds ++ es)) (.ref x) → Z.nx σ H'
theorem sn_nil {c k : Nat} (hc : G.imm c = true) (hk : k = (G.flds c).length) : PSs X [] (rdN G X.K W C c k .nil) := pss_imp pss_nil fun Z σ H ⟨as0, H0, as, m, δ, x, dx, ds, vs, hs, h0, hn, hx, hl, g, R, S, rs, o⟩ => by
  refine o as H R g (by
    rw [List.append_nil]
    simp only [Rep]
    refine ⟨x, dx, vs, rfl, hn, hc, ?_, by omega, rs⟩
    rw [hx]
    unfold nms fsOf
    rw [hk, List.take_length])
theorem putF_new {f : Str} {v : V} : ∀ {fs : List (Str × V)}, (∀ p ∈ fs, p.1 ≠ f) → putF f v fs = fs ++ [(f, v)]
  | [], _ => rfl
  | (g, u) :: r, h => by
    show (if g = f then (g, v) :: r else (g, u) :: putF f v r) = _
    rw [if_neg (h (g, u) List.mem_cons_self), putF_new fun p hp => h p (List.mem_cons_of_mem _ hp)]
    rfl
theorem sn_cons {c k f : Nat} {y : Str} {value : Expr} {sts : List Stmt} {ls : Es} {pself : Pos} {pos' : Pos} {xs : Str} (GO : GOk G X.K) (hc : G.imm c = true) (hf : (G.flds c)[k]? = some f) (hy : y = G.fnm f) (h0 : PE X (.Name xs pself) (tVar 0)) (hv : PE X value (rdE G X.K W (evalE C ea))) (hr : PSs X sts (rdN G X.K W C c (k + 1) ls))
    (hk1 : k < 1000 := by decide) (hsw : swapsWith value (some (.Attribute (.Name xs pself) y pos')) pos.line X.env = pure false := by rfl) : PSs X (.Assign [.Attribute (.Name xs pself) y pos'] value pos :: sts) (rdN G X.K W C c k (.cons ea ls)) :=
  pss_imp (pss_cons (ps_fld h0 hv hsw) hr) fun Z σ H ⟨as0, H0, as, m, δ, x, dx, ds, vs, hs, hx0, hn, hx, hl, g, R, S, rs, o⟩ => by
    subst hy
    have hklt : k < (G.flds c).length := (List.getElem?_eq_some_iff.mp hf).1
    have hfm : f ∈ G.flds c := List.mem_of_getElem? hf
    have o2 := (Out.bind' (show Out G X.K _ as0 H0 ((evalE C ea δ m).bind fun x m1 => (evalEs C ls δ m1).bind fun ds m2 => .ok (x :: ds) m2) _ from o)).later g
    refine ⟨as, m, δ, R, S, o2.imp fun d as1 m1 H1 R1 g1 o3 v r => ?_⟩
    have hx1 : H1 x = some (.ins (G.cls c) dx ((nms G c k).zip vs)) := g1.keep _ _ hx hn nofun
    have hn1 : x ∉ as1 := g1.notin hx hn
    have hnl : (nms G c k).length = k := by unfold nms; rw [List.length_map, List.length_take]; omega
    have hzl : ((nms G c k).zip vs).length = k := by rw [List.length_zip, hnl, hl]; omega
    have hoff : OffX G H1 x := ⟨c, dx, _, hx1, hc, by rw [hzl]; exact hklt⟩
    have hnew : ∀ p ∈ (nms G c k).zip vs, p.1 ≠ G.fnm f := by
      intro p hp z
      have h1 := (List.of_mem_zip hp).1
      unfold nms at h1
      obtain ⟨g', hg', e⟩ := List.mem_map.mp h1
      obtain ⟨j, hj⟩ := List.mem_iff_getElem?.mp hg'
      have hjk : j < k := by
        have := (List.getElem?_eq_some_iff.mp hj).1
        rw [List.length_take] at this
        omega
      rw [List.getElem?_take_of_lt hjk] at hj
      have e2 : g' = f := GO.fin _ _ (GO.fkn c g' hc (List.mem_of_getElem? hj)) (GO.fkn c f hc hfm) (e.trans z)
      subst e2
      have := nd_ix (GO.fnd c hc) hj hf
      omega
    have hzip : putF (G.fnm f) v ((nms G c k).zip vs) = (nms G c (k + 1)).zip (vs ++ [v]) := by
      rw [putF_new hnew]
      have e : nms G c (k + 1) = nms G c k ++ [G.fnm f] := by
        unfold nms
        rw [List.take_add_one, hf, List.map_append]
        rfl
      rw [e, List.zip_append (by rw [hnl, hl])]
      rfl
    refine ⟨.ref x, hs, x, G.cls c, dx, _, rfl, hx1, GO.cls c (.inl hc), GO.noa c f (.inl hc) (GO.fkn c f hc hfm), by rw [hzl]; exact hk1, ?_⟩
    rw [hzip]
    have gg := g.trans g1
    refine ⟨as0, H0, as1, m1, δ, x, dx, ds ++ [d], vs ++ [v], hs, hx0, hn1, upd_same, by rw [List.length_append, hl]; rfl, ⟨gg.pre, gg.new, fun p ob hp hpn ht => ?_, fun p ps hp hpn => ?_, fun p ob u hp => ?_⟩, R1.off GO hoff _ hn1, ?_, reps_app ((rs.grow g1).off GO hoff _) (reps_one (r.off GO hoff _)), ?_⟩
    · rw [upd_ne]
      · exact gg.keep p ob hp hpn ht
      · rintro rfl
        rw [hx0] at hp; cases hp
    · rw [upd_ne]
      · exact gg.kept p ps hp hpn
      · rintro rfl
        rw [hx0] at hp; cases hp
    · rw [upd_ne]
      · exact gg.fz p ob u hp
      · rintro rfl
        rw [hx0] at hp; cases hp
    · have S1 := S.grow g1
      exact ⟨S1.len, fun i dd hi => by
        obtain ⟨u, h1, h2⟩ := S1.at_ i dd hi
        exact ⟨u, h1, h2.off GO hoff _⟩, S1.own⟩
    · refine (Out.bind' o3).imp fun es as2 m2 H2 R2 g2 o4 r2 => ?_
      refine o4 as2 H2 R2 g2 ?_
      rw [List.append_assoc] at r2
      exact r2
end
end FS
namespace FS
open PySem L2
def CelOk (X : Cx) (own : List (Nat × Addr × V)) : Prop := ∀ j c v, (j, c, v) ∈ own → c ∉ X.fs ∧ X.base.get? c = none ∧ ∃ x, X.N[j]? = some x ∧ X.env.cells.lookup x = some c ∧ (X.env.scope.names.lookup x = some .cell ∨ X.env.scope.names.lookup x = some .free)
structure EnvO (G : Gam) (P : Prog) (n : Nat) (X : Cx) (W : WX) (C : Ctx) : Prop where
  st : Stc X.K G P
  room : Room n X.A
  calm : X.calm = true
  tk : Takes X W
  hC : C = ctx P (call P n) (call P (n - 1))
  kn : Kn X.prog X.w X.K X.mg X.base G.z P n
  kn1 : Kn X.prog X.w X.K X.mg X.base G.z P (n - 1)
  own : PassesOwn (model X.prog X.w) X.A X.env X.xe
  cel : CelOk X G.own
theorem EnvOk.o {G : Gam} {P : Prog} {n : Nat} {X : Cx} {W : WX} {C : Ctx} (E0 : EnvOk G P n X W C) (hz : G.z = G) : EnvO G P n X W C :=
  ⟨E0.st, E0.room, E0.calm, E0.tk, E0.hC, by rw [hz]; exact E0.kn, by rw [hz]; exact E0.kn1, E0.own, fun j c v h => by rw [← hz] at h; cases h⟩
theorem EnvO.hu2 {G : Gam} {P : Prog} {n : Nat} {X : Cx} {W : WX} {C : Ctx} (E0 : EnvO G P n X W C) : X.A.units + 65 < cLine := by have := E0.room.un; omega
theorem EnvO.hu {G : Gam} {P : Prog} {n : Nat} {X : Cx} {W : WX} {C : Ctx} (E0 : EnvO G P n X W C) : X.A.units + 1 < cLine := hu_of E0.room
section
variable {X : Cx} {pins : List (Addr × Obj)} {σ : L2.St} {H : Hp} {s : Shared} {own : List (Nat × Addr × V)}
theorem own_at (I : Inv X pins σ H s) (hc : CelOk X own) {j : Nat} {c : Addr} {v : V} (h : (j, c, v) ∈ own) (hs : σ[j]? = some (some v)) : H c = none ∧ Holds s.heap c v ∧ c ∉ frs X.stack := by
  obtain ⟨h1, h2, x, hN, hl, hk⟩ := hc j c v h
  refine ⟨I.freeC x c hl, ?_, fun hm => ?_⟩
  · obtain ⟨m, hn, hloc⟩ := I.loc
    obtain ⟨u, r, l⟩ := hloc j x v hN hs (hk.elim (fun z => .inr (.inl z)) fun z => .inr (.inr z))
    rcases l with ⟨z, _⟩ | ⟨_, c', hc', o, ho, hd⟩
    · have z' : X.env.scope.names.lookup x = some .local := z
      rcases hk with k | k <;> rw [k] at z' <;> cases z'
    · rw [hl] at hc'
      cases hc'
      exact ⟨o, u, ho, hd, r⟩
  · rcases List.mem_cons.mp (I.stkSub c hm) with z | z
    · exact I.cne x c hl z
    · exact h1 z
noncomputable def callH (h : Heap) (o1 o2 : List (Nat × Addr × V)) (H : Hp) : Hp := fun b => open Classical in if (∃ j v, (j, b, v) ∈ o2) then none else if (∃ j v, (j, b, v) ∈ o1) then (h.get? b).map CelO else H b
theorem cv_of {as : List Addr} {G : Gam} {o2 : List (Nat × Addr × V)} (I : Inv X pins σ H s) (hc : CelOk X G.own) (hs : ∀ j c v, (j, c, v) ∈ G.own → σ[j]? = some (some v)) (h2 : ∀ j c v, (j, c, v) ∈ o2 → CellG G as H c v) :
    Cv s.heap (frs X.stack) G.own o2 H (callH s.heap G.own o2 H) ∧ (∀ b o, X.base.get? b = some o → callH s.heap G.own o2 H b = none) ∧ ∀ j c v, (j, c, v) ∈ o2 → c ∉ frs X.stack ∧ X.base.get? c = none := by
  have w1 : ∀ j c v, (j, c, v) ∈ G.own → H c = none ∧ Holds s.heap c v ∧ c ∉ frs X.stack := fun j c v h => own_at I hc h (hs j c v h)
  have w2 : ∀ j c v, (j, c, v) ∈ o2 → ((∃ o, H c = some (CelO o) ∧ s.heap.get? c = some o) ∨ (∃ j, (j, c, v) ∈ G.own)) ∧ Holds s.heap c v ∧ c ∉ frs X.stack ∧ X.base.get? c = none := fun j c v h => by
    rcases h2 j c v h with ⟨_, o, u, e1, e2, e3⟩ | ⟨j', hj⟩
    · have ho := (I.hok c _ e1).1
      refine ⟨.inl ⟨o, e1, ho⟩, ⟨o, u, ho, e2, e3⟩, fun hm => ?_, ?_⟩
      · have := I.stkFree c hm
        rw [e1] at this; cases this
      · cases q : X.base.get? c with
        | none => rfl
        | some o' => have := (I.bs c o' q).2; rw [e1] at this; cases this
    · obtain ⟨_, b, c'⟩ := w1 j' c v hj
      exact ⟨.inr ⟨j', hj⟩, b, c', (hc j' c v hj).2.1⟩
  have k2 : ∀ {b}, (∃ j v, (j, b, v) ∈ o2) → callH s.heap G.own o2 H b = none := fun {b} h => by unfold callH; exact if_pos h
  have k1 : ∀ {b}, ¬ (∃ j v, (j, b, v) ∈ o2) → (∃ j v, (j, b, v) ∈ G.own) → callH s.heap G.own o2 H b = (s.heap.get? b).map CelO := fun {b} h h' => by unfold callH; rw [if_neg h, if_pos h']
  have k0 : ∀ {b}, ¬ (∃ j v, (j, b, v) ∈ o2) → ¬ (∃ j v, (j, b, v) ∈ G.own) → callH s.heap G.own o2 H b = H b := fun {b} h h' => by unfold callH; rw [if_neg h, if_neg h']
  refine ⟨⟨⟨fun b => ?_⟩, fun j c v h => ⟨(w1 j c v h).1, (w1 j c v h).2.1⟩, fun j c v h => ⟨k2 ⟨j, v, h⟩, (w2 j c v h).2.1⟩, fun c e1 e2 => ?_, fun c e1 e2 => ?_, fun j c v h e => ?_, fun j c v h e => ?_⟩, fun b o e => ?_, fun j c v h => (w2 j c v h).2.2⟩
  · by_cases q2 : ∃ j v, (j, b, v) ∈ o2
    · obtain ⟨j, v, hj⟩ := q2
      obtain ⟨q, _, nf, _⟩ := w2 j b v hj
      rcases q with ⟨o, e1, e2⟩ | ⟨j', hj'⟩
      · exact .inr ⟨nf, o, e2, .inr ⟨e1, k2 ⟨j, v, hj⟩⟩⟩
      · exact .inl ((w1 j' b v hj').1.trans (k2 ⟨j, v, hj⟩).symm)
    · by_cases q1 : ∃ j v, (j, b, v) ∈ G.own
      · obtain ⟨j, v, hj⟩ := q1
        obtain ⟨a1, ⟨o, u, ho, _⟩, nf⟩ := w1 j b v hj
        refine .inr ⟨nf, o, ho, .inl ⟨a1, ?_⟩⟩
        rw [k1 q2 ⟨j, v, hj⟩, ho]; rfl
      · exact .inl (k0 q2 q1).symm
  · by_cases q2 : ∃ j v, (j, c, v) ∈ o2
    · exact absurd (k2 q2) e2
    · by_cases q1 : ∃ j v, (j, c, v) ∈ G.own
      · exact q1
      · exact absurd ((k0 q2 q1).trans e1) e2
  · by_cases q2 : ∃ j v, (j, c, v) ∈ o2
    · exact q2
    · by_cases q1 : ∃ j v, (j, c, v) ∈ G.own
      · obtain ⟨j, v, hj⟩ := q1
        exact absurd (w1 j c v hj).1 e2
      · exact absurd ((k0 q2 q1).symm.trans e1) e2
  · by_cases q2 : ∃ j v, (j, c, v) ∈ o2
    · exact q2
    · obtain ⟨_, ⟨o, u, ho, _⟩, _⟩ := w1 j c v h
      rw [k1 q2 ⟨j, v, h⟩, ho] at e
      cases e
  · rcases (w2 j c v h).1 with ⟨o, e1, _⟩ | ⟨j', hj⟩
    · rw [e] at e1; cases e1
    · exact ⟨j', v, hj⟩
  · by_cases q2 : ∃ j v, (j, b, v) ∈ o2
    · exact k2 q2
    · by_cases q1 : ∃ j v, (j, b, v) ∈ G.own
      · obtain ⟨j, v, hj⟩ := q1
        have := (hc j b v hj).2.1
        rw [e] at this; cases this
      · rw [k0 q2 q1]; exact (I.bs b o e).2
end
section
variable {G : Gam} {P : Prog} {n : Nat} {X : Cx} {W : WX} {C : Ctx} {e a b c o : Expr} {pos p2 p3 : Pos} {m : Mem} {as as' : List Addr} {H H' : Hp} {σ : L2.St} {δ : Sto} {K : PySem.W.Frag} {es : List Expr} {el : Es} {ea eb ec eo : E} {x : Str} {fi ci : Nat}
theorem EnvO.call (E0 : EnvO G P n X W C) : C.call = FS.call P n := by rw [E0.hC]; rfl
theorem EnvO.make (E0 : EnvO G P n X W C) : C.make = FS.mk P (FS.call P (n - 1)) := by rw [E0.hC]; rfl
theorem EnvO.mt (E0 : EnvO G P n X W C) : C.mt = P.mt := by rw [E0.hC]; rfl
theorem EnvO.flds (E0 : EnvO G P n X W C) : C.flds = G.flds := by rw [E0.hC]; exact E0.st.flds
theorem EnvO.sub (E0 : EnvO G P n X W C) : IsiOk G X.K C.sub C.vale := by rw [E0.hC]; exact E0.st.IO
def AtC (G : Gam) (K : PySem.W.Frag) (Ex : Nat → Hp → Prop) (σ : L2.St) (f : List FS.D → Mem → Res FS.D) (Q : VK) (vs : List V) (H : Hp) : Prop := ∃ as m ds, Rel G K as m H ∧ Reps G K as H ds vs ∧ (∀ j c v, (j, c, v) ∈ G.own → σ[j]? = some (some v)) ∧ Out G K Ex as H (f ds m) fun d as' m' H' => ∀ v, Rep G K as' H' d v → Q v H'
theorem rd_at {Q : VK} {f : List FS.D → Mem → Res FS.D} (q : rdE G K W (fun δ m => (evalEs C el δ m).bind f) σ H Q) : rdA G K W (evalEs C el) σ H fun vs H1 => AtC G K (fun c H' => W (.ref (G.cls c)) none σ H') σ f Q vs H1 := by
  obtain ⟨as, m, δ, R, S, o⟩ := q
  exact ⟨as, m, δ, R, S, o.bind.imp fun d as' m' H' R' g' o' v r => ⟨as', m', d, R', r, fun j c v h => (S.own j c v h).1, o'⟩⟩
theorem run_at {pins : List (Addr × Obj)} {s : Shared} {Q : VK} {us : List Value} {vs : List V} (E0 : EnvO G P n X W C) (hk : G.kfn fi = true) (hf : isFn P fi) (I : Inv X pins σ H s) (rv : Vals vs us) (h : AtC G X.K (fun c H' => W (.ref (G.cls c)) none σ H') σ (FS.call P n fi) Q vs H) :
    wpAny (model X.prog X.w) X.A (PySem.call (.ref (G.fa fi)) us) (EP X pins σ Q) X.xe s := by
  obtain ⟨np, nl, b, hb⟩ := hf
  obtain ⟨fd, F, B, kp, _⟩ := E0.kn.fn fi np nl b hk hb
  obtain ⟨as, m, ds, R, r, hs, o⟩ := h
  obtain ⟨q, nb, _⟩ := cv_of (as := as) (o2 := []) I E0.cel hs (fun j c v h => by cases h)
  exact run_fnRT F E0.room B (passAt E0.tk σ) I q.rt nb rv ⟨as, m, ds, q.rel (G := G) R, q.reps (G := G) R r, q.outD (G := G) R o⟩
theorem es_callO (E0 : EnvO G P n X W C) (hk : G.kfn fi = true) (hf : isFn P fi) (hg : Gl X x) (hm : X.mg x = some (.ref (G.fa fi))) (ha : PA X (e :: es) (rdA G X.K W (evalEs C el))) (hdb : (x == ("__debug__" : Str)) = false := by decide)
    (he : starEach (e :: es) X.env = (false, eval e X.env) :: starEach es X.env := by rfl) (hpl : (backTo pos (starEach es X.env)).any (·.1) = false := by rfl) : PE X (.Call (.Name x p2) (e :: es) [] pos) (rdE G X.K W (evalE C (.call fi el))) := by
  refine ⟨fun pins s σ H Q I q => wpAny_Call_Name_kw (ld_glob I hg hm ?_ hdb)⟩
  have kp : PySem.W.keepIn X.K (.ref (G.fa fi)) = true := by
    obtain ⟨np, nl, b, hb⟩ := hf
    obtain ⟨fd, F, B, kp, _⟩ := E0.kn.fn fi np nl b hk hb
    exact kp
  have q' : rdE G X.K W (fun δ m => (evalEs C el δ m).bind (FS.call P n fi)) σ H Q := by
    have : (fun δ m => evalE C (.call fi el) δ m) = fun δ m => (evalEs C el δ m).bind (FS.call P n fi) := by
      funext δ m
      rw [evalE, E0.call]
    rw [← this]; exact q
  exact PySem.W.callWith_K (h₀ := X.base) I.ok.mod.kin kp (thn (ha.run pos pins s σ H _ I (rd_at q')) fun us s1 ⟨vs, H1, I1, r, q1⟩ => ⟨I1.kIn, run_at E0 hk hf I1 r q1⟩) he hpl
theorem meth_coreO {i : Nat} {Ex : Nat → Hp → Prop} {Q : VK} (E0 : EnvO G P n X W C) (hmn : ∀ f, G.kf f = true → G.fnm f ≠ G.mn i) (q : Out G X.K Ex as H (evalE C (.meth eo i el) δ m) fun d as' m' H' => ∀ v, Rep G X.K as' H' d v → Q v H') :
    Out G X.K Ex as H (evalE C eo δ m) fun d as1 m1 H1 => ∀ v, Rep G X.K as1 H1 d v → ∃ p c dx fs g, v = .ref p ∧ H1 p = some (.ins (G.cls c) dx fs) ∧ Cls X.K (G.cls c) ∧ Meth X.K (G.cls c) (G.mn i) (G.fa g) ∧ fs.lookup (G.mn i) = none ∧ G.kfn g = true ∧ isFn P g ∧ Rel G X.K as1 m1 H1 ∧ Grow as H as1 H1 ∧ Rep G X.K as1 H1 d v ∧
      Out G X.K Ex as1 H1 ((evalEs C el δ m1).bind fun ds m2 => FS.call P n g (d :: ds) m2) fun d as' m' H' => ∀ v, Rep G X.K as' H' d v → Q v H' := by
  have nolook : ∀ {fs : List (Str × V)}, (∀ p ∈ fs, p.1 ≠ G.mn i) → fs.lookup (G.mn i) = none := by
    intro fs
    induction fs with
    | nil => intro _; rfl
    | cons p r ih =>
      intro h
      rw [List.lookup_cons, show (G.mn i == p.1) = false from beq_eq_false_iff_ne.mpr fun z => h p List.mem_cons_self z.symm]
      exact ih fun p' hp' => h p' (List.mem_cons_of_mem _ hp')
  simp only [evalE] at q
  refine q.bind.imp fun d as1 m1 H1 R1 g1 q1 v r1 => ?_
  rw [E0.mt, E0.call] at q1
  cases d <;> first
    | exact (show False from q1).elim
    | skip
  · rename_i c ds
    obtain ⟨p, dx, vs, rfl, hn, hc, hp, hl, rs⟩ := rep_ins r1
    simp only at q1
    cases hm : P.mt c i with
    | none => rw [hm] at q1; exact q1.elim
    | some g =>
      rw [hm] at q1
      obtain ⟨M, kg, fg⟩ := E0.st.meth c i g hm (.inl hc)
      refine ⟨p, c, dx, _, g, rfl, hp, E0.st.GO.cls c (.inl hc), M, nolook fun z hz => ?_, kg, fg, R1, g1, r1, q1⟩
      have := (List.of_mem_zip hz).1
      obtain ⟨f, hf, e⟩ := List.mem_map.mp this
      rw [← e]
      exact hmn f (E0.st.GO.fkn c f hc hf)
  · rename_i k
    obtain ⟨p, rfl, hp⟩ := rep_ref r1
    simp only at q1
    cases hmo : m1[k]? with
    | none => rw [hmo] at q1; exact q1.elim
    | some mo =>
      rw [hmo] at q1
      cases mo with
      | obj c fs =>
        simp only at q1
        cases hm : P.mt c i with
        | none => rw [hm] at q1; exact q1.elim
        | some g =>
          rw [hm] at q1
          obtain ⟨dx, vs, hc, h0, rs⟩ := R1.at_ k p _ hp hmo
          obtain ⟨M, kg, fg⟩ := E0.st.meth c i g hm (.inr hc)
          refine ⟨p, c, dx, vs, g, rfl, h0, E0.st.GO.cls c (.inr hc), M, nolook ?_, kg, fg, R1, g1, r1, q1⟩
          have key : ∀ {fs : List (Nat × FS.D)} {vs : List (Str × V)}, Flds G X.K as1 H1 fs vs → ∀ z ∈ vs, z.1 ≠ G.mn i := by
            intro fs
            induction fs with
            | nil => intro vs h z hz; cases (show _ = _ from h); cases hz
            | cons p r ih =>
              rintro vs ⟨v, t, e, hk, _, h3⟩ z hz
              subst e
              rcases List.mem_cons.mp hz with rfl | hz
              · exact hmn _ hk
              · exact ih h3 z hz
          exact key rs
      | _ => exact q1.elim
theorem es_methO {i : Nat} {pl : Sem Bool} (E0 : EnvO G P n X W C) (hx : x = G.mn i) (hmn : ∀ f, G.kf f = true → G.fnm f ≠ G.mn i) (ho : PE X o (rdE G X.K W (evalE C eo))) (ha : PA X (e :: es) (rdA G X.K W (evalEs C el)))
    (hst : starEach (e :: es) X.env = (false, eval e X.env) :: starEach es X.env := by rfl) (hpl : (backTo pos (starEach es X.env)).any (·.1) = false := by rfl)
    (ht : eval (.Call (.Attribute o x p2) (e :: es) [] pos) X.env = (do
      let ov ← eval o X.env
      standAt p2.atName
      let (f, first) ← holding [ov] (getMethod ov x pl)
      callWith pos f first (backTo pos (starEach (e :: es) X.env)) (backToKw pos (keywordEach [] X.env))) := by rfl) : PE X (.Call (.Attribute o x p2) (e :: es) [] pos) (rdE G X.K W (evalE C (.meth eo i el))) := by
  subst hx
  refine ⟨fun pins s σ H Q I ⟨as, m, δ, R, S, q⟩ => ?_⟩
  refine PySem.W.methodCall_KW (pl := pl) (thn (ho.run pins s σ H (fun v H1 => ∃ as1 m1 d p c dx fs g, v = .ref p ∧ H1 p = some (.ins (G.cls c) dx fs) ∧ Cls X.K (G.cls c) ∧ Meth X.K (G.cls c) (G.mn i) (G.fa g) ∧ fs.lookup (G.mn i) = none ∧ G.kfn g = true ∧ isFn P g ∧ Rel G X.K as1 m1 H1 ∧ Grow as H as1 H1 ∧ Rep G X.K as1 H1 d v ∧
      Out G X.K (fun c H' => W (.ref (G.cls c)) none σ H') as1 H1 ((evalEs C el δ m1).bind fun ds m2 => FS.call P n g (d :: ds) m2) fun d as' m' H' => ∀ v, Rep G X.K as' H' d v → Q v H')
      I ⟨as, m, δ, R, S, (meth_coreO E0 hmn q).imp fun d as1 m1 H1 R1 g1 k v r => by
        obtain ⟨p, c, dx, fs, g, k⟩ := k v r
        exact ⟨as1, m1, d, p, c, dx, fs, g, k⟩⟩) fun u s1 ⟨v, H1, I1, rv, as1, m1, d, p, c, dx, fs, g, ev, hp, hcl, M, hl, kg, fg, R1, g1, r1, q1⟩ => ?_) ht
  subst ev
  obtain rfl : u = Value.ref p := rv
  refine getmeth_ok I1 hp hcl M hl ?_
  refine PySem.W.callWith_K (first := [.ref p]) (h₀ := X.base) I.ok.mod.kin M.kp (thn (ha.run pos pins s1 σ H1 (fun vs H2 => AtC G X.K (fun c H' => W (.ref (G.cls c)) none σ H') σ (FS.call P n g) Q (.ref p :: vs) H2) I1
      ⟨as1, m1, δ, R1, S.grow g1, q1.bind.imp fun ds as2 m2 H2 R2 g2 q2 vs r2 => ⟨as2, m2, d :: ds, R2, reps_cons (r1.grow g2) r2, fun j c v h => (S.own j c v h).1, q2⟩⟩) fun us s2 ⟨vs, H2, I2, r, q2⟩ => ⟨I2.kIn, ?_⟩) hst hpl
  exact run_at (us := .ref p :: us) (vs := .ref p :: vs) E0 kg fg I2 (.cons rfl r) q2
theorem es_cloO {i : Nat} (E0 : EnvO G P n X W C) (hfn : ∀ f I, G.clo f = some I → isFn P f) (ha : PA X (e :: es) (rdA G X.K W (evalEs C el))) (hN : X.N[i]? = some x := by rfl) (hv : Vis X.env.scope x := by first | exact Or.inl rfl | exact Or.inr (Or.inl rfl) | exact Or.inr (Or.inr rfl))
    (hd : (x == ("__debug__" : Str)) = false := by decide) (hcd : (x == ("__classdict__" : Str)) = false := by decide) (he : starEach (e :: es) X.env = (false, eval e X.env) :: starEach es X.env := by rfl) (hpl : (backTo pos (starEach es X.env)).any (·.1) = false := by rfl) :
    PE X (.Call (.Name x p2) (e :: es) [] pos) (rdE G X.K W (evalE C (.clo i el))) := by
  refine ⟨fun pins s σ H Q I ⟨as, m, δ, R, S, q⟩ => ?_⟩
  simp only [evalE] at q
  cases hs : δ[i]? with
  | none => rw [hs] at q; exact q.elim
  | some od =>
    cases od with
    | none => rw [hs] at q; exact q.elim
    | some d0 =>
      rw [hs] at q
      cases d0 with
      | clo f cs =>
        simp only at q
        obtain ⟨v0, hv0, r0⟩ := S.at_ i _ hs
        obtain ⟨p, J, cl, c, ws, rfl, hn, hi, hp, hcn, hc, CC, rc⟩ := (show ∃ p I cl c ws, v0 = .ref p ∧ _ from by simpa only [Rep] using r0)
        refine wpAny_Call_Name_kw (thn ((pe_var (pos := p2) hN hv hd hcd).run pins s σ H (fun v H1 => v = .ref p ∧ H1 = H) I ⟨.ref p, hv0, rfl, rfl⟩) fun u s1 ⟨v, H1, I1, r1, q1⟩ => ?_)
        obtain ⟨ev, eH⟩ := q1
        subst ev
        rw [eH] at I1
        obtain rfl : u = Value.ref p := r1
        refine PySem.W.callWith_F (first := []) (fO_at I1.hok hp) (thn (ha.run pos pins s1 σ H (fun vs H2 => ∃ as2 m2 ds, Rel G X.K as2 m2 H2 ∧ Grow as H as2 H2 ∧ Reps G X.K as2 H2 ds vs ∧ Out G X.K (fun c H' => W (.ref (G.cls c)) none σ H') as2 H2 (FS.call P n f (ds ++ cs) m2) fun d as' m' H' => ∀ v, Rep G X.K as' H' d v → Q v H') I1
          ⟨as, m, δ, R, S, q.bind.imp fun ds as2 m2 H2 R2 g2 q2 vs r2 => ⟨as2, m2, ds, R2, g2, r2, by rw [E0.call] at q2; exact q2⟩⟩) fun us s2 ⟨vs, H2, I2, r, as2, m2, ds, R2, g2, r2, q2⟩ => ?_) he hpl
        have hp2 := g2.keep _ _ hp hn fnO_tbl
        refine ⟨fO_at I2.hok hp2, ?_⟩
        show wpAny _ _ (PySem.call (.ref p) us) _ _ _
        have C2 : CellsG G as2 H2 cl J.fr ws := CC.imp fun c v z => z.grow g2
        have rc2 := rc.grow g2
        obtain ⟨np, nl, b, hb⟩ := hfn f J hi
        have K1 := E0.kn.clo f J np nl b hi hb p cl c
        have lk : ∀ j c' v, (j, c', v) ∈ ownOf J.ps.length cl J.fr ws → ∃ i y, J.fr[i]? = some y ∧ ws[i]? = some v ∧ j = J.ps.length + i ∧ cl.lookup y = some c' ∧ CellG G as2 H2 c' v := fun j c' v hm => by
          obtain ⟨i, y, h1, h2, h3, h4⟩ := mem_ownOf.mp hm
          obtain ⟨c'', v', e1, e2, e3⟩ := C2.has i y h1
          rw [e1] at h4
          rw [h2] at e2
          cases e2
          have : c' = c'' := h4
          subst this
          exact ⟨i, y, h1, h2, h3, e1, e3⟩
        obtain ⟨cv, nb, c3⟩ := cv_of (as := as2) (o2 := ownOf J.ps.length cl J.fr ws) I2 E0.cel (fun j c v h => (S.own j c v h).1) (fun j c' v hm => by
          obtain ⟨_, _, _, _, _, _, z⟩ := lk j c' v hm
          exact z)
        have inO : ∀ (i : Nat) (y : Str) (c' : Addr) (v : V), J.fr[i]? = some y → ws[i]? = some v → cl.lookup y = some c' → (J.ps.length + i, c', v) ∈ ownOf J.ps.length cl J.fr ws := fun i y c' v h1 h2 h3 => mem_ownOf.mpr ⟨i, y, h1, h2, rfl, by rw [h3]; rfl⟩
        have inC : ∀ y c', cl.lookup y = some c' → ∃ j v, (j, c', v) ∈ ownOf J.ps.length cl J.fr ws := fun y c' h => by
          obtain ⟨i, hi⟩ := List.mem_iff_getElem?.mp (C2.sub y c' h)
          obtain ⟨c'', v', e1, e2, _⟩ := C2.has i y hi
          rw [h] at e1
          cases e1
          exact ⟨_, _, inO i y c' v' hi e2 h⟩
        have hF2 : callH s2.heap G.own (ownOf J.ps.length cl J.fr ws) H2 p = some (FO J.lam p (NdefX.NF.of J.st J.name J.qual cl c)) := cv.rt.sub hp2 fnO_cel
        have hc2 : callH s2.heap G.own (ownOf J.ps.length cl J.fr ws) H2 c = some (LamX.CodeO c J.qual) := cv.rt.sub (g2.keep _ _ hc hcn codeO_tbl) codeO_cel
        have hcells : NdefX.CellsAt cl J.fr (ws.map some) s2.heap (callH s2.heap G.own (ownOf J.ps.length cl J.fr ws) H2) := by
          refine ⟨by rw [List.length_map, C2.len], fun y c' h => ?_, C2.inj, fun i y h => ?_⟩
          · obtain ⟨j, v, hm⟩ := inC y c' h
            obtain ⟨a1, o, u, a2, a3, _⟩ := cv.w2 j c' v hm
            exact ⟨a1, some u, o, a2, a3⟩
          · obtain ⟨c', v', e1, e2, _⟩ := C2.has i y h
            refine ⟨c', e1, fun v hv => ?_⟩
            rw [List.getElem?_map, e2] at hv
            cases hv
            obtain ⟨a1, o, u, a2, a3, a4⟩ := cv.w2 _ c' v' (inO i y c' v' h e2 e1)
            exact ⟨u, a4, o, a2, a3⟩
        have hsp : spC G.z X.K P n f J cl (ws.map some) vs (callH s2.heap G.own (ownOf J.ps.length cl J.fr ws) H2) (qB H2 (callH s2.heap G.own (ownOf J.ps.length cl J.fr ws) H2) Q) (eB W σ H2 (callH s2.heap G.own (ownOf J.ps.length cl J.fr ws) H2)) :=
          ⟨as2, m2, ds, cs, ws, rfl, C2.len, cv.rel (G := G) R2, cv.reps (G := G) R2 r2, cv.reps (G := G) R2 rc2, cv.outD (G := G) R2 q2⟩
        refine wpAny_call (codeAny_mono (K1.run X.A X.stack s2 _ us vs _ _ _ E0.room (cv.rt.env nb I2.env0) hF2 hc2 hcells (fun y c' h => ?_) r hsp) fun rr s' hq => ?_)
        · obtain ⟨j, v, hm⟩ := inC y c' h
          exact c3 j c' v hm
        · have := end_rt (passAt E0.tk σ) I2 cv.rt hq
          cases rr with
          | error e => exact this
          | ok fl => cases fl <;> exact this
      | _ => exact q.elim
theorem back_upd {H H2 H2' : Hp} {x dx : Addr} {o u : HO} (h1 : H x = none) (h2 : H2 x = none) (h3 : H dx = none) (h4 : H2 dx = none) : back (upd (upd H dx o) x u) (upd (upd H2 dx o) x u) H2' = back H H2 H2' := by
  funext b
  by_cases e : b = x
  · subst e
    rw [back_eq (h1.trans h2.symm), back_eq (by rw [upd_same, upd_same])]
  · by_cases e2 : b = dx
    · subst e2
      rw [back_eq (h3.trans h4.symm), back_eq (by rw [upd_ne e, upd_ne e, upd_same, upd_same])]
    · unfold back
      rw [upd_ne e, upd_ne e2, upd_ne e, upd_ne e2]
theorem fx_upd {H H2 H2' : Hp} {x dx : Addr} {o u : HO} (h1 : H x = none) (h2 : H2 x = none) (h3 : H dx = none) (h4 : H2 dx = none) (f : Fx (upd (upd H dx o) x u) (upd (upd H2 dx o) x u) H2') : Fx H H2 H2' := by
  constructor
  · intro b y e1 e2
    have n1 : b ≠ x := by rintro rfl; rw [h2] at e2; cases e2
    have n2 : b ≠ dx := by rintro rfl; rw [h4] at e2; cases e2
    exact f.k1 b y (by rw [upd_ne n1, upd_ne n2]; exact e1) (by rw [upd_ne n1, upd_ne n2]; exact e2)
  · intro b y e1 e2
    have n1 : b ≠ x := by rintro rfl; rw [h1] at e1; cases e1
    have n2 : b ≠ dx := by rintro rfl; rw [h3] at e1; cases e1
    exact f.k2 b y (by rw [upd_ne n1, upd_ne n2]; exact e1) (by rw [upd_ne n1, upd_ne n2]; exact e2)
theorem run_makeRT {k : Nat} {f Ca : Addr} {fd : FuncData} {ps : List Str} {sp : Sp} {pins : List (Addr × Obj)} {s : Shared} {H2 : Hp} {Q : VK} {us : List Value} {vs : List V} (M : Mk X.K Ca f) (F : FnOk X.prog X.w X.K X.mg X.base (CX X.prog X.w) k f fd ps sp) (hr : Room (k + 1) X.A) (hb : Binds X.K fd ps [])
    (I : Inv X pins σ H s) (r : RT s.heap (frs X.stack) H H2) (nb : ∀ b o, X.base.get? b = some o → H2 b = none) (rv : Vals vs us)
    (h : ∀ x dx, H2 x = none → H2 dx = none → dx ≠ x → sp (.ref x :: vs) (upd (upd H2 dx (.own x)) x (.ins Ca dx [])) (fun v H2' => v = .non ∧ qB H H2 Q (.ref x) H2') fun _ _ _ => False) :
    wpAny (model X.prog X.w) X.A (PySem.call (.ref Ca) us) (EP X pins σ Q) X.xe s := by
  have hx1 : H (s.heap.objs.size + 1) = none := I.hok.fresh (Nat.le_succ _)
  have hd1 : H s.heap.objs.size = none := I.hok.fresh (Nat.le_refl _)
  have hok2 := r.hok I.hok
  have hx2 : H2 (s.heap.objs.size + 1) = none := hok2.fresh (Nat.le_succ _)
  have hd2 : H2 s.heap.objs.size = none := hok2.fresh (Nat.le_refl _)
  have hne : s.heap.objs.size ≠ s.heap.objs.size + 1 := Nat.ne_of_lt (Nat.lt_succ_self _)
  have hq := h (s.heap.objs.size + 1) s.heap.objs.size hx2 hd2 hne
  have I2 := Inv.made (C := Ca) I
  have r2 : Vals (V.ref (s.heap.objs.size + 1) :: vs) (Value.ref (s.heap.objs.size + 1) :: us) := .cons rfl rv
  have hl : (Value.ref (s.heap.objs.size + 1) :: us).length = ps.length := by
    have e := r2.length
    rw [F.len _ _ _ _ hq] at e
    exact e.symm
  have b := hb _ (Value.ref (s.heap.objs.size + 1) :: us) I2.kIn (by rw [List.append_nil]; exact hl)
  rw [List.append_nil] at b
  have rt2 : RT ((s.heap.push PySem.W.emptyDict).push (PySem.W.instObj Ca s.heap.objs.size)) (frs X.stack) (upd (upd H s.heap.objs.size (.own (s.heap.objs.size + 1))) (s.heap.objs.size + 1) (.ins Ca s.heap.objs.size [])) (upd (upd H2 s.heap.objs.size (.own (s.heap.objs.size + 1))) (s.heap.objs.size + 1) (.ins Ca s.heap.objs.size [])) := ⟨fun b => by
    by_cases e : b = s.heap.objs.size + 1
    · subst e; exact .inl (by rw [upd_same, upd_same])
    · by_cases e2 : b = s.heap.objs.size
      · subst e2; exact .inl (by rw [upd_ne e, upd_ne e, upd_same, upd_same])
      · rw [upd_ne e, upd_ne e2, upd_ne e, upd_ne e2]
        rcases r.at_ b with z | ⟨z, o, ho, z2⟩
        · exact .inl z
        · exact .inr ⟨z, o, Heap.get?_push_of_some _ (Heap.get?_push_of_some _ ho), z2⟩⟩
  have nb2 : ∀ b o, X.base.get? b = some o → upd (upd H2 s.heap.objs.size (.own (s.heap.objs.size + 1))) (s.heap.objs.size + 1) (.ins Ca s.heap.objs.size []) b = none := fun b o e => by
    have lt := Heap.lt_size (I.bk b o e)
    rw [upd_ne (Nat.ne_of_lt (Nat.lt_succ_of_lt lt)), upd_ne (Nat.ne_of_lt lt)]
    exact nb b o e
  refine wpAny_call (make_map (f := f) I.kIn M.makes M.init (beq_iff_eq.mp M.fn) (codeAny_mono (F.run _ X.stack _ _ ⟨Value.ref (s.heap.objs.size + 1) :: us, []⟩ (Value.ref (s.heap.objs.size + 1) :: us) _ _ _ (hr.make Ca us [])
    (rt2.env nb2 (I2.env0.make Ca us [])) b r2 hq) fun rr s' hq' => ?_))
  cases rr with
  | error e =>
    obtain ⟨_, _, _, _, _, _, _, _, _, _, _, _, z⟩ := hq'
    exact z.elim
  | ok fl =>
    cases fl with
    | ret u =>
      obtain ⟨v, H', I3, rv', ev, q3⟩ := I2.after (rt2.ce (Q := fun v H' => v = .non ∧ Q (.ref (s.heap.objs.size + 1)) H') (fun v H2' f q => ⟨q.1, by
        rw [back_upd hx1 hx2 hd1 hd2]
        exact q.2 (fx_upd hx1 hx2 hd1 hd2 f)⟩) hq')
      subst ev
      exact ⟨rv', ⟨V.ref (s.heap.objs.size + 1), H', I3, rfl, q3⟩⟩
    | next => exact False.elim hq'
    | brk => exact False.elim hq'
    | cont => exact False.elim hq'
theorem run_atM {pins : List (Addr × Obj)} {s : Shared} {Q : VK} {us : List Value} {vs : List V} {c : Nat} (E0 : EnvO G P n X W C) (hne : P.cini c ≠ some .bare) (hx : n ≠ 0) (I : Inv X pins σ H s) (rv : Vals vs us)
    (h : AtC G X.K (fun c H' => W (.ref (G.cls c)) none σ H') σ (FS.mk P (FS.call P (n - 1)) c) Q vs H) : wpAny (model X.prog X.w) X.A (PySem.call (.ref (G.cls c)) us) (EP X pins σ Q) X.xe s := by
  obtain ⟨as, m, ds, R, rs, hs, q⟩ := h
  obtain ⟨cv, nb, _⟩ := cv_of (as := as) (o2 := []) I E0.cel hs (fun j c v h => by cases h)
  have hroom : Room ((n - 1) + 1) X.A := by
    have : n - 1 + 1 = n := by omega
    rw [this]; exact E0.room
  cases hci : P.cini c with
  | none => simp only [FS.mk, hci] at q; exact q.elim
  | some ci =>
    have R0 := cv.rel (G := G) (s2 := fun _ => false) R
    have rs0 := cv.reps (G := G) (s2 := fun _ => false) R rs
    cases ci with
    | bare => exact absurd hci hne
    | imm f =>
      simp only [FS.mk, hci] at q
      obtain ⟨M, hc, hk, np, nl, l, hl⟩ := E0.st.imm c f hci
      obtain ⟨fd, ps, F, B, kp⟩ := E0.kn1.ini f c np nl l hk hl
      refine run_makeRT M F hroom B I cv.rt nb rv fun x dx h1 h2 h3 => ?_
      obtain ⟨g1, R1, n1⟩ := R0.newI h2 (.own x)
      have h1' : (upd (callH s.heap G.own [] H) dx (.own x)) x = none := by rw [upd_ne (Ne.symm h3)]; exact h1
      obtain ⟨g2, R2, n2⟩ := R1.newI h1' (.ins (G.cls c) dx [])
      refine ⟨x, dx, vs, as, _, as, m, ds, rfl, h1, n2, upd_same, g1.trans g2, R2, rs0.grow (g1.trans g2), ?_⟩
      have q2 : Out G X.K (fun c H' => W (.ref (G.cls c)) none σ H') as H ((FS.call P (n - 1) f ds m).calm.bind fun d m => .ok d m) fun d as' m' H' => ∀ v, Rep G X.K as' H' d v → Q v H' := by
        cases hcall : FS.call P (n - 1) f ds m <;> rw [hcall] at q <;> exact q
      exact (Out.calm (cv.outD (G := G) (s2 := fun _ => false) R q2)).imp fun d as' m' H' R' g' k r => ⟨rfl, Out.here R' k _ r⟩
    | chg f =>
      simp only [FS.mk, hci] at q
      obtain ⟨M, hc, hk, np, nl, l, hl⟩ := E0.st.chg c f hci
      obtain ⟨fd, F, B, kp, _⟩ := E0.kn1.fn f np nl l hk hl
      refine run_makeRT M F hroom B I cv.rt nb rv fun x dx h1 h2 h3 => ?_
      obtain ⟨g1, R1, n1⟩ := R0.newI h2 (.own x)
      have h1' : (upd (callH s.heap G.own [] H) dx (.own x)) x = none := by rw [upd_ne (Ne.symm h3)]; exact h1
      obtain ⟨g2, R2, hi2⟩ := R1.newM (mo := .obj c []) (o := .ins (G.cls c) dx []) h1' fun g => ⟨dx, [], hc, upd_same, rfl⟩
      refine ⟨as ++ [x], m ++ [.obj c []], .ref m.length :: ds, R2, reps_cons (by simp only [Rep]; exact ⟨x, rfl, hi2⟩) (rs0.grow (g1.trans g2)), ?_⟩
      refine (Out.calm ((cv.outD (G := G) (s2 := fun _ => false) R q).later (g1.trans g2))).imp fun d as' m' H' R' g' k v r => ?_
      split at k
      · rename_i hd
        subst hd
        exact ⟨rep_non r, Out.here R' k _ (by simp only [Rep]; exact ⟨x, rfl, g'.ix hi2⟩)⟩
      · exact k.elim
theorem es_makeO (E0 : EnvO G P n X W C) (hne : P.cini ci ≠ some .bare) (hkp : PySem.W.keepIn X.K (.ref (G.cls ci)) = true) (hg : Gl X x) (hm : X.mg x = some (.ref (G.cls ci))) (ha : PA X (e :: es) (rdA G X.K W (evalEs C el))) (hdb : (x == ("__debug__" : Str)) = false := by decide)
    (he : starEach (e :: es) X.env = (false, eval e X.env) :: starEach es X.env := by rfl) (hpl : (backTo pos (starEach es X.env)).any (·.1) = false := by rfl) : PE X (.Call (.Name x p2) (e :: es) [] pos) (rdE G X.K W (evalE C (.make ci el))) := by
  refine ⟨fun pins s σ H Q I q => wpAny_Call_Name_kw (ld_glob I hg hm ?_ hdb)⟩
  have q' : rdE G X.K W (fun δ m => (evalEs C el δ m).bind (FS.mk P (FS.call P (n - 1)) ci)) σ H Q := by
    have : (fun δ m => evalE C (.make ci el) δ m) = fun δ m => (evalEs C el δ m).bind (FS.mk P (FS.call P (n - 1)) ci) := by
      funext δ m
      rw [evalE, E0.make]
    rw [← this]; exact q
  refine PySem.W.callWith_K (h₀ := X.base) I.ok.mod.kin hkp (thn (ha.run pos pins s σ H _ I (rd_at q')) fun us s1 ⟨vs, H1, I1, r, o⟩ => ⟨I1.kIn, ?_⟩) he hpl
  by_cases h0 : n = 0
  · obtain ⟨as, m, ds, _, _, _, o⟩ := o
    rw [zero_mk h0 hne] at o; exact o.elim
  · exact run_atM E0 hne h0 I1 r o
end
end FS
namespace FS
open PySem L2
section
variable {G : Gam} {P : Prog} {n : Nat} {X : Cx} {W : WX} {C : Ctx} {e a b c o : Expr} {pos p2 p3 : Pos} {m : Mem} {as as' : List Addr} {H H' : Hp} {σ : L2.St} {δ : Sto} {K : PySem.W.Frag} {es : List Expr} {el : Es} {ea eb ec eo : E} {x : Str} {fi ci : Nat}
theorem mapM_join {δ : Sto} : ∀ {cs : List Nat} {ds : List FS.D}, (cs.mapM fun j => (δ[j]?).join) = some ds → ds.length = cs.length ∧ ∀ (k : Nat) (j : Nat), cs[k]? = some j → ∃ d, ds[k]? = some d ∧ δ[j]? = some (some d)
  | [], ds, h => by
    have : ds = [] := by simpa using h.symm
    subst this
    exact ⟨rfl, fun k j e => by cases e⟩
  | j :: cs, ds, h => by
    rw [List.mapM_cons] at h
    obtain ⟨d, h1, h⟩ := Option.bind_eq_some_iff.mp h
    obtain ⟨r, h2, h⟩ := Option.bind_eq_some_iff.mp h
    cases h
    obtain ⟨l, ih⟩ := mapM_join h2
    refine ⟨by simp [l], fun k j' e => ?_⟩
    cases k with
    | zero =>
      cases e
      refine ⟨d, rfl, ?_⟩
      cases q : δ[j]? with
      | none => rw [q] at h1; cases h1
      | some od =>
        rw [q] at h1
        have : od = some d := h1
        rw [this]
    | succ k => exact ih k j' e
theorem ss_ndef {I : CloI} {i f : Nat} {cs : List Nat} {c P₀ : Addr} {nm : Nat → Nat → Str} (E0 : EnvO G P n X W C) (hI : G.clo f = some I) (hst : I.st = .FunctionDef I.name (C8.fnArgs I.st) (C8.fnBody I.st) [] none [] (C8.fnScope I.st) none I.name pos) (hq : I.qual = X.env.qual ++ I.name)
    (TB : LamX.TabB X.base X.mg c P₀) (hcode : X.env.code = .ref c) (hm : (P₀, nm) ∈ G.tabs) (hn : nm pos.line pos.col = X.env.qual ++ I.name) (hu : ∀ p ∈ G.tabs, p.1 = P₀ → p.2 = nm)
    (hcs : cs.map (fun j => X.N[j]?) = I.fr.map some) (hjs : ∀ j ∈ cs, ∃ c v, (j, c, v) ∈ G.own) (hb : NdefX.ndefB X.env.scope (C8.fnScope I.st) I.fr = true) (hall : ∀ y, (y, NameKind.free) ∈ (C8.fnScope I.st).names → y ∈ I.fr)
    (hd0 : (C8.fnArgs I.st).defaults = []) (hk0 : (C8.fnArgs I.st).kw_defaults = []) (ha : annTrees (C8.fnArgs I.st) none X.env = [])
    (hN : X.N.Nodup) (hi : X.N[i]? = some I.name) (hx : Loc X.env.scope I.name) (hf : X.fn I.name = true ∨ X.env.scope.names.lookup I.name = some .local) (hsl : G.sl i = false) (hlam : I.lam = none := by rfl) :
    PS X I.st (rdS G X.K W (execS C (.ndef i f cs))) := by
  have hfree := NdefX.ndef_free hb
  have base := NdefX.ps_ndefMS (T := G.tabs) hst TB hcode hm hn hu hfree hd0 hk0 ha hN hi hx hf
  refine ⟨fun pins s σ H Z J q => base.run pins s σ H Z J ?_⟩
  obtain ⟨as, m, δ, R, S, o⟩ := q
  refine ⟨R.tabs, fun f' c' H1 ext nn T1 f0 f1 c1 => ?_⟩
  simp only [execS] at o
  cases hm : cs.mapM fun j => (δ[j]?).join with
  | none => rw [hm] at o; exact o.elim
  | some ds =>
    rw [hm] at o
    simp only at o
    obtain ⟨hl, hget⟩ := mapM_join hm
    have hmr : ∀ (i : Nat) (p : Addr) (mo : MO), as[i]? = some p → m[i]? = some mo → H1 p = H p := fun i p mo e1 e2 => by
      have r := R.at_ i p mo e1 e2
      obtain ⟨u, hu⟩ := r.some
      rw [hu]
      exact ext p u hu fun ps z => r.ntb ps (by rw [hu, z])
    have g : Grow as H as H1 := ⟨⟨[], by simp⟩, fun _ h => .inl h, fun p u e _ ht => ext p u e ht, fun p u e _ z => (by rw [nn p z] at e; cases e), fun p u x e => ext p _ e fun ps z => by cases z⟩
    have R1 : Rel G X.K as m H1 := ⟨R.len, R.nd, fun i p mo e1 e2 => (R.at_ i p mo e1 e2).grow g (hmr i p mo e1 e2), T1⟩
    have hf1 : f' ∉ as := R.fresh f0
    have hc1 : c' ∉ as := fun hmem => by
      obtain ⟨i, hi⟩ := List.mem_iff_getElem?.mp hmem
      have hlt : i < m.length := by rw [← R.len]; exact (List.getElem?_eq_some_iff.mp hi).1
      exact (R1.at_ i c' _ hi (List.getElem?_eq_getElem hlt)).nco _ c1
    have hw : ∀ (k : Nat) (y : Str), I.fr[k]? = some y → ∃ j c v, cs[k]? = some j ∧ X.N[j]? = some y ∧ (j, c, v) ∈ G.own ∧ X.env.cells.lookup y = some c ∧ σ[j]? = some (some v) := fun k y hy => by
      have e2 : (cs.map fun j => X.N[j]?)[k]? = some (some y) := by rw [hcs, List.getElem?_map, hy]; rfl
      rw [List.getElem?_map] at e2
      obtain ⟨j, hj, hj2⟩ := Option.map_eq_some_iff.mp e2
      obtain ⟨c, v, hov⟩ := hjs j (List.mem_of_getElem? hj)
      obtain ⟨_, _, x, hx1, hx2, _⟩ := E0.cel j c v hov
      rw [hj2] at hx1
      cases hx1
      exact ⟨j, c, v, hj, hj2, hov, hx2, (S.own j c v hov).1⟩
    let ws : List V := cs.map fun j => ((NdefX.slotAt σ j).getD .non)
    have hws : ∀ (k j : Nat) (v : V), cs[k]? = some j → σ[j]? = some (some v) → ws[k]? = some v := fun k j v h1 h2 => by
      show (cs.map _)[k]? = _
      rw [List.getElem?_map, h1]
      show some ((NdefX.slotAt σ j).getD .non) = _
      rw [NdefX.slotAt_of h2]; rfl
    have hcl : ∀ y ∈ (C8.fnScope I.st).names, y.2 = .free → ∃ c, X.env.cells.lookup y.1 = some c := fun y hy e => (hfree y hy e).elim (fun z => J.ok.has _ (.inl z)) fun z => J.ok.has _ (.inr z)
    have hlen : cs.length = I.fr.length := by
      have := congrArg List.length hcs
      rwa [List.length_map, List.length_map] at this
    refine o as H1 _ R1 g ((S.grow g).set i (v := .ref f') ?_ hsl)
    simp only [Rep]
    refine ⟨f', I, cloFrom X.env.cells (C8.fnScope I.st).names [], c', ws, rfl, hf1, hI, by rw [hq, hlam]; exact f1, hc1, by rw [hq]; exact c1, ⟨?_, ?_, ?_, ?_⟩, ?_⟩
    · show (cs.map _).length = _
      rw [List.length_map, hlen]
    · exact fun x y c h1 h2 => J.ok.inj x y c (NdefX.clo_cm hcl h1) (NdefX.clo_cm hcl h2)
    · intro y c h
      have hmem := PySem.mem_of_lookup h
      rcases L2.cloFrom_mem hmem with z | ⟨z, _⟩
      · cases z
      · exact hall y z
    · intro k y hy
      obtain ⟨j, c, v, h1, h2, h3, h4, h5⟩ := hw k y hy
      exact ⟨c, v, NdefX.clo_has hcl (NdefX.ndef_fr hb y (List.mem_of_getElem? hy)) h4, hws k j v h1 h5, .inr ⟨j, h3⟩⟩
    · refine reps_iff.mpr ⟨?_, fun k d v e1 e2 => ?_⟩
      · show (cs.map _).length = _
        rw [List.length_map, hl]
      · have hk : k < cs.length := by rw [← hl]; exact (List.getElem?_eq_some_iff.mp e1).1
        have hj := List.getElem?_eq_getElem hk
        obtain ⟨d', hd', hδ⟩ := hget k _ hj
        rw [e1] at hd'
        cases hd'
        obtain ⟨v', hv', rv⟩ := S.at_ _ _ hδ
        have := hws k _ v' hj hv'
        rw [e2] at this
        cases this
        exact rv.grow g
end
abbrev RK := V → L2.St → Hp → Prop
abbrev TSR := RK → L2.St → Hp → Prop
structure PSR (X : Cx) (st : List Stmt) (t : TSR) : Prop where
  run : ∀ (pins : List (Addr × Obj)) (s : Shared) (σ : L2.St) (H : Hp) (D : RK), Inv X pins σ H s → t D σ H →
    wpAny (model X.prog X.w) X.A (execs st X.env) (fun fl s' => match fl with
      | .ret u => ∃ v σ' H', Inv X pins σ' H' s' ∧ RelV v u ∧ D v σ' H'
      | _ => False) X.xe s
def OwnSt (X : Cx) (own : List (Nat × Addr × V)) (σ : L2.St) : Prop := CelOk X own ∧ ∀ j c v, (j, c, v) ∈ own → σ[j]? = some (some v)
def OutR (G : Gam) (K : PySem.W.Frag) (W : WX) (X : Cx) (D : RK) (as : List Addr) (H : Hp) (r : SR) : Prop := match r with
  | .rt d m => ∀ own sl as' H' v σ', OwnSt X own σ' → Rel (G.ow own sl) K as' m H' → Grow as H as' H' → Rep (G.ow own sl) K as' H' d v → D v σ' H'
  | .ex c δ m => ∀ as' H' σ', Rel G.z K as' m H' → Grow as H as' H' → W (.ref (G.cls c)) none σ' H'
  | _ => False
def rdR (G : Gam) (K : PySem.W.Frag) (W : WX) (X : Cx) (f : Sto → Mem → SR) : TSR := fun D σ H => ∃ as m δ, Rel G K as m H ∧ St2 G K as H δ σ ∧ OutR G K W X D as H (f δ m)
section
variable {G : Gam} {P : Prog} {n : Nat} {X : Cx} {W : WX} {C : Ctx} {e a b c o : Expr} {pos p2 p3 : Pos} {m : Mem} {as as' : List Addr} {H H' : Hp} {σ : L2.St} {δ : Sto} {K : PySem.W.Frag} {es : List Expr} {el : Es} {ea eb ec eo : E} {x : Str} {fi ci : Nat} {D : RK}
theorem OutR.later {r : SR} (h : OutR G K W X D as H r) (g : Grow as H as' H') : OutR G K W X D as' H' r := by
  cases r with
  | rt d m => exact fun own sl as1 H1 v σ' h1 h2 g1 h3 => h own sl as1 H1 v σ' h1 h2 (g.trans g1) h3
  | ex c δ m => exact fun as1 H1 σ' h2 g1 => h as1 H1 σ' h2 (g.trans g1)
  | nx δ m => exact h
  | bk δ m => exact h
  | ct δ m => exact h
  | no => exact h
mutual
def noRet : S → Bool
  | .ret _ => false
  | .retN => false
  | .ifs _ a b => noRets a && noRets b
  | .whl _ b => noRets b
  | .frs _ _ b => noRets b
  | .frsI _ _ b => false
  | .try_ b _ _ h => noRets b && noRets h
  | .cal b => noRets b
  | _ => true
def noRets : Ss → Bool
  | .nil => true
  | .cons s r => noRet s && noRets r
end
def isRt : SR → Bool
  | .rt _ _ => true
  | _ => false
theorem toS_rt {α : Type} {σ : Sto} {r : Res α} {f : α → Mem → SR} (h : ∀ a m, isRt (f a m) = false) : isRt (r.toS σ f) = false := by
  cases r with
  | ok a m => exact h a m
  | ex c m => rfl
  | no => rfl
theorem frLoop_rt {g : Guard} {tg : Tg} {body : Sto → Mem → SR} (h : ∀ σ m, isRt (body σ m) = false) : ∀ (ds : List FS.D) (σ : Sto) (m : Mem), isRt (frLoop g tg body ds σ m) = false
  | [], σ, m => by
    simp only [frLoop]
    split <;> rfl
  | d :: ds, σ, m => by
    simp only [frLoop]
    split
    · cases hb : bindT m tg d σ with
      | none => rfl
      | some σ' =>
        simp only
        have hh := h σ' m
        cases hr : body σ' m with
        | nx σ2 m2 => exact frLoop_rt h ds σ2 m2
        | ct σ2 m2 => exact frLoop_rt h ds σ2 m2
        | bk σ2 m2 => rfl
        | rt d m2 => rw [hr] at hh; cases hh
        | ex c σ2 m2 => rfl
        | no => rfl
    · rfl
theorem whLoop_rt {c : Sto → Mem → Res FS.D} {body : Sto → Mem → SR} (h : ∀ σ m, isRt (body σ m) = false) : ∀ (k : Nat) (σ : Sto) (m : Mem), isRt (whLoop c body k σ m) = false
  | 0, _, _ => rfl
  | k + 1, σ, m => by
    simp only [whLoop]
    refine toS_rt fun b m1 => ?_
    cases b with
    | bl b =>
      cases b with
      | false => rfl
      | true =>
        simp only
        have hh := h σ m1
        cases hr : body σ m1 with
        | nx σ2 m2 => exact whLoop_rt h k σ2 m2
        | ct σ2 m2 => exact whLoop_rt h k σ2 m2
        | bk σ2 m2 => rfl
        | rt d m2 => rw [hr] at hh; cases hh
        | ex c σ2 m2 => rfl
        | no => rfl
    | _ => rfl
mutual
theorem noRet_ok {C : Ctx} : ∀ (s : S), noRet s = true → ∀ δ m, isRt (execS C s δ m) = false
  | .set _ _, _, δ, m => by simp only [execS]; exact toS_rt fun _ _ => rfl
  | .unp _ _, _, δ, m => by simp only [execS]; exact toS_rt fun _ _ => by split <;> rfl
  | .ex _, _, δ, m => by simp only [execS]; exact toS_rt fun _ _ => rfl
  | .ret _, h, _, _ => by cases h
  | .retN, h, _, _ => by cases h
  | .ifs _ a b, h, δ, m => by
    simp only [noRet, Bool.and_eq_true] at h
    simp only [execS]
    refine toS_rt fun d m1 => ?_
    cases d with
    | bl k => cases k with
      | true => exact noRets_ok a h.1 δ m1
      | false => exact noRets_ok b h.2 δ m1
    | _ => rfl
  | .whl _ b, h, δ, m => by
    simp only [noRet] at h
    simp only [execS]
    exact whLoop_rt (fun σ m => noRets_ok b h σ m) _ _ _
  | .frsI _ _ b, h, δ, m => by cases h
  | .frs _ _ b, h, δ, m => by
    simp only [noRet] at h
    simp only [execS]
    exact toS_rt fun p m1 => frLoop_rt (fun σ m => noRets_ok b h σ m) _ _ _
  | .brk, _, _, _ => rfl
  | .cnt, _, _, _ => rfl
  | .pss, _, _, _ => rfl
  | .rse _, _, _, _ => rfl
  | .try_ b c sl h, hh, δ, m => by
    simp only [noRet, Bool.and_eq_true] at hh
    simp only [execS]
    have h1 := noRets_ok (C := C) b hh.1 δ m
    cases hr : execSs C b δ m with
    | rt d m1 => rw [hr] at h1; cases h1
    | ex e σ1 m1 =>
      simp only
      split
      · split
        · cases sl with
          | none => exact noRets_ok h hh.2 _ _
          | some i =>
            simp only
            have h2 := noRets_ok (C := C) h hh.2 (σ1.set i (some (.exc e))) m1
            cases hr2 : execSs C h (σ1.set i (some (.exc e))) m1 <;> first
              | (rw [hr2] at h2; cases h2; done)
              | rfl
        · rfl
      · rfl
    | _ => rfl
  | .setI _ _ _, _, δ, m => by
    simp only [execS]
    exact toS_rt fun _ _ => toS_rt fun _ _ => toS_rt fun _ _ => by split <;> rfl
  | .setF _ _ _, _, δ, m => by
    simp only [execS]
    refine toS_rt fun _ _ => toS_rt fun x _ => ?_
    cases x with
    | ref n => simp only; split <;> first | rfl | (split <;> rfl)
    | _ => rfl
  | .ndef _ _ _, _, δ, m => by
    simp only [execS]
    split <;> rfl
  | .cal b, h, δ, m => by
    simp only [noRet] at h
    simp only [execS]
    have hh := noRets_ok (C := C) b h δ m
    cases hr : execSs C b δ m with
    | rt d m1 => rw [hr] at hh; cases hh
    | _ => rfl
theorem noRets_ok {C : Ctx} : ∀ (s : Ss), noRets s = true → ∀ δ m, isRt (execSs C s δ m) = false
  | .nil, _, _, _ => rfl
  | .cons s r, h, δ, m => by
    simp only [noRets, Bool.and_eq_true] at h
    simp only [execSs]
    have h1 := noRet_ok (C := C) s h.1 δ m
    cases hr : execS C s δ m with
    | nx σ' m' => exact noRets_ok r h.2 σ' m'
    | rt d m' => rw [hr] at h1; cases h1
    | _ => rfl
end
theorem sr_cons {st : Stmt} {sts : List Stmt} {s : S} {ss : Ss} (h1 : PS X st (rdS G X.K W (execS C s))) (h2 : PSR X sts (rdR G X.K W X (execSs C ss))) (hz : G.z = G := by rfl) (hne : noRet s = true := by rfl) : PSR X (st :: sts) (rdR G X.K W X (execSs C (.cons s ss))) := by
  refine ⟨fun pins s0 σ H D I ⟨as, m, δ, R, S, o⟩ => ?_⟩
  have o : OutR G X.K W X D as H ((execS C s δ m).seq fun σ' m' => execSs C ss σ' m') := o
  refine wpAny_execs_cons (thn (h1.run pins s0 σ H { nx := fun σ' H' => rdR G X.K W X (execSs C ss) D σ' H', rt := fun _ _ => False, bk := fun _ _ => False, ct := fun _ _ => False } I ⟨as, m, δ, R, S, ?_⟩) fun fl s1 q => ?_)
  · have hn := noRet_ok (C := C) s hne δ m
    cases hr : execS C s δ m with
    | nx δ1 m1 => rw [hr] at o; exact fun as1 H1 σ1 R1 g1 S1 => ⟨as1, m1, δ1, R1, S1, OutR.later o g1⟩
    | rt d m1 => rw [hr] at hn; cases hn
    | ex c δ1 m1 =>
      rw [hr] at o
      exact fun as1 H1 σ1 R1 g1 S1 => o as1 H1 σ1 (by rw [hz]; exact R1) g1
    | bk δ1 m1 => rw [hr] at o; exact o.elim
    | ct δ1 m1 => rw [hr] at o; exact o.elim
    | no => rw [hr] at o; exact o.elim
  · cases fl with
    | next =>
      obtain ⟨σ', H', I', q⟩ := q
      exact h2.run pins s1 σ' H' D I' q
    | ret v => obtain ⟨_, _, _, _, _, z⟩ := q; exact z.elim
    | brk => obtain ⟨_, _, _, z⟩ := q; exact z.elim
    | cont => obtain ⟨_, _, _, z⟩ := q; exact z.elim
theorem sr_ndef {st : Stmt} {sts : List Stmt} {ss : Ss} {i f : Nat} {cs : List Nat} (h1 : PS X st (rdS G X.K W (execS C (.ndef i f cs)))) (h2 : PSR X sts (rdR G X.K W X (execSs C ss))) : PSR X (st :: sts) (rdR G X.K W X (execSs C (.cons (.ndef i f cs) ss))) := by
  refine ⟨fun pins s0 σ H D I ⟨as, m, δ, R, S, o⟩ => ?_⟩
  have o : OutR G X.K W X D as H ((execS C (.ndef i f cs) δ m).seq fun σ' m' => execSs C ss σ' m') := o
  refine wpAny_execs_cons (thn (h1.run pins s0 σ H { nx := fun σ' H' => rdR G X.K W X (execSs C ss) D σ' H', rt := fun _ _ => False, bk := fun _ _ => False, ct := fun _ _ => False } I ⟨as, m, δ, R, S, ?_⟩) fun fl s1 q => ?_)
  · simp only [execS] at o ⊢
    cases hr : cs.mapM fun j => (δ[j]?).join with
    | some ds => rw [hr] at o; exact fun as1 H1 σ1 R1 g1 S1 => ⟨as1, m, _, R1, S1, OutR.later o g1⟩
    | none => rw [hr] at o; exact o.elim
  · cases fl with
    | next =>
      obtain ⟨σ', H', I', q⟩ := q
      exact h2.run pins s1 σ' H' D I' q
    | ret v => obtain ⟨_, _, _, _, _, z⟩ := q; exact z.elim
    | brk => obtain ⟨_, _, _, z⟩ := q; exact z.elim
    | cont => obtain ⟨_, _, _, z⟩ := q; exact z.elim
theorem mk_noex {f : Nat → List FS.D → Mem → Res FS.D} {c : Nat} {ds : List FS.D} {k : Nat} {m m' : Mem} : FS.mk P f c ds m ≠ .ex k m' := by
  unfold FS.mk
  split
  · split <;> simp
  · rename_i g _
    cases f g ds m <;> simp [Res.calm]
  · rename_i g _
    cases f g (.ref m.length :: ds) (m ++ [.obj c []]) <;> simp [Res.calm, Res.bind]
    split <;> simp
  · simp
def varsE : Es → Bool
  | .nil => true
  | .cons (.var _) l => varsE l
  | _ => false
theorem vars_noex {C : Ctx} : ∀ {l : Es}, varsE l = true → ∀ {δ : Sto} {m : Mem} {k : Nat} {m' : Mem}, evalEs C l δ m ≠ .ex k m'
  | .nil, _, _, _, _, _ => by simp [evalEs]
  | .cons (.var i) l, h, δ, m, k, m' => by
    simp only [evalEs, evalE]
    cases δ[i]? with
    | none => simp [Res.bind]
    | some od =>
      cases od with
      | none => simp [Res.bind]
      | some d =>
        simp only [Res.bind]
        have := fun k m' => vars_noex (C := C) (l := l) h (δ := δ) (m := m) (k := k) (m' := m')
        cases hr : evalEs C l δ m with
        | ok ds m1 => simp
        | ex c m1 => exact absurd hr (this c m1)
        | no => simp
theorem sr_ret (E0 : EnvO G P n X W C) {l : Es} (ha : PE X e (rdE G X.K W (evalE C (.make ci l)))) (hv : varsE l = true := by rfl) : PSR X [.Return (some e) pos] (rdR G X.K W X (execSs C (.cons (.ret (.make ci l)) .nil))) := by
  refine ⟨fun pins s0 σ H D I ⟨as, m, δ, R, S, o⟩ => ?_⟩
  refine wpAny_execs_cons (wpAny_Return_some (thn (ha.run pins s0 σ H (fun v H' => D v σ H') I ⟨as, m, δ, R, S, ?_⟩) fun u s1 ⟨v, H1, I1, r1, q1⟩ => ⟨v, σ, H1, I1, r1, q1⟩))
  have o : OutR G X.K W X D as H (((evalE C (.make ci l) δ m).toS δ fun d m1 => .rt d m1).seq fun σ' m' => .nx σ' m') := o
  cases hr : evalE C (.make ci l) δ m with
  | no => rw [hr] at o; exact o.elim
  | ex c m1 =>
    simp only [evalE] at hr
    cases h1 : evalEs C l δ m with
    | ok ds m2 => rw [h1] at hr; rw [E0.make] at hr; exact absurd hr mk_noex
    | ex c2 m2 => exact absurd h1 (vars_noex hv)
    | no => rw [h1] at hr; cases hr
  | ok d m1 =>
    rw [hr] at o
    intro as1 H1 R1 g1 v rv
    have e : G.ow G.own G.sl = G := rfl
    exact o G.own G.sl as1 H1 v σ ⟨E0.cel, fun j c v h => (S.own j c v h).1⟩ (by rw [e]; exact R1) g1 (by rw [e]; exact rv)
theorem sr_own {sts : List Stmt} {f : Sto → Mem → SR} {own : List (Nat × Addr × V)} {sl : Nat → Bool} (js : List Nat) (sl' : Nat → Bool) (hfn : X.fn = fun _ => true) (hcell : ∀ j ∈ js, ∃ x, X.N[j]? = some x ∧ X.env.scope.names.lookup x = some .cell) (hsl' : ∀ j, sl j = true ∨ j ∈ js → sl' j = true)
    (hc0 : CelOk X own)
    (h : ∀ own', CelOk X own' → (∀ j ∈ js, ∃ c v, (j, c, v) ∈ own') → (∀ p ∈ own, p ∈ own') → PSR X sts (rdR (G.ow own' sl') X.K W X f)) (hne : ∀ δ m, (∃ j ∈ js, ∀ d, δ[j]? ≠ some (some d)) → f δ m = .no) : PSR X sts (rdR (G.ow own sl) X.K W X f) := by
  refine ⟨fun pins s0 σ H D I ⟨as, m, δ, R, S, o⟩ => ?_⟩
  by_cases hall : ∀ j ∈ js, ∃ d, δ[j]? = some (some d)
  · have hσ : ∀ j ∈ js, ∃ c v, σ[j]? = some (some v) ∧ c ∉ X.fs ∧ X.base.get? c = none ∧ ∃ x, X.N[j]? = some x ∧ X.env.cells.lookup x = some c ∧ (X.env.scope.names.lookup x = some .cell ∨ X.env.scope.names.lookup x = some .free) := fun j hj => by
      obtain ⟨d, hd⟩ := hall j hj
      obtain ⟨v, hv, _⟩ := S.at_ j d hd
      obtain ⟨x, hx, hk⟩ := hcell j hj
      obtain ⟨c, hc⟩ := I.ok.has x (.inl hk)
      have hge := I.ok.cab x c (by rw [hfn]) hc
      refine ⟨c, v, hv, fun hm => ?_, ?_, x, hx, hc, .inl hk⟩
      · obtain ⟨_, ob, ho, _⟩ := I.ok.funs.mem hm
        exact absurd (Heap.lt_size ho) (Nat.not_lt.mpr hge)
      · cases q : X.base.get? c with
        | none => rfl
        | some ob => exact absurd (Heap.lt_size (I.ok.bs c ob q).1) (Nat.not_lt.mpr hge)
    classical
    let nw : List (Nat × Addr × V) := js.attach.map fun j => (j.1, Classical.choose (hσ j.1 j.2), Classical.choose (Classical.choose_spec (hσ j.1 j.2)))
    have hnw : ∀ j c v, (j, c, v) ∈ nw → j ∈ js ∧ σ[j]? = some (some v) ∧ c ∉ X.fs ∧ X.base.get? c = none ∧ ∃ x, X.N[j]? = some x ∧ X.env.cells.lookup x = some c ∧ (X.env.scope.names.lookup x = some .cell ∨ X.env.scope.names.lookup x = some .free) := fun j c v hm => by
      obtain ⟨j', _, e⟩ := List.mem_map.mp hm
      cases e
      exact ⟨j'.2, Classical.choose_spec (Classical.choose_spec (hσ j'.1 j'.2))⟩
    have hin : ∀ j ∈ js, ∃ c v, (j, c, v) ∈ nw := fun j hj => ⟨_, _, List.mem_map.mpr ⟨⟨j, hj⟩, List.mem_attach _ _, rfl⟩⟩
    have hcel : CelOk X (own ++ nw) := fun j c v hm => by
      rcases List.mem_append.mp hm with hm | hm
      · exact hc0 j c v hm
      · exact (hnw j c v hm).2.2
    have tr : Tr G own (own ++ nw) sl sl' as H H := ⟨fun _ _ e _ => e, fun c v hc => by
      rcases hc with z | ⟨j, z⟩
      · exact .inl z
      · exact .inr ⟨j, List.mem_append_left _ z⟩⟩
    refine (h (own ++ nw) hcel (fun j hj => by
      obtain ⟨c, v, z⟩ := hin j hj
      exact ⟨c, v, List.mem_append_right _ z⟩) fun p hp => List.mem_append_left _ hp).run pins s0 σ H D I ⟨as, m, δ, R.tr tr, ⟨S.len, fun i d hi => ?_, fun j c v hm => ?_⟩, o⟩
    · obtain ⟨v, h1, h2⟩ := S.at_ i d hi
      exact ⟨v, h1, h2.tr tr⟩
    · rcases List.mem_append.mp hm with hm | hm
      · exact ⟨(S.own j c v hm).1, hsl' j (.inl (S.own j c v hm).2)⟩
      · exact ⟨(hnw j c v hm).2.1, hsl' j (.inr (hnw j c v hm).1)⟩
  · have : f δ m = .no := hne δ m (by
      obtain ⟨j, hj⟩ := Classical.not_forall.mp hall
      obtain ⟨hj, hn⟩ := Classical.not_imp.mp hj
      exact ⟨j, hj, fun d hd => hn ⟨d, hd⟩⟩)
    rw [this] at o
    exact o.elim
end
end FS
namespace FS
open PySem L2 LamX NdefX
section
variable {X : Cx} {pins : List (Addr × Obj)} {σ : L2.St} {H : Hp} {s : Shared}
end
section
variable {G : Gam} {P : Prog} {n : Nat} {X : Cx} {W : WX} {C : Ctx}
end
structure EndsQ where
  nx : L2.St → Hp → Prop
  rt : V → L2.St → Hp → Prop
  bk : L2.St → Hp → Prop
  ct : L2.St → Hp → Prop
abbrev TSQ := EndsQ → L2.St → Hp → Prop
def SPQ (X : Cx) (pins : List (Addr × Obj)) (D : EndsQ) (fl : Flow) (s' : Shared) : Prop := match fl with
  | .next => ∃ σ' H', Inv X pins σ' H' s' ∧ D.nx σ' H'
  | .ret u => ∃ v σ' H', Inv X pins σ' H' s' ∧ RelV v u ∧ D.rt v σ' H'
  | .brk => ∃ σ' H', Inv X pins σ' H' s' ∧ D.bk σ' H'
  | .cont => ∃ σ' H', Inv X pins σ' H' s' ∧ D.ct σ' H'
structure PSQ (X : Cx) (st : Stmt) (t : TSQ) : Prop where
  run : ∀ (pins : List (Addr × Obj)) (s : Shared) (σ : L2.St) (H : Hp) (D : EndsQ), Inv X pins σ H s → t D σ H → wpAny (model X.prog X.w) X.A (exec st X.env) (SPQ X pins D) X.xe s
structure PSsQ (X : Cx) (st : List Stmt) (t : TSQ) : Prop where
  run : ∀ (pins : List (Addr × Obj)) (s : Shared) (σ : L2.St) (H : Hp) (D : EndsQ), Inv X pins σ H s → t D σ H → wpAny (model X.prog X.w) X.A (execs st X.env) (SPQ X pins D) X.xe s
def OutQ (G : Gam) (K : PySem.W.Frag) (Z : EndsQ) (as : List Addr) (H : Hp) (r : SR) : Prop := match r with
  | .nx δ m => ∀ as' H' σ', Rel G K as' m H' → Grow as H as' H' → St2 G K as' H' δ σ' → Z.nx σ' H'
  | .rt d m => ∀ as' H' v σ', Rel G K as' m H' → Grow as H as' H' → Rep G K as' H' d v → (∀ j c w, (j, c, w) ∈ G.own → σ'[j]? = some (some w)) → Z.rt v σ' H'
  | .bk δ m => ∀ as' H' σ', Rel G K as' m H' → Grow as H as' H' → St2 G K as' H' δ σ' → Z.bk σ' H'
  | .ct δ m => ∀ as' H' σ', Rel G K as' m H' → Grow as H as' H' → St2 G K as' H' δ σ' → Z.ct σ' H'
  | _ => False
def rdQ (G : Gam) (K : PySem.W.Frag) (f : Sto → Mem → SR) : TSQ := fun Z σ H => ∃ as m δ, Rel G K as m H ∧ St2 G K as H δ σ ∧ OutQ G K Z as H (f δ m)
section
variable {G : Gam} {P : Prog} {n : Nat} {X : Cx} {W : WX} {C : Ctx} {e a b c : Expr} {pos : Pos} {m : Mem} {as as' : List Addr} {H H' : Hp} {σ : L2.St} {δ : Sto} {K : PySem.W.Frag} {ea ec : E} {Z : EndsQ} {r : SR} {st : Stmt} {sts : List Stmt} {s : S} {ss : Ss}
theorem OutQ.later (h : OutQ G K Z as H r) (g : Grow as H as' H') : OutQ G K Z as' H' r := by
  cases r with
  | no => exact h
  | ex c δ m => exact h
  | rt d m => exact fun as1 H1 v σ' R1 g1 r1 ho => h as1 H1 v σ' R1 (g.trans g1) r1 ho
  | nx δ m => exact fun as1 H1 σ1 R1 g1 S1 => h as1 H1 σ1 R1 (g.trans g1) S1
  | bk δ m => exact fun as1 H1 σ1 R1 g1 S1 => h as1 H1 σ1 R1 (g.trans g1) S1
  | ct δ m => exact fun as1 H1 σ1 R1 g1 S1 => h as1 H1 σ1 R1 (g.trans g1) S1
theorem OutQ.toS {r : Res FS.D} {f : FS.D → Mem → SR} (o : OutQ G K Z as H (r.toS δ f)) : Out G K (fun _ _ => False) as H r fun d as' m' H' => OutQ G K Z as' H' (f d m') := by
  cases r with
  | no => exact o
  | ex c m1 => exact (show False from o).elim
  | ok d m1 => exact fun as1 H1 R1 g1 => OutQ.later (show OutQ G K Z as H (f d m1) from o) g1
theorem OutQ.toSI {α : Type} {r : Res α} {f : α → Mem → SR} (o : OutQ G K Z as H (r.toS δ f)) : Out G K (fun _ _ => False) as H r fun d as' m' H' => OutQ G K Z as' H' (f d m') := by
  cases r with
  | no => exact o
  | ex c m1 => exact (show False from o).elim
  | ok d m1 => exact fun as1 H1 R1 g1 => OutQ.later (show OutQ G K Z as H (f d m1) from o) g1
theorem psq_of (h : PS X st (rdS G X.K W0 (execS C s))) (hne : noRet s = true := by rfl) : PSQ X st (rdQ G X.K (execS C s)) := by
  refine ⟨fun pins s0 σ H D I ⟨as, m, δ, R, S, o⟩ => thn (h.run pins s0 σ H { nx := D.nx, rt := fun _ _ => False, bk := D.bk, ct := D.ct } I ⟨as, m, δ, R, S, ?_⟩) fun fl s1 q => ?_⟩
  · have hn := noRet_ok (C := C) s hne δ m
    cases hr : execS C s δ m with
    | nx δ1 m1 => rw [hr] at o; exact o
    | rt d m1 => rw [hr] at hn; cases hn
    | ex c δ1 m1 => rw [hr] at o; exact (show False from o).elim
    | bk δ1 m1 => rw [hr] at o; exact o
    | ct δ1 m1 => rw [hr] at o; exact o
    | no => rw [hr] at o; exact o
  · cases fl with
    | next => exact q
    | ret v => obtain ⟨_, _, _, _, _, z⟩ := q; exact z.elim
    | brk => exact q
    | cont => exact q
theorem psq_ret (ha : PE X e (rdE G X.K W0 (evalE C ea))) : PSQ X (.Return (some e) pos) (rdQ G X.K (execS C (.ret ea))) := by
  refine ⟨fun pins s0 σ H D I ⟨as, m, δ, R, S, o⟩ => wpAny_Return_some (thn (ha.run pins s0 σ H (fun v H' => D.rt v σ H') I ⟨as, m, δ, R, S, ?_⟩) fun u s1 ⟨v, H1, I1, r1, q1⟩ => ⟨v, σ, H1, I1, r1, q1⟩)⟩
  simp only [execS] at o
  exact (OutQ.toS o).imp fun d as1 m1 H1 R1 g1 o1 v r => o1 as1 H1 v σ R1 Grow.refl r fun j c w h => (S.own j c w h).1
theorem pssq_nil : PSsQ X [] (rdQ G X.K (execSs C .nil)) := ⟨fun pins s0 σ H D I ⟨as, m, δ, R, S, o⟩ => wpAny_execs_nil ⟨σ, H, I, o as H σ R Grow.refl S⟩⟩
theorem pssq_cons (h1 : PSQ X st (rdQ G X.K (execS C s))) (h2 : PSsQ X sts (rdQ G X.K (execSs C ss))) : PSsQ X (st :: sts) (rdQ G X.K (execSs C (.cons s ss))) := by
  refine ⟨fun pins s0 σ H D I ⟨as, m, δ, R, S, o⟩ => ?_⟩
  have o : OutQ G X.K D as H ((execS C s δ m).seq fun σ' m' => execSs C ss σ' m') := o
  refine wpAny_execs_cons (thn (h1.run pins s0 σ H { D with nx := fun σ' H' => rdQ G X.K (execSs C ss) D σ' H' } I ⟨as, m, δ, R, S, ?_⟩) fun fl s1 q => ?_)
  · cases hr : execS C s δ m with
    | nx δ1 m1 => rw [hr] at o; exact fun as1 H1 σ1 R1 g1 S1 => ⟨as1, m1, δ1, R1, S1, OutQ.later (show OutQ G X.K D as H (execSs C ss δ1 m1) from o) g1⟩
    | _ => rw [hr] at o; exact o
  · cases fl with
    | next =>
      obtain ⟨σ', H', I', q⟩ := q
      exact h2.run pins s1 σ' H' D I' q
    | ret v => exact q
    | brk => exact q
    | cont => exact q
theorem psq_if {p q : List Stmt} {sp sq : Ss} (hc : PT X c (rdT G X.K W0 (evalE C ec))) (ha : PSsQ X p (rdQ G X.K (execSs C sp))) (hb : PSsQ X q (rdQ G X.K (execSs C sq))) : PSQ X (.If c p q pos) (rdQ G X.K (execS C (.ifs ec sp sq))) := by
  refine ⟨fun pins s0 σ H D I ⟨as, m, δ, R, S, o⟩ => ?_⟩
  simp only [execS] at o
  refine wpAny_If (thn (hc.run pins s0 σ H (fun k H1 => rdQ G X.K (fun δ m => if k then execSs C sp δ m else execSs C sq δ m) D σ H1) I ⟨as, m, δ, R, S, (OutQ.toS o).imp fun d as1 m1 H1 R1 g1 o1 => ?_⟩) fun d s1 ⟨H1, I1, q1⟩ => ?_)
  · cases d <;> first
      | exact (show False from o1).elim
      | skip
    rename_i k
    refine ⟨k, rfl, as1, m1, δ, R1, S.grow g1, ?_⟩
    cases k with
    | true => exact o1
    | false => exact o1
  · cases d with
    | true => exact ha.run pins s1 σ H1 D I1 q1
    | false => exact hb.run pins s1 σ H1 D I1 q1
def tForQ (wi : TI) (g : TG) (tb : TSQ) : TSQ := fun D σ H => wi σ H fun J H1 => ∃ W : Nat → Nat → L2.St → Hp → Prop, (∃ m, W 0 m σ H1) ∧ ∀ i m σ H, W i m σ H →
  (J.stop i H ∧ D.nx σ H) ∨ (J.go i H ∧ ∃ N : L2.St → Hp → Prop, (∀ σ' H', N σ' H' → ∃ m', m' < m ∧ W (i + 1) m' σ' H') ∧ ∀ x H', J.yld i H x H' → g x σ H' fun σ2 H2 => tb { D with nx := N, ct := N, bk := D.nx } σ2 H2)
theorem psq_for0 {tg iter : Expr} {body : List Stmt} {wi : TI} {g : TG} {tb : TSQ} (hp : PassesOwn (model X.prog X.w) X.A X.env X.xe) (hc : X.calm = true) (hi : PI X tg iter wi) (hg : PG X tg g) (hb : PSsQ X body tb)
    (hs : ∀ x, foldedSetIterable iter X.env x = pure x) : PSQ X (.For tg iter body [] pos) (tForQ wi g tb) := by
  refine ⟨fun pins s σ H D I h => ?_⟩
  refine wpAny_For (thn (hi.run pins s σ H _ I h) fun v s1 h1 => thn h1 fun itv s2 h2 => ?_) hs
  obtain ⟨it, fp, tn, J, H2, e, I2, T, st2, f2, W, ⟨m0, w0⟩, turn⟩ := h2
  subst e
  have stat : ∀ {H' : Hp}, (∀ b ∈ fp, H' b = none) → ∀ b ∈ fp, FpOk X pins H' b := fun hn b hb => ⟨hn b hb, (f2 b hb).2⟩
  refine codeAny_forLoop_any (fun n s' => ∃ i σ' H', Inv X pins σ' H' s' ∧ tn i s'.heap ∧ (∀ b ∈ fp, H' b = none) ∧ W i n σ' H') ?_ m0 ⟨0, σ, H2, I2, st2, fun b hb => (f2 b hb).1, w0⟩
  rintro n s3 ⟨i, σ3, H3, I3, st3, fr3, w3⟩
  rcases turn i n σ3 H3 w3 with ⟨stop, qn⟩ | ⟨go, N, hN, step⟩
  · refine wpAny_passesOwn hp (thn (T.done X rfl rfl rfl hc i pins s3 σ3 H3 X.xe I3 (stat fr3) st3 stop) fun r s4 ⟨hr, I4⟩ => ?_)
    subst hr
    exact wpAny_execs_nil ⟨σ3, H3, I4, qn⟩
  · refine wpAny_passesOwn hp (thn (T.item X rfl rfl rfl hc i pins s3 σ3 H3 X.xe I3 (stat fr3) st3 go) fun r s4 ⟨u, hr, h4⟩ => ?_)
    subst hr
    refine wpAny_passesOwn hp (thn h4 fun _ s5 ⟨x, H5, I5, r5, y5, st5, fr5⟩ => ?_)
    have I5' := I5.pinned (stat fr5) (T.obj _ _ st5)
    refine wpAny_passesOwn hp (thn (hg.run _ s5 σ3 H5 x u _ I5' r5 (step x H5 y5)) fun _ s6 ⟨σ6, H6, I6, q6⟩ => ?_)
    refine wpAny_passesOwn hp (thn (hb.run _ s6 σ6 H6 _ I6 q6) fun f s7 q7 => ?_)
    have again : ∀ {σ7 : L2.St} {H7 : Hp}, Inv X (pins ++ pinsAt fp s5.heap) σ7 H7 s7 → N σ7 H7 → ∃ m, m < n ∧ ∃ i σ' H', Inv X pins σ' H' s7 ∧ tn i s7.heap ∧ (∀ b ∈ fp, H' b = none) ∧ W i m σ' H' := fun {σ7 H7} I7 n7 => by
      obtain ⟨m', hm, w7⟩ := hN σ7 H7 n7
      refine ⟨m', hm, i + 1, σ7, H7, I7.unpinned, T.keep _ _ _ st5 fun b hb o e => (I7.pin (b, o) (List.mem_append_right _ (List.mem_append_right _ (mem_pinsAt hb e)))).1, fun b hb => ?_, w7⟩
      obtain ⟨o, e, d⟩ := T.obj _ _ st5 b hb
      exact (I7.pin (b, o) (List.mem_append_right _ (List.mem_append_right _ (mem_pinsAt hb e)))).2.1
    cases f with
    | next => obtain ⟨σ7, H7, I7, n7⟩ := q7; exact again I7 n7
    | cont => obtain ⟨σ7, H7, I7, n7⟩ := q7; exact again I7 n7
    | brk => obtain ⟨σ7, H7, I7, q7⟩ := q7; exact ⟨σ7, H7, I7.unpinned, q7⟩
    | ret v => obtain ⟨x7, σ7, H7, I7, r7, q7⟩ := q7; exact ⟨x7, σ7, H7, I7.unpinned, r7, q7⟩
theorem psq_imp {t t' : TSQ} (h : PSQ X st t) (hi : ∀ D σ H, t' D σ H → t D σ H) : PSQ X st t' := ⟨fun pins s σ H D I q => h.run pins s σ H D I (hi _ _ _ q)⟩
theorem psq_for {tg iter : Expr} {t : Tg} {body : List Stmt} {it : It} {sb : Ss} (hp : PassesOwn (model X.prog X.w) X.A X.env X.xe) (hc : X.calm = true) (hi : PI X tg iter (rdI G X.K W0 (evalI C it))) (hg : PG X tg (gB G X.K t)) (hb : PSsQ X body (rdQ G X.K (execSs C sb)))
    (hs : ∀ x, foldedSetIterable iter X.env x = pure x := by intro _; rfl) : PSQ X (.For tg iter body [] pos) (rdQ G X.K (execS C (.frs t it sb))) :=
  psq_imp (psq_for0 hp hc hi hg hb hs) fun Z σ H ⟨as, m, δ, R, S, o⟩ => ⟨as, m, δ, R, S, (OutQ.toSI (show OutQ G X.K Z as H ((evalI C it δ m).toS δ fun p m1 => frLoop p.2 t (execSs C sb) p.1 δ m1) from o)).imp fun p as1 m1 H1 R1 g1 o1 J hJ => by
    obtain ⟨ds, gd⟩ := p
    refine ⟨fun i k σ H => k = ds.length - i ∧ i ≤ ds.length ∧ ∃ as m δ, Rel G X.K as m H ∧ St2 G X.K as H δ σ ∧ Grow as1 H1 as H ∧ OutQ G X.K Z as H (frLoop gd t (execSs C sb) (ds.drop i) δ m), ⟨ds.length, rfl, Nat.zero_le _, as1, m1, δ, R1, S.grow g1, Grow.refl, o1⟩, ?_⟩
    rintro i k σ H ⟨rfl, hle, as, m, δ, R, S, g, o⟩
    by_cases hlt : i < ds.length
    · obtain ⟨d, hd, e⟩ := drop_at hlt
      rw [e] at o
      simp only [frLoop] at o
      split at o
      · rename_i hgd
        obtain ⟨hgo, hy⟩ := (hJ i as m H R g hgd).2 d hd
        refine .inr ⟨hgo, fun σ' H' => ∃ as m δ, Rel G X.K as m H' ∧ St2 G X.K as H' δ σ' ∧ Grow as1 H1 as H' ∧ OutQ G X.K Z as H' (frLoop gd t (execSs C sb) (ds.drop (i + 1)) δ m), fun σ' H' w => ⟨ds.length - (i + 1), by omega, rfl, hlt, w⟩, fun x H' y => ?_⟩
        obtain ⟨R', g', rx⟩ := hy x H' y
        cases hbd : bindT m t d δ with
        | none => rw [hbd] at o; exact o.elim
        | some δ' =>
          rw [hbd] at o
          refine ⟨as, m, δ, d, δ', R', S.grow g', rx, hbd, fun σ' S' _ => ⟨as, m, δ', R', S', ?_⟩⟩
          have o := OutQ.later o g'
          simp only at o
          cases hr : execSs C sb δ' m with
          | nx δ2 m2 => rw [hr] at o; exact fun as2 H2 σ2 R2 g2 S2 => ⟨as2, m2, δ2, R2, S2, (g.trans g').trans g2, OutQ.later o g2⟩
          | ct δ2 m2 => rw [hr] at o; exact fun as2 H2 σ2 R2 g2 S2 => ⟨as2, m2, δ2, R2, S2, (g.trans g').trans g2, OutQ.later o g2⟩
          | bk δ2 m2 => rw [hr] at o; exact o
          | rt d m2 => rw [hr] at o; exact o
          | ex c δ2 m2 => rw [hr] at o; exact o
          | no => rw [hr] at o; exact o
      · exact o.elim
    · have e : i = ds.length := by omega
      subst e
      rw [List.drop_length] at o
      simp only [frLoop] at o
      split at o
      · rename_i hgd
        exact .inl ⟨(hJ _ as m H R g hgd).1 rfl, o as H σ R Grow.refl S⟩
      · exact o.elim⟩
theorem sr_cal {own : List (Nat × Addr × V)} {sl : Nat → Bool} (hc : CelOk X own) (h : PSsQ X sts (rdQ (G.ow own sl) X.K (execSs C ss))) : PSR X sts (rdR (G.ow own sl) X.K W X (execSs C (.cons (.cal ss) .nil))) := by
  refine ⟨fun pins s0 σ H D I ⟨as, m, δ, R, S, o⟩ => ?_⟩
  have o : OutR (G.ow own sl) X.K W X D as H ((execSs C ss δ m).cal.seq fun σ' m' => .nx σ' m') := o
  refine thn (h.run pins s0 σ H { nx := fun _ _ => False, rt := D, bk := fun _ _ => False, ct := fun _ _ => False } I ⟨as, m, δ, R, S, ?_⟩) fun fl s1 q => ?_
  · cases hr : execSs C ss δ m with
    | rt d m1 => rw [hr] at o; exact fun as1 H1 v σ' R1 g1 r1 ho => o own sl as1 H1 v σ' ⟨hc, ho⟩ R1 g1 r1
    | nx δ1 m1 => rw [hr] at o; exact (show False from o).elim
    | ex c δ1 m1 => rw [hr] at o; exact (show False from o).elim
    | bk δ1 m1 => rw [hr] at o; exact (show False from o).elim
    | ct δ1 m1 => rw [hr] at o; exact (show False from o).elim
    | no => rw [hr] at o; exact (show False from o).elim
  · cases fl with
    | next => obtain ⟨_, _, _, z⟩ := q; exact z.elim
    | ret u => exact q
    | brk => obtain ⟨_, _, _, z⟩ := q; exact z.elim
    | cont => obtain ⟨_, _, _, z⟩ := q; exact z.elim
theorem EnvO.w0 (E0 : EnvO G P n X W C) : EnvO G P n X W0 C := ⟨E0.st, E0.room, E0.calm, LamX.takes0, E0.hC, E0.kn, E0.kn1, E0.own, E0.cel⟩
end
end FS
namespace FS
open PySem L2
section
open PySem.Spec PyProof.Rows
variable {P : Program} {w : World} {K : PySem.W.Frag} {mg : Str → Option Value} {base : Heap}
def Fil (own : List (Nat × Addr × V)) (H' H'' : Hp) : Prop := (∀ b x, H' b = some x → H'' b = some x) ∧ (∀ b, H'' b ≠ none → H' b ≠ none ∨ ∃ j v, (j, b, v) ∈ own) ∧ ∀ j c v, (j, c, v) ∈ own → H' c = none ∧ ∃ o u, H'' c = some (CelO o) ∧ o.data = .cell (some u) ∧ RelV v u
theorem fil_ok {X : Cx} {pins : List (Addr × Obj)} {σ : L2.St} {H : Hp} {s : Shared} {own : List (Nat × Addr × V)} (I : Inv X pins σ H s) (ho : OwnSt X own σ) : Fil own H (callH s.heap own [] H) ∧ HOk X.prog X.w (callH s.heap own [] H) s.heap ∧ ∀ j c v, (j, c, v) ∈ own → c ∉ X.fs := by
  have w1 : ∀ j c v, (j, c, v) ∈ own → H c = none ∧ Holds s.heap c v ∧ c ∉ frs X.stack := fun j c v h => own_at I ho.1 h (ho.2 j c v h)
  have k1 : ∀ {b}, (∃ j v, (j, b, v) ∈ own) → callH s.heap own [] H b = (s.heap.get? b).map CelO := fun {b} h => by
    unfold callH; rw [if_neg (by rintro ⟨_, _, z⟩; cases z), if_pos h]
  have k0 : ∀ {b}, ¬ (∃ j v, (j, b, v) ∈ own) → callH s.heap own [] H b = H b := fun {b} h => by
    unfold callH; rw [if_neg (by rintro ⟨_, _, z⟩; cases z), if_neg h]
  have rt : RT s.heap (frs X.stack) H (callH s.heap own [] H) := ⟨fun b => by
    by_cases q : ∃ j v, (j, b, v) ∈ own
    · obtain ⟨j, v, hj⟩ := q
      obtain ⟨a1, ⟨o, u, ho, _⟩, nf⟩ := w1 j b v hj
      exact .inr ⟨nf, o, ho, .inl ⟨a1, by rw [k1 ⟨j, v, hj⟩, ho]; rfl⟩⟩
    · exact .inl (k0 q).symm⟩
  refine ⟨⟨fun b x e => ?_, fun b hb => ?_, fun j c v h => ?_⟩, rt.hok I.hok, fun j c v h => (ho.1 j c v h).1⟩
  · by_cases q : ∃ j v, (j, b, v) ∈ own
    · obtain ⟨j, v, hj⟩ := q
      rw [(w1 j b v hj).1] at e; cases e
    · rw [k0 q]; exact e
  · by_cases q : ∃ j v, (j, b, v) ∈ own
    · exact .inr q
    · rw [k0 q] at hb; exact .inl hb
  · obtain ⟨a1, ⟨o, u, h1, h2, h3⟩, _⟩ := w1 j c v h
    exact ⟨a1, o, u, by rw [k1 ⟨j, v, h⟩, h1]; rfl, h2, h3⟩
theorem fn_ofR {CX : CXT} {k : Nat} {f : Addr} {name qual : Str} {params : Arguments} {body : List Stmt} {scope : Scope} {dV kV doc pm cdv ct oc : Value} {an od : Option Addr}
    {osl : Array (Option Value)} {N ps : List Str} {sp : Sp} (lk : K.lookup f = some ⟨oc, od, .func (PySem.W.fnOf name qual params body scope dV kV doc pm an cdv ct), osl⟩) (hcd : PySem.W.codeIn K cdv qual = true) (S : FnScope N ps scope)
    (len : ∀ vs H Q E, sp vs H Q E → vs.length = ps.length)
    (hbody : ∀ (A : Around) (outer : List Env) (s : Shared) (H : Hp) (vs : List V) (Q : VK) (E : XK), Room k (A.deeper (envOfC qual scope s.heap.objs.size f cdv)) → sp vs H Q E →
      ∃ t, PSR (cxOf CX P w K mg base N qual scope f cdv A outer s H E) body t ∧ t (fun v σ' H' => ∃ own, OwnSt (cxOf CX P w K mg base N qual scope f cdv A outer s H E) own σ' ∧ ∀ H'', Fil own H' H'' → Q v H'') (L2.start N vs) H) :
    FnOk P w K mg base CX (k + 1) f (PySem.W.fnOf name qual params body scope dV kV doc pm an cdv ct) ps sp := by
  refine ⟨len, fun A outer s H args us vs Q E hr e0 hb r hsp => ?_⟩
  have hl := len _ _ _ _ hsp
  have KX : K.In s.heap := e0.mod.kin.keeps fun b o e => (e0.bs b o e).1
  have lim : s.heap.NoLimit := e0.mod.nolimit.keeps fun b o e => (e0.bs b o e).1
  have hkind : ∀ y ∈ ps.zip us, scope.names.lookup y.1 = some .local ∨ (scope.names.lookup y.1 = some .cell ∧ ((cellsFrom (s.heap.objs.size + 1) scope.names []).lookup y.1).isSome = true) := fun ⟨n, v⟩ hy => by
    rcases S.par n (List.of_mem_zip hy).1 with q | q
    · exact .inl q
    · exact .inr ⟨q, PySem.W.cellsFrom_some _ _ _ (.inl q)⟩
  refine codeAny_call_function hr.depth (KX _ _ lk) rfl S.co S.gen rfl (PySem.W.codeRec_of KX hcd) (hb _ _ _ _ ?_)
  refine wpAny_newFunctionEnv_cells S.kind hkind fun env he s1 x => ?_
  subst he
  refine ⟨lim.keeps x.toInCall.keep, codeAny_func ?_⟩
  obtain ⟨t, ht, hq⟩ := hbody A outer s H vs Q E (hr.deeper _) hsp
  have I : Inv (cxOf CX P w K mg base N qual scope f cdv A outer s H E) [] (L2.start N vs) H s1 := inv_start S hr.hd e0 hl r x
  refine wpAny_mono (ht.run [] s1 (L2.start N vs) H _ I hq) (fun fl s' hs => ?_) fun e s' hs => hs
  cases fl with
  | ret u =>
    obtain ⟨v, σ', H', J, rv, own, ho, q⟩ := hs
    obtain ⟨fl, hok, nf⟩ := fil_ok J ho
    have J1 : Un (frs outer) [] H H' s.heap s'.heap := J.base
    have ncel : ∀ j c v, (j, c, v) ∈ own → s.heap.objs.size ≤ c := fun j c v h => by
      obtain ⟨_, _, x, _, hx, _⟩ := ho.1 j c v h
      exact J.ok.cab x c rfl hx
    refine ⟨v, _, J.os, J.bare, ⟨J1.keep, J1.slot, fun b o e n hx => ?_, J1.there, fun b xs e => fl.1 _ _ (J1.tups b xs e), fun b o u e => fl.1 _ _ (J1.frzs b o u e), fun b ps e => ?_⟩, hok, rv, q _ fl⟩
    · cases hb : callH s'.heap own [] H' b with
      | none => rfl
      | some z =>
        rcases fl.2.1 b (by rw [hb]; simp) with q | ⟨j, v, q⟩
        · exact absurd (J1.free b o e n hx) q
        · exact absurd (Heap.lt_size e) (Nat.not_lt.mpr (ncel j b v q))
    · obtain ⟨more, z⟩ := J1.tbls b ps e
      exact ⟨more, fl.1 _ _ z⟩
  | next => exact False.elim hs
  | brk => exact False.elim hs
  | cont => exact False.elim hs
theorem _root_.L2.FunD.okR {CX : CXT} {x qual : Str} {params : Arguments} {body : List Stmt} {scope : Scope} {dvs : List V} {kws : List (Str × V)} {f : Addr} {fd : FuncData} {N ps : List Str} {k : Nat} {sp : Sp} (F : FunD K x qual params body scope dvs kws f fd) (S : FnScope N ps scope) (len : ∀ vs H Q E, sp vs H Q E → vs.length = ps.length)
    (hbody : ∀ (cdv : Value) (A : Around) (outer : List Env) (s : Shared) (H : Hp) (vs : List V) (Q : VK) (E : XK), Room k (A.deeper (envOfC qual scope s.heap.objs.size f cdv)) → sp vs H Q E → (∃ c, PySem.W.codeIn K cdv qual = true ∧ cdv = .ref c ∧ fd.code = cdv) →
      ∃ t, PSR (cxOf CX P w K mg base N qual scope f cdv A outer s H E) body t ∧ t (fun v σ' H' => ∃ own, OwnSt (cxOf CX P w K mg base N qual scope f cdv A outer s H E) own σ' ∧ ∀ H'', Fil own H' H'' → Q v H'') (L2.start N vs) H) : FnOk P w K mg base CX (k + 1) f fd ps sp := by
  obtain ⟨oc, od, dV, kV, doc, pm, an, cdv, ct, osl, rfl, lk, hcd, _, _⟩ := F.ex
  exact fn_ofR lk hcd S len fun A outer s H vs Q E hr hsp => hbody cdv A outer s H vs Q E hr hsp (by
    have hc : ∃ c, cdv = .ref c := by
      cases cdv with
      | ref c => exact ⟨c, rfl⟩
      | _ => cases hcd
    obtain ⟨c, hc⟩ := hc
    exact ⟨c, hcd, hc, rfl⟩)
theorem ck_of {k : Nat} {f : Addr} {F : NdefX.NF} {N ps fr : List Str} {sp : List (Option V) → Sp} (S : NdefX.NScope N ps fr F.scope) (hb : ∀ (doc pm ctv : Value) (us : List Value), us.length = ps.length → bindArgs (F.fd doc pm ctv) ⟨us, []⟩ = pure (ps.zip us)) (len : ∀ ws vs H Q E, sp ws vs H Q E → vs.length = ps.length)
    (hbody : ∀ (A : Around) (outer : List Env) (s : Shared) (H : Hp) (vs : List V) (ws : List (Option V)) (Q : VK) (E : XK), Room k (A.deeper (NdefX.envF F f s.heap.objs.size)) → H f = some (NdefX.FnO f F) → NdefX.CellsAt F.cl fr ws s.heap H → (∀ y c, F.cl.lookup y = some c → c ∉ frs outer ∧ base.get? c = none) → sp ws vs H Q E →
      ∃ t, PSs (NdefX.ncx (CX P w) P w K mg base N F f A outer s H E) F.body t ∧ t { nx := fun _ H' => Q .non H', rt := Q } (NdefX.startF N vs ws) H) :
    CkOk P w K mg base (k + 1) none f F ps fr sp := by
  refine ⟨len, fun A outer s H us vs ws Q E hr e0 hf hc C hx r hsp => ?_⟩
  have hl := len _ _ _ _ _ hsp
  have lim : s.heap.NoLimit := e0.mod.nolimit.keeps fun b o e => (e0.bs b o e).1
  obtain ⟨od, sl, doc, pm, ctv, ho⟩ := NdefX.fnO_at e0.hok hf
  refine codeAny_call_function hr.depth ho rfl S.co S.gen rfl (NdefX.codeO_at e0.hok hc) ?_
  rw [hb doc pm ctv us (by rw [← r.length]; exact hl)]
  refine wpAny_pure (wpAny_newFunctionEnv S.nocell (fun ⟨n, _⟩ hy => S.par n (List.of_mem_zip hy).1) (fun h₁ hns hsb => ⟨lim.fresh _ hsb, ?_⟩) S.kind)
  show codeAny _ _ (.func F.body (NdefX.envF F f s.heap.objs.size)) _ _
  refine codeAny_func ?_
  have kp : ∀ b o, s.heap.get? b = some o → h₁.get? b = some o := fun b o e => hsb.extBut b o (Nat.ne_of_lt (Heap.lt_size e)) (Heap.get?_push_of_some _ e)
  obtain ⟨t, ht, hq⟩ := hbody A outer s H vs ws Q E (hr.deeper _) hf C hx hsp
  have I : Inv (NdefX.ncx (CX P w) P w K mg base N F f A outer s H E) [] (NdefX.startF N vs ws) H { s with heap := h₁, toks := s.toks + (ps.zip us).length } := NdefX.inv_startN S hr.hd e0 hl r C hns kp
  refine wpAny_mono (ht.run [] _ (NdefX.startF N vs ws) H _ I hq) (fun fl s' hs => ?_) fun e s' hs => hs
  have fin : ∀ {σ' : L2.St} {H' : Hp} {v : V} {u : Value}, Inv (NdefX.ncx (CX P w) P w K mg base N F f A outer s H E) [] σ' H' s' → RelV v u → Q v H' → CE outer P w H s Q u s' :=
    fun {σ' H' v u} J rv q => ⟨v, H', J.os, J.bare, J.base, J.hok, rv, q⟩
  cases fl with
  | ret u =>
    obtain ⟨v, σ', H', J, rv, q⟩ := hs
    exact fin J rv q
  | next =>
    obtain ⟨σ', H', J, q⟩ := hs
    exact fin (v := V.non) (u := Value.none) J rfl q
  | brk =>
    obtain ⟨_, _, _, q⟩ := hs
    exact False.elim q
  | cont =>
    obtain ⟨_, _, _, q⟩ := hs
    exact False.elim q
theorem ck_ofL {k : Nat} {f : Addr} {F : NdefX.NF} {N ps fr : List Str} {sp : List (Option V) → Sp} {b : Expr} (S : NdefX.NScope N ps fr F.scope) (hb : ∀ (pm ctv : Value) (us : List Value), us.length = ps.length → bindArgs (PySem.W.kla_fn F.name F.qual F.params b F.scope F.cl pm (.ref F.c) ctv) ⟨us, []⟩ = pure (ps.zip us)) (len : ∀ ws vs H Q E, sp ws vs H Q E → vs.length = ps.length)
    (hbody : ∀ (A : Around) (outer : List Env) (s : Shared) (H : Hp) (vs : List V) (ws : List (Option V)) (Q : VK) (E : XK), Room k (A.deeper (NdefX.envF F f s.heap.objs.size)) → H f = some (LamO f F b) → NdefX.CellsAt F.cl fr ws s.heap H → (∀ y c, F.cl.lookup y = some c → c ∉ frs outer ∧ base.get? c = none) → sp ws vs H Q E →
      ∃ t, PE (NdefX.ncx (CX P w) P w K mg base N F f A outer s H E) b t ∧ t (NdefX.startF N vs ws) H Q) :
    CkOk P w K mg base (k + 1) (some b) f F ps fr sp := by
  refine ⟨len, fun A outer s H us vs ws Q E hr e0 hf hc C hx r hsp => ?_⟩
  have hl := len _ _ _ _ _ hsp
  have lim : s.heap.NoLimit := e0.mod.nolimit.keeps fun b o e => (e0.bs b o e).1
  obtain ⟨⟨od, sl, pm, ctv, ho⟩, _, _⟩ := e0.hok f _ hf
  refine PySem.W.kla_callFunE hr.depth ho rfl S.co S.gen rfl (NdefX.codeO_at e0.hok hc) ?_
  rw [hb pm ctv us (by rw [← r.length]; exact hl)]
  refine wpAny_pure (wpAny_newFunctionEnv S.nocell (fun ⟨n, _⟩ hy => S.par n (List.of_mem_zip hy).1) (fun h₁ hns hsb => ⟨lim.fresh _ hsb, ?_⟩) S.kind)
  show codeAny _ _ (.expr b (NdefX.envF F f s.heap.objs.size)) _ _
  have kp : ∀ b o, s.heap.get? b = some o → h₁.get? b = some o := fun b o e => hsb.extBut b o (Nat.ne_of_lt (Heap.lt_size e)) (Heap.get?_push_of_some _ e)
  obtain ⟨t, ht, hq⟩ := hbody A outer s H vs ws Q E (hr.deeper _) hf C hx hsp
  have I : Inv (NdefX.ncx (CX P w) P w K mg base N F f A outer s H E) [] (NdefX.startF N vs ws) H { s with heap := h₁, toks := s.toks + (ps.zip us).length } := NdefX.inv_startN S hr.hd e0 hl r C hns kp
  refine PySem.W.kla_codeExpr (wpAny_mono (ht.run [] _ (NdefX.startF N vs ws) H Q I hq) (fun v s' hs => ?_) fun e s' hs => hs)
  obtain ⟨w', H', J, rv, q⟩ := hs
  exact ⟨w', H', J.os, J.bare, J.base, J.hok, rv, q⟩
end
section
variable {prog : Program} {w : World} {K : PySem.W.Frag} {mg : Str → Option Value} {base : Heap} {G : Gam} {P : Prog}
theorem call_succ (n f : Nat) (ds : List FS.D) (m : Mem) : call P (n + 1) f ds m = match P.fns f with
    | some F => runFn (ctx P (call P n) (call P (n - 1))) F ds m
    | none => .no := by
  cases n with
  | zero => rfl
  | succ n => rfl
abbrev WEx (E : XK) : WX := fun cls d _ H => E cls d H
def BodyFn (prog : Program) (w : World) (K : PySem.W.Frag) (mg : Str → Option Value) (base : Heap) (G : Gam) (P : Prog) (f np nl : Nat) (b : Ss) : Prop :=
  ∃ x qual params body scope fd N, FunD K x qual params body scope [] [] (G.fa f) fd ∧ FnScope N (G.pn f) scope ∧ Binds K fd (G.pn f) [] ∧ N.length = nl ∧ (G.pn f).length = np ∧
    ∀ n cdv A outer s H E, EnvOk G P n (cxOf (CX prog w) prog w K mg base N qual scope (G.fa f) cdv A outer s H E) (WEx E) (ctx P (call P n) (call P (n - 1))) →
      PSs (cxOf (CX prog w) prog w K mg base N qual scope (G.fa f) cdv A outer s H E) body (rdS G K (WEx E) (execSs (ctx P (call P n) (call P (n - 1))) b))
def BodyMk (prog : Program) (w : World) (K : PySem.W.Frag) (mg : Str → Option Value) (base : Heap) (G : Gam) (P : Prog) (f np nl : Nat) (b : Ss) : Prop :=
  ∃ x qual params body scope fd N, FunD K x qual params body scope [] [] (G.fa f) fd ∧ FnScope N (G.pn f) scope ∧ Binds K fd (G.pn f) [] ∧ N.length = nl ∧ (G.pn f).length = np ∧
    ∀ n cdv A outer s H E, EnvOk G P n (cxOf (CX prog w) prog w K mg base N qual scope (G.fa f) cdv A outer s H E) (WEx E) (ctx P (call P n) (call P (n - 1))) → (∃ c, PySem.W.codeIn K cdv qual = true ∧ cdv = .ref c ∧ fd.code = cdv) →
      PSR (cxOf (CX prog w) prog w K mg base N qual scope (G.fa f) cdv A outer s H E) body (rdR G K (WEx E) (cxOf (CX prog w) prog w K mg base N qual scope (G.fa f) cdv A outer s H E) (execSs (ctx P (call P n) (call P (n - 1))) b))
def BodyCl (prog : Program) (w : World) (K : PySem.W.Frag) (mg : Str → Option Value) (base : Heap) (G : Gam) (P : Prog) (I : CloI) (np nl : Nat) (b : Ss) : Prop :=
  ∃ N, NdefX.NScope N I.ps I.fr (C8.fnScope I.st) ∧ (∀ cl c (doc pm ctv : Value) (us : List Value), us.length = I.ps.length → bindArgs ((NdefX.NF.of I.st I.name I.qual cl c).fd doc pm ctv) ⟨us, []⟩ = pure (I.ps.zip us)) ∧ N.length = nl ∧ I.ps.length + I.fr.length = np ∧
    ∀ n cl c p A outer s H E own, EnvO (G.ow own (slC I.ps.length I.fr.length)) P n (NdefX.ncx (CX prog w) prog w K mg base N (NdefX.NF.of I.st I.name I.qual cl c) p A outer s H E) (WEx E) (ctx P (call P n) (call P (n - 1))) →
      PSs (NdefX.ncx (CX prog w) prog w K mg base N (NdefX.NF.of I.st I.name I.qual cl c) p A outer s H E) (C8.fnBody I.st) (rdS (G.ow own (slC I.ps.length I.fr.length)) K (WEx E) (execSs (ctx P (call P n) (call P (n - 1))) b))
def BodyLm (prog : Program) (w : World) (K : PySem.W.Frag) (mg : Str → Option Value) (base : Heap) (G : Gam) (P : Prog) (I : CloI) (np nl : Nat) (b : Ss) : Prop :=
  ∃ N e eb, I.lam = some e ∧ b = .cons (.ret eb) .nil ∧ NdefX.NScope N I.ps I.fr (C8.fnScope I.st) ∧ (∀ cl c (pm ctv : Value) (us : List Value), us.length = I.ps.length → bindArgs (PySem.W.kla_fn I.name I.qual (C8.fnArgs I.st) e (C8.fnScope I.st) cl pm (.ref c) ctv) ⟨us, []⟩ = pure (I.ps.zip us)) ∧ N.length = nl ∧ I.ps.length + I.fr.length = np ∧
    ∀ n cl c p A outer s H E own, EnvO (G.ow own (slC I.ps.length I.fr.length)) P n (NdefX.ncx (CX prog w) prog w K mg base N (NdefX.NF.of I.st I.name I.qual cl c) p A outer s H E) (WEx E) (ctx P (call P n) (call P (n - 1))) →
      PE (NdefX.ncx (CX prog w) prog w K mg base N (NdefX.NF.of I.st I.name I.qual cl c) p A outer s H E) e (rdE (G.ow own (slC I.ps.length I.fr.length)) K (WEx E) (evalE (ctx P (call P n) (call P (n - 1))) eb))
def BodyC2 (prog : Program) (w : World) (K : PySem.W.Frag) (mg : Str → Option Value) (base : Heap) (G : Gam) (P : Prog) (I : CloI) (np nl : Nat) (b : Ss) : Prop := (I.lam = none ∧ BodyCl prog w K mg base G P I np nl b) ∨ BodyLm prog w K mg base G P I np nl b
theorem Stc.ow {o : List (Nat × Addr × V)} {sl : Nat → Bool} (st : Stc K G P) : Stc K (G.ow o sl) P :=
  ⟨⟨st.GO.1, st.GO.2, st.GO.3, st.GO.4, st.GO.5, st.GO.6⟩, ⟨st.IO.1, st.IO.2, st.IO.3, st.IO.4, st.IO.5, st.IO.6, st.IO.7⟩, st.flds, st.meth, st.imm, st.chg, st.bare⟩
def BodyIni (prog : Program) (w : World) (K : PySem.W.Frag) (mg : Str → Option Value) (base : Heap) (G : Gam) (P : Prog) (f c np nl : Nat) (l : Es) : Prop :=
  ∃ x qual params body scope fd ps N, FunD K x qual params body scope [] [] (G.fa f) fd ∧ FnScope N ps scope ∧ Binds K fd ps [] ∧ N.length = nl ∧ ps.length = np + 1 ∧ G.imm c = true ∧
    ∀ n cdv A outer s H E, EnvOk G P n (cxOf (CX prog w) prog w K mg base N qual scope (G.fa f) cdv A outer s H E) (WEx E) (ctx P (call P n) (call P (n - 1))) →
      PSs (cxOf (CX prog w) prog w K mg base N qual scope (G.fa f) cdv A outer s H E) body (rdN G K (WEx E) (ctx P (call P n) (call P (n - 1))) c 0 l)
theorem len_of {as : List Addr} {H : Hp} {m : Mem} {ds : List FS.D} {n f np nl : Nat} {b : Ss} {Ex : Nat → Hp → Prop} {k : FS.D → List Addr → Mem → Hp → Prop} (hf : P.fns f = some (.fn np nl b)) (o : Out G K Ex as H (call P n f ds m) k) : ds.length = np := by
  cases n with
  | zero => exact o.elim
  | succ n =>
    rw [call_succ, hf] at o
    simp only [runFn] at o
    split at o
    · assumption
    · exact o.elim
theorem len_ofI {as : List Addr} {H : Hp} {m : Mem} {ds : List FS.D} {n f c np nl : Nat} {l : Es} {Ex : Nat → Hp → Prop} {k : FS.D → List Addr → Mem → Hp → Prop} (hf : P.fns f = some (.ini c np nl l)) (o : Out G K Ex as H (call P n f ds m) k) : ds.length = np := by
  cases n with
  | zero => exact o.elim
  | succ n =>
    rw [call_succ, hf] at o
    simp only [runFn] at o
    split at o
    · assumption
    · exact o.elim
theorem st_start {as : List Addr} {H : Hp} {ds : List FS.D} {vs : List V} {N : List Str} {nl : Nat} (hz : G.z = G) (hN : N.length = nl) (r : Reps G K as H ds vs) : St2 G K as H (FS.start nl ds) (L2.start N vs) := by
  refine ⟨?_, fun i d hi => ?_, fun j c v h => by rw [← hz] at h; cases h⟩
  · unfold FS.start L2.start
    rw [List.length_append, List.length_append, List.length_map, List.length_map, List.length_replicate, List.length_replicate, r.len, hN]
  · unfold FS.start at hi
    unfold L2.start
    by_cases hl : i < ds.length
    · rw [List.getElem?_append_left (by rw [List.length_map]; exact hl), List.getElem?_map] at hi
      obtain ⟨d', hd, e⟩ := Option.map_eq_some_iff.mp hi
      cases e
      obtain ⟨v, h1, h2⟩ := r.get hd
      exact ⟨v, by rw [List.getElem?_append_left (by rw [List.length_map, r.len]; exact hl), List.getElem?_map, h1]; rfl, h2⟩
    · rw [List.getElem?_append_right (by rw [List.length_map]; omega), List.getElem?_replicate] at hi
      split at hi <;> cases hi
theorem Out.of_ret {C : Ctx} {eb : E} {δ : Sto} {as : List Addr} {H : Hp} {m : Mem} {Ex : Nat → Hp → Prop} {k : FS.D → List Addr → Mem → Hp → Prop} (o : Out G K Ex as H (fin (execSs C (.cons (.ret eb) .nil) δ m)) k) : Out G K Ex as H (evalE C eb δ m) k := by
  simp only [execSs, execS] at o
  cases hr : evalE C eb δ m <;> rw [hr] at o <;> exact o
theorem fin_out {as : List Addr} {H : Hp} {Q : VK} {E : XK} {r : SR} (o : Out G K (fun c H' => E (.ref (G.cls c)) none H') as H (fin r) fun d as' m' H' => ∀ v, Rep G K as' H' d v → Q v H') : OutS G K (WEx E) { nx := fun _ H' => Q .non H', rt := Q } as H r := by
  cases r with
  | nx δ m => exact fun as' H' σ' R' g' S' => o as' H' R' g' _ (by simp only [Rep])
  | rt d m => exact fun as' H' v R' g' r' => o as' H' R' g' v r'
  | ex c δ m => exact fun as' H' σ' R' g' S' => o as' H' R' g'
  | bk δ m => exact o.elim
  | ct δ m => exact o.elim
  | no => exact o.elim
theorem _root_.L2.FunD.look {x qual : Str} {params : Arguments} {body : List Stmt} {scope : Scope} {dvs : List V} {kws : List (Str × V)} {f : Addr} {fd : FuncData} (F : FunD K x qual params body scope dvs kws f fd) : ∃ oc od osl, K.lookup f = some ⟨oc, od, .func fd, osl⟩ := by
  obtain ⟨oc, od, dV, kV, doc, pm, an, cdv, ct, osl, rfl, lk, _⟩ := F.ex
  exact ⟨oc, od, osl, lk⟩
theorem fin_outR {X : Cx} {as : List Addr} {H : Hp} {Q : VK} {E : XK} {r : SR} (hz : G.z = G) (o : Out G K (fun c H' => E (.ref (G.cls c)) none H') as H (fin r) fun d as' m' H' => ∀ v, Rep G K as' H' d v → Q v H') (hn : ∀ σ m, r ≠ .nx σ m) :
    OutR G K (WEx E) X (fun v σ' H' => ∃ own, OwnSt X own σ' ∧ ∀ H'', Fil own H' H'' → Q v H'') as H r := by
  cases r with
  | nx δ m => exact absurd rfl (hn δ m)
  | rt d m =>
    intro own sl as' H' v σ' ho R g r
    refine ⟨own, ho, fun H'' fl => ?_⟩
    have o : ∀ as' H', Rel G K as' m H' → Grow as H as' H' → ∀ v, Rep G K as' H' d v → Q v H' := o
    have tr : Tr G own [] sl (fun _ => false) as' H' H'' := ⟨fun b x e _ => fl.1 b x e, fun c v hc => by
      rcases hc with ⟨h0, ob, u, h1, h2⟩ | ⟨j, hj⟩
      · exact .inl ⟨h0, ob, u, fl.1 _ _ h1, h2⟩
      · obtain ⟨hn, ob, u, h1, h2⟩ := fl.2.2 j c v hj
        exact .inl ⟨R.fresh hn, ob, u, h1, h2⟩⟩
    have R2 : Rel G.z K as' m H'' := R.tr tr
    have r2 : Rep G.z K as' H'' d v := r.tr tr
    rw [hz] at R2 r2
    exact o as' H'' R2 ⟨g.pre, g.new, fun p ob e hn ht => fl.1 _ _ (g.keep p ob e hn ht), fun p ob e hn z => by
      obtain ⟨ob', e'⟩ := Option.ne_none_iff_exists'.mp (g.kept p ob e hn)
      rw [fl.1 _ _ e'] at z; simp at z, fun p ob x e => fl.1 _ _ (g.fz p ob x e)⟩ v r2
  | ex c δ m => exact fun as' H' σ' R g => o as' H' (by rw [hz] at R; exact R) g
  | bk δ m => exact o.elim
  | ct δ m => exact o.elim
  | no => exact o.elim
def endRet : Ss → Bool
  | .nil => false
  | .cons (.ret _) .nil => true
  | .cons (.cal b) .nil => endRet b
  | .cons _ r => endRet r
theorem endRet_nx {C : Ctx} : ∀ {b : Ss}, endRet b = true → ∀ {δ : Sto} {m : Mem} {δ' : Sto} {m' : Mem}, execSs C b δ m ≠ .nx δ' m'
  | .nil, h, _, _, _, _ => by cases h
  | .cons s .nil, h, δ, m, δ', m' => by
    cases s <;> first
      | (simp [endRet] at h; done)
      | skip
    · rename_i e
      simp only [execSs, execS]
      cases evalE C e δ m <;> simp [Res.toS, SR.seq]
    · rename_i b
      have h' : endRet b = true := by simpa only [endRet] using h
      simp only [execSs, execS]
      cases hr : execSs C b δ m with
      | nx σ1 m1 => exact absurd hr (endRet_nx (C := C) h')
      | _ => simp [SR.cal, SR.seq]
  | .cons s (.cons s2 r), h, δ, m, δ', m' => by
    have h' : endRet (.cons s2 r) = true := by
      cases s <;> simpa only [endRet] using h
    simp only [execSs]
    cases hr : execS C s δ m with
    | nx σ1 m1 => exact endRet_nx (C := C) h'
    | _ => simp [SR.seq]
theorem kn_all (hz : G.z = G) (st : Stc K G P) (hfn : ∀ f np nl b, G.kfn f = true → P.fns f = some (.fn np nl b) → BodyFn prog w K mg base G P f np nl b ∨ (endRet b = true ∧ BodyMk prog w K mg base G P f np nl b)) (hclo : ∀ f I np nl b, G.clo f = some I → P.fns f = some (.fn np nl b) → BodyC2 prog w K mg base G P I np nl b) (hini : ∀ f c np nl l, G.kfn f = true → P.fns f = some (.ini c np nl l) → BodyIni prog w K mg base G P f c np nl l) :
    ∀ n, Kn prog w K mg base G P n ∧ Kn prog w K mg base G P (n - 1) := by
  have look : ∀ {f np nl b}, (BodyFn prog w K mg base G P f np nl b ∨ (endRet b = true ∧ BodyMk prog w K mg base G P f np nl b)) → ∃ x qual params body scope fd N, FunD K x qual params body scope [] [] (G.fa f) fd ∧ FnScope N (G.pn f) scope ∧ Binds K fd (G.pn f) [] ∧ N.length = nl ∧ (G.pn f).length = np := by
    rintro f np nl b (⟨x, qual, params, body, scope, fd, N, F, S, B, hN, hps, _⟩ | ⟨_, x, qual, params, body, scope, fd, N, F, S, B, hN, hps, _⟩)
    · exact ⟨x, qual, params, body, scope, fd, N, F, S, B, hN, hps⟩
    · exact ⟨x, qual, params, body, scope, fd, N, F, S, B, hN, hps⟩
  have h0 : Kn prog w K mg base G P 0 := ⟨fun f np nl b hk hf => by
    obtain ⟨x, qual, params, body, scope, fd, N, F, S, B, hN, hps⟩ := look (hfn f np nl b hk hf)
    exact ⟨fd, ⟨fun vs H Q E ⟨_, _, _, _, _, o⟩ => o.elim, fun A outer s H args us vs Q E _ _ _ _ ⟨_, _, _, _, _, o⟩ => o.elim⟩, B, F.kp, F.look⟩, fun f c np nl l hk hf => by
    obtain ⟨x, qual, params, body, scope, fd, ps, N, F, S, B, hN, hps, hc, hw⟩ := hini f c np nl l hk hf
    exact ⟨fd, ps, ⟨fun vs H Q E ⟨_, _, _, _, _, _, _, _, _, _, _, _, _, _, _, o⟩ => o.elim, fun A outer s H args us vs Q E _ _ _ _ ⟨_, _, _, _, _, _, _, _, _, _, _, _, _, _, _, o⟩ => o.elim⟩, B, F.kp⟩, fun f I np nl b hi hf p cl c =>
      ⟨fun ws vs H Q E ⟨_, _, _, _, _, _, _, _, _, _, o⟩ => o.elim, fun A outer s H us vs ws Q E _ _ _ _ _ _ _ ⟨_, _, _, _, _, _, _, _, _, _, o⟩ => o.elim⟩⟩
  intro n
  induction n with
  | zero => exact ⟨h0, h0⟩
  | succ n ih =>
    refine ⟨⟨fun f np nl b hk hf => ?_, fun f c np nl l hk hf => ?_, fun f I np nl b hi hf p cl c => ?_⟩, ih.1⟩
    · rcases hfn f np nl b hk hf with hw | ⟨her, hw⟩
      · obtain ⟨x, qual, params, body, scope, fd, N, F, S, B, hN, hps, hw⟩ := hw
        refine ⟨fd, F.ok S (fun vs H Q E ⟨as, m, ds, R, r, o⟩ => by rw [r.len, len_of hf o, hps]) fun cdv A outer s H vs Q E hr ⟨as, m, ds, R, r, o⟩ => ?_, B, F.kp, F.look⟩
        refine ⟨_, hw n cdv A outer s H E ⟨st, hr, rfl, takes_of rfl rfl rfl rfl, rfl, ih.1, ih.2, passes_of rfl⟩, as, m, FS.start nl ds, R, st_start hz hN r, ?_⟩
        have hlen := len_of hf o
        rw [call_succ, hf] at o
        simp only [runFn] at o
        rw [if_pos hlen] at o
        exact fin_out o
      · obtain ⟨x, qual, params, body, scope, fd, N, F, S, B, hN, hps, hw⟩ := hw
        refine ⟨fd, F.okR S (fun vs H Q E ⟨as, m, ds, R, r, o⟩ => by rw [r.len, len_of hf o, hps]) fun cdv A outer s H vs Q E hr ⟨as, m, ds, R, r, o⟩ hcd => ?_, B, F.kp, F.look⟩
        refine ⟨_, hw n cdv A outer s H E ⟨st, hr, rfl, takes_of rfl rfl rfl rfl, rfl, ih.1, ih.2, passes_of rfl⟩ hcd, as, m, FS.start nl ds, R, st_start hz hN r, ?_⟩
        have hlen := len_of hf o
        rw [call_succ, hf] at o
        simp only [runFn] at o
        rw [if_pos hlen] at o
        exact fin_outR hz o fun σ m => endRet_nx her
    · obtain ⟨x, qual, params, body, scope, fd, ps, N, F, S, B, hN, hps, hc, hw⟩ := hini f c np nl l hk hf
      refine ⟨fd, ps, F.ok S (fun vs H Q E ⟨y, dx, ws, as0, H0, as, m, ds, e, _, _, _, _, _, r, o⟩ => by rw [e, List.length_cons, r.len, len_ofI hf o, hps]) fun cdv A outer s H vs Q E hr ⟨y, dx, ws, as0, H0, as, m, ds, e, h0', hn, hx, g, R, r, o⟩ => ?_, B, F.kp⟩
      subst e
      have hlen := len_ofI hf o
      rw [call_succ, hf] at o
      simp only [runFn] at o
      rw [if_pos hlen] at o
      refine ⟨_, hw n cdv A outer s H E ⟨st, hr, rfl, takes_of rfl rfl rfl rfl, rfl, ih.1, ih.2, passes_of rfl⟩, as0, H0, as, m, none :: FS.start (nl - 1) ds, y, dx, [], [], rfl, h0', hn, by rw [hx]; unfold nms; rfl, rfl, g, R, ?_, reps_nil, ?_⟩
      · have hl := S.pre
        have hle : ps.length ≤ N.length := by
          have := congrArg List.length hl
          rw [List.length_take] at this
          omega
        have hst := st_start (G := G) hz (K := K) (as := as) (H := H) (N := N.tail) (nl := nl - 1) (by rw [List.length_tail, hN]) r
        have e1 : L2.start N (.ref y :: ws) = some (.ref y) :: L2.start N.tail ws := by
          unfold L2.start
          rw [List.map_cons, List.cons_append, List.length_tail, List.length_cons]
          congr 3
          omega
        rw [e1]
        refine ⟨by simp [hst.len], fun i d hi => ?_, fun j c v h => by rw [← hz] at h; cases h⟩
        cases i with
        | zero => cases hi
        | succ i => exact hst.at_ i d hi
      · refine (Out.bind' o).imp fun es as' m' H' R' g' o' r' => ?_
        exact o' as' H' R' g' (by rw [List.nil_append] at r'; exact r')
    · rcases hclo f I np nl b hi hf with ⟨hlam, hbc⟩ | hbl
      · rw [hlam]
        obtain ⟨N, S, hb, hN, hnp, hw⟩ := hbc
        have hS : NdefX.NScope N I.ps I.fr (NdefX.NF.of I.st I.name I.qual cl c).scope := S
        have hlen0 : ∀ {as H m ds cs vs wv} {Ex : Nat → Hp → Prop} {k : FS.D → List Addr → Mem → Hp → Prop}, Reps (G.ow (ownOf I.ps.length cl I.fr wv) (slC I.ps.length I.fr.length)) K as H ds vs → Reps (G.ow (ownOf I.ps.length cl I.fr wv) (slC I.ps.length I.fr.length)) K as H cs wv → wv.length = I.fr.length →
            Out (G.ow (ownOf I.ps.length cl I.fr wv) (slC I.ps.length I.fr.length)) K Ex as H (call P (n + 1) f (ds ++ cs) m) k → vs.length = I.ps.length ∧ (ds ++ cs).length = np := fun r rc hw o => by
          have h1 := len_of hf o
          have h2 := r.len
          have h3 := rc.len
          rw [List.length_append] at h1
          exact ⟨by omega, by rw [List.length_append]; omega⟩
        refine ck_of hS (hb cl c) (fun ws vs H Q E ⟨as, m, ds, cs, wv, _, hwl, R, r, rc, o⟩ => (hlen0 r rc hwl o).1) fun A outer s H vs ws Q E hr hfn C hx ⟨as, m, ds, cs, wv, hws, hwl, R, r, rc, o⟩ => ?_
        obtain ⟨hvl, hdl⟩ := hlen0 r rc hwl o
        have pre := S.pre
        have hple : I.ps.length + I.fr.length ≤ N.length := by
          have q := congrArg List.length pre
          rw [List.length_take, List.length_append] at q
          omega
        have hcel : CelOk (NdefX.ncx (CX prog w) prog w K mg base N (NdefX.NF.of I.st I.name I.qual cl c) p A outer s H E) (ownOf I.ps.length cl I.fr wv) := fun j c' v hm => by
          obtain ⟨i, y, h1, h2, h3, h4⟩ := mem_ownOf.mp hm
          obtain ⟨c2, h5, _⟩ := C.has i y h1
          have h5 : cl.lookup y = some c2 := h5
          rw [h5] at h4
          have : c' = c2 := h4
          subst this
          obtain ⟨a1, a2⟩ := hx y c' h5
          refine ⟨a1, a2, y, ?_, h5, .inr (S.frk y (List.mem_of_getElem? h1))⟩
          have hi : i < I.fr.length := (List.getElem?_eq_some_iff.mp h1).1
          have hq : (I.ps ++ I.fr)[j]? = some y := by
            rw [h3, List.getElem?_append_right (by omega), show I.ps.length + i - I.ps.length = i by omega]
            exact h1
          rw [← pre, List.getElem?_take_of_lt (by omega)] at hq
          exact hq
        have hz2 : (G.ow (ownOf I.ps.length cl I.fr wv) (slC I.ps.length I.fr.length)).z = G := hz
        refine ⟨_, hw n cl c p A outer s H E (ownOf I.ps.length cl I.fr wv) ⟨st.ow, hr, rfl, takes_of rfl rfl rfl rfl, rfl, by rw [hz2]; exact ih.1, by rw [hz2]; exact ih.2, passes_of rfl, hcel⟩, as, m, FS.start nl (ds ++ cs), R, ?_, ?_⟩
        · have hsl : (ds ++ cs).map some ++ List.replicate (nl - (ds ++ cs).length) none = FS.start nl (ds ++ cs) := rfl
          have h3 := rc.len
          have h4 := r.len
          have hst : (vs ++ wv).map some ++ List.replicate (N.length - (vs ++ wv).length) none = NdefX.startF N vs ws := by
            unfold NdefX.startF
            rw [hws, List.map_append, List.append_assoc, List.length_append, List.length_map, Nat.sub_add_eq]
          have hr2 := reps_app r rc
          refine ⟨?_, fun i d hi => ?_, fun j c' v hm => ?_⟩
          · rw [← hst]
            unfold FS.start
            simp only [List.length_append, List.length_map, List.length_replicate, h3, h4, hN]
          · rw [← hst]
            unfold FS.start at hi
            by_cases hl : i < (ds ++ cs).length
            · rw [List.getElem?_append_left (by rw [List.length_map]; exact hl), List.getElem?_map] at hi
              obtain ⟨d', hd, e⟩ := Option.map_eq_some_iff.mp hi
              cases e
              obtain ⟨v, h1, h2⟩ := hr2.get hd
              exact ⟨v, by rw [List.getElem?_append_left (by rw [List.length_map, hr2.len]; exact hl), List.getElem?_map, h1]; rfl, h2⟩
            · rw [List.getElem?_append_right (by rw [List.length_map]; omega), List.getElem?_replicate] at hi
              split at hi <;> cases hi
          · obtain ⟨i, y, h1, h2, h3', h4'⟩ := mem_ownOf.mp hm
            have hi : i < I.fr.length := (List.getElem?_eq_some_iff.mp h1).1
            refine ⟨?_, ?_⟩
            · rw [← hst, h3', List.getElem?_append_left (by rw [List.length_map, List.length_append]; omega), List.getElem?_map, List.getElem?_append_right (by omega), show I.ps.length + i - vs.length = i by omega, h2]
              rfl
            · show slC I.ps.length I.fr.length j = true
              unfold slC
              rw [h3']
              simp
              omega
        · have hlen := len_of hf o
          rw [call_succ, hf] at o
          simp only [runFn] at o
          rw [if_pos hlen] at o
          exact fin_out o
      · obtain ⟨N, e0, eb, hlam, rfl, S, hb, hN, hnp, hw⟩ := hbl
        rw [hlam]
        have hS : NdefX.NScope N I.ps I.fr (NdefX.NF.of I.st I.name I.qual cl c).scope := S
        have hlen0 : ∀ {as H m ds cs vs wv} {Ex : Nat → Hp → Prop} {k : FS.D → List Addr → Mem → Hp → Prop}, Reps (G.ow (ownOf I.ps.length cl I.fr wv) (slC I.ps.length I.fr.length)) K as H ds vs → Reps (G.ow (ownOf I.ps.length cl I.fr wv) (slC I.ps.length I.fr.length)) K as H cs wv → wv.length = I.fr.length →
            Out (G.ow (ownOf I.ps.length cl I.fr wv) (slC I.ps.length I.fr.length)) K Ex as H (call P (n + 1) f (ds ++ cs) m) k → vs.length = I.ps.length ∧ (ds ++ cs).length = np := fun r rc hw o => by
          have h1 := len_of hf o
          have h2 := r.len
          have h3 := rc.len
          rw [List.length_append] at h1
          exact ⟨by omega, by rw [List.length_append]; omega⟩
        refine ck_ofL hS (hb cl c) (fun ws vs H Q E ⟨as, m, ds, cs, wv, _, hwl, R, r, rc, o⟩ => (hlen0 r rc hwl o).1) fun A outer s H vs ws Q E hr hfn C hx ⟨as, m, ds, cs, wv, hws, hwl, R, r, rc, o⟩ => ?_
        obtain ⟨hvl, hdl⟩ := hlen0 r rc hwl o
        have pre := S.pre
        have hple : I.ps.length + I.fr.length ≤ N.length := by
          have q := congrArg List.length pre
          rw [List.length_take, List.length_append] at q
          omega
        have hcel : CelOk (NdefX.ncx (CX prog w) prog w K mg base N (NdefX.NF.of I.st I.name I.qual cl c) p A outer s H E) (ownOf I.ps.length cl I.fr wv) := fun j c' v hm => by
          obtain ⟨i, y, h1, h2, h3, h4⟩ := mem_ownOf.mp hm
          obtain ⟨c2, h5, _⟩ := C.has i y h1
          have h5 : cl.lookup y = some c2 := h5
          rw [h5] at h4
          have : c' = c2 := h4
          subst this
          obtain ⟨a1, a2⟩ := hx y c' h5
          refine ⟨a1, a2, y, ?_, h5, .inr (S.frk y (List.mem_of_getElem? h1))⟩
          have hi : i < I.fr.length := (List.getElem?_eq_some_iff.mp h1).1
          have hq : (I.ps ++ I.fr)[j]? = some y := by
            rw [h3, List.getElem?_append_right (by omega), show I.ps.length + i - I.ps.length = i by omega]
            exact h1
          rw [← pre, List.getElem?_take_of_lt (by omega)] at hq
          exact hq
        have hz2 : (G.ow (ownOf I.ps.length cl I.fr wv) (slC I.ps.length I.fr.length)).z = G := hz
        refine ⟨_, hw n cl c p A outer s H E (ownOf I.ps.length cl I.fr wv) ⟨st.ow, hr, rfl, takes_of rfl rfl rfl rfl, rfl, by rw [hz2]; exact ih.1, by rw [hz2]; exact ih.2, passes_of rfl, hcel⟩, as, m, FS.start nl (ds ++ cs), R, ?_, ?_⟩
        · have hsl : (ds ++ cs).map some ++ List.replicate (nl - (ds ++ cs).length) none = FS.start nl (ds ++ cs) := rfl
          have h3 := rc.len
          have h4 := r.len
          have hst : (vs ++ wv).map some ++ List.replicate (N.length - (vs ++ wv).length) none = NdefX.startF N vs ws := by
            unfold NdefX.startF
            rw [hws, List.map_append, List.append_assoc, List.length_append, List.length_map, Nat.sub_add_eq]
          have hr2 := reps_app r rc
          refine ⟨?_, fun i d hi => ?_, fun j c' v hm => ?_⟩
          · rw [← hst]
            unfold FS.start
            simp only [List.length_append, List.length_map, List.length_replicate, h3, h4, hN]
          · rw [← hst]
            unfold FS.start at hi
            by_cases hl : i < (ds ++ cs).length
            · rw [List.getElem?_append_left (by rw [List.length_map]; exact hl), List.getElem?_map] at hi
              obtain ⟨d', hd, e⟩ := Option.map_eq_some_iff.mp hi
              cases e
              obtain ⟨v, h1, h2⟩ := hr2.get hd
              exact ⟨v, by rw [List.getElem?_append_left (by rw [List.length_map, hr2.len]; exact hl), List.getElem?_map, h1]; rfl, h2⟩
            · rw [List.getElem?_append_right (by rw [List.length_map]; omega), List.getElem?_replicate] at hi
              split at hi <;> cases hi
          · obtain ⟨i, y, h1, h2, h3', h4'⟩ := mem_ownOf.mp hm
            have hi : i < I.fr.length := (List.getElem?_eq_some_iff.mp h1).1
            refine ⟨?_, ?_⟩
            · rw [← hst, h3', List.getElem?_append_left (by rw [List.length_map, List.length_append]; omega), List.getElem?_map, List.getElem?_append_right (by omega), show I.ps.length + i - vs.length = i by omega, h2]
              rfl
            · show slC I.ps.length I.fr.length j = true
              unfold slC
              rw [h3']
              simp
              omega
        · have hlen := len_of hf o
          rw [call_succ, hf] at o
          simp only [runFn] at o
          rw [if_pos hlen] at o
          refine Out.of_ret (o := o)
end
end FS
namespace FS
open PySem L2
structure Tb where
  cn : List (Nat × Str)
  im : List Nat
  mu : List Nat
  fn : List (Nat × Str)
  mn : List (Nat × Str)
  fl : List (Nat × List Nat)
  fs : List (Nat × (Str × Option Str))
  mt : List ((Nat × Nat) × Nat)
  ci : List (Nat × CI)
  sb : List (Nat × Nat)
  pr : List (Nat × Fn)
  ps : List (Nat × List Str)
  fuel : Nat
  cl : List (Nat × CloI) := []
  tn : List (He.Defn × (Nat → Nat → Str)) := []
  xc : List Nat := []
def Tb.cnm (T : Tb) (c : Nat) : Str := (T.cn.lookup c).getD default
def Tb.fnm (T : Tb) (f : Nat) : Str := (T.fn.lookup f).getD default
def Tb.mnm (T : Tb) (f : Nat) : Str := (T.mn.lookup f).getD default
def Tb.flds (T : Tb) (c : Nat) : List Nat := (T.fl.lookup c).getD []
def Tb.at_ (T : Tb) (f : Nat) : Str × Option Str := (T.fs.lookup f).getD default
def Tb.P (T : Tb) : Prog where
  fns := fun f => T.pr.lookup f
  cini := fun c => T.ci.lookup c
  mt := fun c m => T.mt.lookup (c, m)
  sub := fun c e => T.sb.contains (c, e)
  vale := fun c => T.xc.contains c
  flds := T.flds
  fuel := T.fuel
def Tb.G (T : Tb) (K : PySem.W.Frag) : Gam where
  cls := fun c => He.ga K (T.cnm c)
  fnm := T.fnm
  kf := fun f => (T.fn.lookup f).isSome
  flds := T.flds
  imm := fun c => T.im.contains c
  mu := fun c => T.mu.contains c
  kc := fun c => (T.cn.lookup c).isSome
  fa := fun f => He.fAd K (T.at_ f)
  kfn := fun f => (T.fs.lookup f).isSome
  mn := T.mnm
  pn := fun f => (T.ps.lookup f).getD []
  own := []
  sl := fun _ => false
  clo := fun f => T.cl.lookup f
  tabs := T.tn.map fun p => ((He.cT K p.1).2, p.2)
  xc := fun c => T.xc.contains c
  kv := !T.xc.isEmpty
def He.isNN : Option (Option Value) → Bool
  | some none => true
  | _ => false
def tys6 : List String := ["int", "bool", "str", "NoneType", "tuple", "list"]
def tys5 : List String := ["int", "bool", "str", "tuple", "list"]
def isFnB : Option Fn → Bool
  | some (.fn _ _ _) => true
  | _ => false
def isIniB (c : Nat) : Option Fn → Bool
  | some (.ini d _ _ _) => d == c
  | _ => false
def methB (K : PySem.W.Frag) (C : Addr) (m : Str) (g : Addr) : Bool := He.eqO (PySem.W.findIn K (.ref C) m) (some (some (.ref g))) && (PySem.W.isFn K (.ref g) && PySem.W.keepIn K (.ref g))
def mkB (K : PySem.W.Frag) (C : Addr) (g : Addr) : Bool := PySem.W.makesIn K C && (He.eqO (PySem.W.findIn K (.ref C) "__init__") (some (some (.ref g))) && (PySem.W.isFn K (.ref g) && PySem.W.keepIn K (.ref C)))
def Tb.chk0 (T : Tb) : Bool :=
  (T.fn.all fun p => T.fn.all fun q => (p.1 == q.1) || !decide (p.2 = q.2)) &&
  ((T.fl.all fun p => (p.2.all fun f => (T.fn.lookup f).isSome) && decide p.2.Nodup) &&
  ((T.fn.all fun p => T.mn.all fun q => !decide (p.2 = q.2)) &&
  ((T.mt.all fun p => (T.im ++ T.mu).contains p.1.1 && ((T.fs.lookup p.2).isSome && isFnB (T.pr.lookup p.2))) &&
  ((T.ci.all fun p => match p.2 with
    | .bare => T.im.contains p.1 && (T.flds p.1).isEmpty
    | .imm f => T.im.contains p.1 && ((T.fs.lookup f).isSome && isIniB p.1 (T.pr.lookup f))
    | .chg f => T.mu.contains p.1 && ((T.fs.lookup f).isSome && isFnB (T.pr.lookup f))) &&
  (T.im ++ T.mu).all fun c => (T.cn.lookup c).isSome))))
def excB (K : PySem.W.Frag) (D : Addr) : Bool := He.eqO (PySem.W.findIn K (.ref D) "__getattribute__") (some (some (.builtin "BaseException.__getattribute__"))) && (He.isNN (PySem.W.findIn K (.ref D) "__getattr__") && (decide (PySem.W.subIn K (.ref D) (.type "BaseException") = some true) && (PySem.W.hasDictIn K D && (He.eqO (PySem.W.findIn K (.ref D) "__class__") (some (some (.builtin "object.__class__"))) && decide (PySem.W.mroIn K D (.type "object") = some true)))))
def Tb.chk (T : Tb) (K : PySem.W.Frag) : Bool :=
  ((T.xc.all fun c => excB K (He.ga K (T.cnm c)) && ((T.cn.all fun e => decide (PySem.W.kitOne K (.ref (He.ga K (T.cnm c))) (.ref (He.ga K e.2)) = some (T.sb.contains (c, e.1)))) && (tys5.all fun n => decide (PySem.W.kitOne K (.ref (He.ga K (T.cnm c))) (.type n) = some false)))) && (T.xc.isEmpty || (T.im ++ T.mu ++ T.xc).all fun c => decide (PySem.W.kitOne K (.ref (He.ga K (T.cnm c))) (.type "ValueError") = some (T.xc.contains c)))) &&
  (((T.im ++ T.mu).all fun c => (He.Fa.cls (T.cnm c)).ok K && (He.eqO (PySem.W.findIn K (.ref (He.ga K (T.cnm c))) "__class__") (some (some (.builtin "object.__class__"))) && decide (PySem.W.mroIn K (He.ga K (T.cnm c)) (.type "object") = some true))) &&
  (((T.im ++ T.mu).all fun c => (T.im ++ T.mu).all fun e => (c == e) || !decide (He.ga K (T.cnm c) = He.ga K (T.cnm e))) &&
  (((T.im ++ T.mu).all fun c => T.fn.all fun f => (He.Fa.noat (T.cnm c) f.2).ok K) &&
  ((He.eqO (PySem.W.specialIn K (.builtin "object.__class__") "__get__") (some (some (.builtin "getset_descriptor.__get__"))) && decide (PySem.W.takesIn K (.builtin "object.__class__") = some true)) &&
  (((T.im ++ T.mu).all fun c => T.cn.all fun e => decide (PySem.W.kitOne K (.ref (He.ga K (T.cnm c))) (.ref (He.ga K e.2)) = some (T.sb.contains (c, e.1)))) &&
  ((T.cn.all fun e => tys6.all fun n => decide (PySem.W.kitOne K (.type n) (.ref (He.ga K e.2)) = some false)) &&
  (((T.im ++ T.mu).all fun c => tys5.all fun n => decide (PySem.W.kitOne K (.ref (He.ga K (T.cnm c))) (.type n) = some false)) &&
  ((T.mt.all fun p => methB K (He.ga K (T.cnm p.1.1)) (T.mnm p.1.2) (He.fAd K (T.at_ p.2))) &&
  (T.ci.all fun p => match p.2 with
    | .bare => PySem.W.makesIn K (He.ga K (T.cnm p.1)) && (He.eqO (PySem.W.findIn K (.ref (He.ga K (T.cnm p.1))) "__init__") (some (some (.builtin "object.__init__"))) && PySem.W.keepIn K (.ref (He.ga K (T.cnm p.1))))
    | .imm f => mkB K (He.ga K (T.cnm p.1)) (He.fAd K (T.at_ f))
    | .chg f => mkB K (He.ga K (T.cnm p.1)) (He.fAd K (T.at_ f)))))))))))
theorem lookup_mem {α β : Type} [BEq α] [LawfulBEq α] {l : List (α × β)} {a : α} {b : β} (h : l.lookup a = some b) : (a, b) ∈ l := by
  induction l with
  | nil => cases h
  | cons p r ih =>
    obtain ⟨x, y⟩ := p
    rw [List.lookup_cons] at h
    cases q : a == x with
    | true =>
      rw [q] at h
      have : y = b := by simpa using h
      rw [eq_of_beq q, this]
      exact List.mem_cons_self
    | false =>
      rw [q] at h
      exact List.mem_cons_of_mem _ (ih h)
theorem all_mem {α : Type} {l : List α} {p : α → Bool} (h : l.all p = true) {a : α} (ha : a ∈ l) : p a = true := List.all_eq_true.mp h a ha
theorem isFnB_ok {o : Option Fn} (h : isFnB o = true) : ∃ np nl b, o = some (.fn np nl b) := by
  cases o with
  | none => cases h
  | some F =>
    cases F with
    | fn np nl b => exact ⟨_, _, _, rfl⟩
    | ini c np nl l => cases h
theorem isIniB_ok {c : Nat} {o : Option Fn} (h : isIniB c o = true) : ∃ np nl l, o = some (.ini c np nl l) := by
  cases o with
  | none => cases h
  | some F =>
    cases F with
    | fn np nl b => cases h
    | ini d np nl l =>
      have : d = c := eq_of_beq h
      subst this
      exact ⟨_, _, _, rfl⟩
theorem methB_ok {K : PySem.W.Frag} {C g : Addr} {m : Str} (h : methB K C m g = true) : Meth K C m g := by
  obtain ⟨h1, h2⟩ := He.ba h
  obtain ⟨h2, h3⟩ := He.ba h2
  exact ⟨He.eqO_ok h1, h2, h3⟩
theorem mkB_ok {K : PySem.W.Frag} {C g : Addr} (h : mkB K C g = true) : Mk K C g := by
  obtain ⟨h1, h2⟩ := He.ba h
  obtain ⟨h2, h3⟩ := He.ba h2
  obtain ⟨h3, h4⟩ := He.ba h3
  exact ⟨h1, He.eqO_ok h2, h3, h4⟩
theorem some_of {α : Type} {o : Option α} (h : o.isSome = true) : ∃ a, o = some a := Option.isSome_iff_exists.mp h
section
variable {T : Tb} {K : PySem.W.Frag}
theorem im_mu {c : Nat} (h : (T.G K).imm c = true ∨ (T.G K).mu c = true) : c ∈ T.im ++ T.mu := by
  rcases h with h | h
  · exact List.mem_append_left _ (List.contains_iff_mem.mp h)
  · exact List.mem_append_right _ (List.contains_iff_mem.mp h)
theorem nm_of {l : List (Nat × Str)} {i : Nat} (h : (l.lookup i).isSome = true) : (i, (l.lookup i).getD default) ∈ l := by
  obtain ⟨a, ha⟩ := some_of h
  rw [ha]
  exact lookup_mem ha
theorem im_muX {c : Nat} (h : (T.G K).imm c = true ∨ (T.G K).mu c = true ∨ (T.G K).xc c = true) : c ∈ T.im ++ T.mu ∨ c ∈ T.xc := by
  rcases h with h | h | h
  · exact .inl (List.mem_append_left _ (List.contains_iff_mem.mp h))
  · exact .inl (List.mem_append_right _ (List.contains_iff_mem.mp h))
  · exact .inr (List.contains_iff_mem.mp h)
theorem isNN_ok {o : Option (Option Value)} (h : He.isNN o = true) : o = some none := by
  cases o with
  | none => cases h
  | some x => cases x with
    | none => rfl
    | some y => cases h
theorem excB_ok {D : Addr} (h : excB K D = true) (k1 : PySem.W.specialIn K (.builtin "object.__class__") "__get__" = some (some (.builtin "getset_descriptor.__get__"))) (k2 : PySem.W.takesIn K (.builtin "object.__class__") = some true) : ExcC K D := by
  unfold excB at h
  obtain ⟨h1, h⟩ := He.ba h
  obtain ⟨h2, h⟩ := He.ba h
  obtain ⟨h3, h⟩ := He.ba h
  obtain ⟨h4, h⟩ := He.ba h
  obtain ⟨h5, h6⟩ := He.ba h
  exact ⟨He.eqO_ok h1, isNN_ok h2, of_decide_eq_true h3, h4, He.eqO_ok h5, k1, k2, of_decide_eq_true h6⟩
theorem stc_of (h0 : T.chk0 = true) (h : T.chk K = true) : Stc K (T.G K) T.P := by
  unfold Tb.chk0 at h0
  obtain ⟨a1, h0⟩ := He.ba h0
  obtain ⟨a2, h0⟩ := He.ba h0
  obtain ⟨a3, h0⟩ := He.ba h0
  obtain ⟨a4, h0⟩ := He.ba h0
  obtain ⟨a5, a6⟩ := He.ba h0
  unfold Tb.chk at h
  obtain ⟨bx, h⟩ := He.ba h
  obtain ⟨bx1, bx2⟩ := He.ba bx
  obtain ⟨b1, h⟩ := He.ba h
  obtain ⟨b2, h⟩ := He.ba h
  obtain ⟨b3, h⟩ := He.ba h
  obtain ⟨b4, h⟩ := He.ba h
  obtain ⟨b5, h⟩ := He.ba h
  obtain ⟨b6, h⟩ := He.ba h
  obtain ⟨b7, h⟩ := He.ba h
  obtain ⟨b8, b9⟩ := He.ba h
  have fl : ∀ {c f : Nat}, f ∈ T.flds c → ∃ l, (c, l) ∈ T.fl ∧ T.flds c = l := by
    intro c f hf
    unfold Tb.flds at hf ⊢
    cases e : T.fl.lookup c with
    | none => rw [e] at hf; cases hf
    | some l => exact ⟨l, lookup_mem e, rfl⟩
  refine ⟨⟨fun i j hi hj e => ?_, fun c f hc hf => ?_, fun c hc => ?_, fun c hc => ?_, fun c e hc he q => ?_, fun c f hc hf => ?_⟩,
    ⟨fun c hc => ?_, ?_, fun c e hc he => ?_, fun n e hn he => ?_, fun c n hn hc => ?_, fun c hc => ?_, fun c hc hv => ?_⟩, rfl, fun c i g hm hc => ?_, fun c f hc => ?_, fun c f hc => ?_, fun c hc => ?_⟩
  · have := all_mem (all_mem a1 (nm_of hi)) (nm_of hj)
    rw [Bool.or_eq_true] at this
    rcases this with q | q
    · exact eq_of_beq q
    · rw [Bool.not_eq_true', decide_eq_false_iff_not] at q
      exact absurd e q
  · obtain ⟨l, hl, e⟩ := fl hf
    rw [show (T.G K).flds c = T.flds c from rfl, e] at hf
    exact all_mem (He.ba (all_mem a2 hl)).1 hf
  · show (T.flds c).Nodup
    cases e : T.flds c with
    | nil => exact List.nodup_nil
    | cons f r =>
      obtain ⟨l, hl, e2⟩ := fl (c := c) (f := f) (by rw [e]; exact List.mem_cons_self)
      rw [← e, e2]
      exact of_decide_eq_true (He.ba (all_mem a2 hl)).2
  · exact He.cls_ok (He.ba (all_mem b1 (im_mu hc))).1
  · have := all_mem (all_mem b2 (im_mu hc)) (im_mu he)
    rw [Bool.or_eq_true] at this
    rcases this with r | r
    · exact eq_of_beq r
    · rw [Bool.not_eq_true', decide_eq_false_iff_not] at r
      exact absurd q r
  · exact He.noat_ok (all_mem (all_mem b3 (im_mu hc)) (nm_of hf))
  · obtain ⟨h1, h2⟩ := He.ba (He.ba (all_mem b1 (im_mu hc))).2
    exact ⟨He.eqO_ok h1, of_decide_eq_true h2⟩
  · obtain ⟨h1, h2⟩ := He.ba b4
    exact ⟨He.eqO_ok h1, of_decide_eq_true h2⟩
  · rcases im_muX hc with hc | hc
    · exact of_decide_eq_true (all_mem (all_mem b5 hc) (nm_of he))
    · exact of_decide_eq_true (all_mem (He.ba (He.ba (all_mem bx1 hc)).2).1 (nm_of he))
  · exact of_decide_eq_true (all_mem (all_mem b6 (nm_of he)) hn)
  · rcases im_muX hc with hc | hc
    · exact of_decide_eq_true (all_mem (all_mem b7 hc) hn)
    · exact of_decide_eq_true (all_mem (He.ba (He.ba (all_mem bx1 hc)).2).2 hn)
  · obtain ⟨k1, k2⟩ := He.ba b4
    exact excB_ok (He.ba (all_mem bx1 (List.contains_iff_mem.mp hc))).1 (He.eqO_ok k1) (of_decide_eq_true k2)
  · rw [Bool.or_eq_true] at bx2
    rcases bx2 with q | q
    · rw [show (T.G K).kv = !T.xc.isEmpty from rfl, q] at hv
      cases hv
    · refine of_decide_eq_true (all_mem q ?_)
      rcases im_muX hc with hc | hc
      · exact List.mem_append_left _ hc
      · exact List.mem_append_right _ hc
  · have hp := lookup_mem (show T.mt.lookup (c, i) = some g from hm)
    obtain ⟨h1, h2⟩ := He.ba (all_mem a4 hp)
    obtain ⟨h2, h3⟩ := He.ba h2
    exact ⟨methB_ok (all_mem b8 hp), h2, isFnB_ok h3⟩
  · have hp := lookup_mem (show T.ci.lookup c = some (.imm f) from hc)
    have h1 := all_mem a5 hp
    have h2 := all_mem b9 hp
    obtain ⟨h3, h4⟩ := He.ba h1
    obtain ⟨h4, h5⟩ := He.ba h4
    exact ⟨mkB_ok h2, h3, h4, isIniB_ok h5⟩
  · have hp := lookup_mem (show T.ci.lookup c = some (.chg f) from hc)
    have h1 := all_mem a5 hp
    have h2 := all_mem b9 hp
    obtain ⟨h3, h4⟩ := He.ba h1
    obtain ⟨h4, h5⟩ := He.ba h4
    exact ⟨mkB_ok h2, h3, h4, isFnB_ok h5⟩
  · have hp := lookup_mem (show T.ci.lookup c = some .bare from hc)
    have h1 := all_mem a5 hp
    have h2 := all_mem b9 hp
    obtain ⟨h3, h4⟩ := He.ba h1
    obtain ⟨h5, h6⟩ := He.ba h2
    obtain ⟨h6, h7⟩ := He.ba h6
    exact ⟨h5, He.eqO_ok h6, h7, h3, List.isEmpty_iff.mp h4⟩
theorem mnf_of (h0 : T.chk0 = true) {i : Nat} (hi : (T.mn.lookup i).isSome = true) : ∀ f, (T.G K).kf f = true → (T.G K).fnm f ≠ (T.G K).mn i := by
  unfold Tb.chk0 at h0
  intro f hf
  have := all_mem (all_mem (He.ba (He.ba (He.ba h0).2).2).1 (nm_of hf)) (nm_of hi)
  rw [Bool.not_eq_true', decide_eq_false_iff_not] at this
  exact this
def BodyAny (prog : Program) (w : World) (K : PySem.W.Frag) (mg : Str → Option Value) (base : Heap) (T : Tb) (f : Nat) : Fn → Prop
  | .fn np nl b => (T.cl.lookup f = none → BodyFn prog w K mg base (T.G K) T.P f np nl b ∨ (endRet b = true ∧ BodyMk prog w K mg base (T.G K) T.P f np nl b)) ∧ ∀ I, T.cl.lookup f = some I → BodyC2 prog w K mg base (T.G K) T.P I np nl b
  | .ini c np nl l => BodyIni prog w K mg base (T.G K) T.P f c np nl l
theorem any_fn {prog : Program} {w : World} {mg : Str → Option Value} {base : Heap} {f np nl : Nat} {b : Ss} (h : BodyFn prog w K mg base (T.G K) T.P f np nl b) (hc : T.cl.lookup f = none := by rfl) : BodyAny prog w K mg base T f (.fn np nl b) :=
  ⟨fun _ => .inl h, fun I z => by rw [hc] at z; cases z⟩
theorem any_mk {prog : Program} {w : World} {mg : Str → Option Value} {base : Heap} {f np nl : Nat} {b : Ss} (h : BodyMk prog w K mg base (T.G K) T.P f np nl b) (he : endRet b = true := by rfl) (hc : T.cl.lookup f = none := by rfl) : BodyAny prog w K mg base T f (.fn np nl b) :=
  ⟨fun _ => .inr ⟨he, h⟩, fun I z => by rw [hc] at z; cases z⟩
theorem any_cl {prog : Program} {w : World} {mg : Str → Option Value} {base : Heap} {f np nl : Nat} {b : Ss} {I : CloI} (h : BodyCl prog w K mg base (T.G K) T.P I np nl b) (hl : I.lam = none := by rfl) (hc : T.cl.lookup f = some I := by rfl) : BodyAny prog w K mg base T f (.fn np nl b) :=
  ⟨fun z => (by rw [hc] at z; cases z), fun J z => by rw [hc] at z; cases z; exact .inl ⟨hl, h⟩⟩
theorem kn_of {prog : Program} {w : World} {mg : Str → Option Value} {base : Heap} (st : Stc K (T.G K) T.P) (hk : (T.cl.all fun p => !(T.fs.lookup p.1).isSome) = true) (hb : ∀ p ∈ T.pr, BodyAny prog w K mg base T p.1 p.2) (n : Nat) : Kn prog w K mg base (T.G K) T.P n :=
  (kn_all rfl st (fun f np nl b h hf => (hb (f, .fn np nl b) (lookup_mem hf)).1 (by
    cases q : T.cl.lookup f with
    | none => rfl
    | some I =>
      have := all_mem hk (lookup_mem q)
      have h2 : (T.fs.lookup f).isSome = true := h
      rw [h2] at this; cases this)) (fun f I np nl b hi hf => (hb (f, .fn np nl b) (lookup_mem hf)).2 I hi) (fun f c np nl l _ hf => hb (f, .ini c np nl l) (lookup_mem hf)) n).1
end
def spL (G : Gam) (K : PySem.W.Frag) (P : Prog) (n f : Nat) : Sp := fun vs H Q E => spF G K P n f vs H Q fun _ _ _ => False
theorem calm_ok {prog : Program} {w : World} {K : PySem.W.Frag} {mg : Str → Option Value} {base : Heap} {G : Gam} {P : Prog} {n f : Nat} {fd : FuncData} {ps : List Str} {a : Addr} (F : FnOk prog w K mg base (CX prog w) n a fd ps (spF G K P n f)) : FnOk prog w K mg base CX0 n a fd ps (spL G K P n f) :=
  ⟨fun vs H Q E h => F.len _ _ _ _ h, fun A outer s H args us vs Q E hr he hb hv hs => codeAny_mono (F.run A outer s H args us vs Q _ hr he hb hv hs) fun r s' hq => by
    cases r with
    | error e =>
      obtain ⟨_, _, _, _, _, _, _, _, _, _, _, _, z⟩ := hq
      exact z.elim
    | ok fl => cases fl <;> exact hq⟩
theorem MtM_R {X : Cx} {id : String} {r : V → List V → Hp → VK → Prop} (h : MtM X id r) : MtR X id r := h
theorem bmk_append : ∀ k', bmK .append k' = true → k' = .l := by intro k; cases k <;> intro h <;> first | rfl | cases h
theorem bmk_clear : ∀ k', bmK .clear k' = true → k' = .l := by intro k; cases k <;> intro h <;> first | rfl | cases h
theorem bmk_find : ∀ k', bmK .find k' = true → k' = .s := by intro k; cases k <;> intro h <;> first | rfl | cases h
theorem boot_len' : bootBuiltins "len" = some (.builtin "len") := by kernel_rfl
theorem boot_all' : bootBuiltins "all" = some (.builtin "all") := by kernel_rfl
theorem boot_isinstance' : bootBuiltins "isinstance" = some (.builtin "isinstance") := by kernel_rfl
theorem boot_int' : bootBuiltins "int" = some (.type "int") := by kernel_rfl
theorem boot_bool' : bootBuiltins "bool" = some (.type "bool") := by kernel_rfl
theorem boot_list' : bootBuiltins "list" = some (.type "list") := by kernel_rfl
theorem fn_at {prog : Program} {w : World} {K : PySem.W.Frag} {mg : Str → Option Value} {base : Heap} {G : Gam} {P : Prog} {n f : Nat} {x qual : Str} {params : Arguments} {body : List Stmt} {scope : Scope} {dvs : List V} {kws : List (Str × V)} {fd : FuncData}
    (F : FunD K x qual params body scope dvs kws (G.fa f) fd) (kn : Kn prog w K mg base G P n) (hk : G.kfn f = true) (hf : isFn P f) : FnOk prog w K mg base (CX prog w) n (G.fa f) fd (G.pn f) (spF G K P n f) := by
  obtain ⟨np, nl, b, hf⟩ := hf
  obtain ⟨fd', F', _, _, oc', od', osl', h'⟩ := kn.fn f np nl b hk hf
  obtain ⟨oc, od, osl, h⟩ := F.look
  rw [h] at h'
  cases h'
  exact F'
theorem seq_rol {K : PySem.W.Frag} {H : Hp} {a : Addr} {vs : List V} (h : SqL K H a vs) : RoL K [] H a vs := by
  rcases h with (h | h) | h
  · exact .inr (.inl ⟨List.not_mem_nil, h⟩)
  · exact .inl ⟨List.not_mem_nil, h⟩
  · exact .inr (.inr h)
theorem reps_of_ints {G : Gam} {K : PySem.W.Frag} {as : List Addr} {H : Hp} : ∀ ns : List Int, Reps G K as H (ns.map .int) (ns.map V.int)
  | [] => reps_nil
  | n :: ns => reps_cons (by simp only [Rep]) (reps_of_ints ns)
theorem law_sp {G : Gam} {K : PySem.W.Frag} {P : Prog} {n f : Nat} {H : Hp} {a : Addr} {ns : List Int} (hT : ∀ p ∈ G.tabs, H p.1 = some (.tbl #[])) (h : SqL K H a (ns.map V.int)) (hp : ∃ m, call P n f [.rol (ns.map .int)] [] = .ok (.bl true) m) :
    spL G K P n f [.ref a] H (fun v _ => v = .bl true) fun _ _ _ => False := by
  obtain ⟨m, hp⟩ := hp
  refine ⟨[], [], [.rol (ns.map .int)], ⟨rfl, List.nodup_nil, fun i p mo e => (by cases e), fun p hp => NdefX.TabN.nil (hT p hp)⟩, reps_one ?_, ?_⟩
  · simp only [Rep]
    exact ⟨a, ns.map V.int, rfl, seq_rol h, reps_of_ints ns⟩
  · rw [hp]
    exact fun as' H' R g v r => rep_bl r
end FS
namespace FS
open PySem L2
section
variable {G : Gam} {X : Cx} {W : WX} {e a b c : Expr} {pos p2 p3 : Pos} {m : Mem} {as as' : List Addr} {H H' : Hp} {σ : L2.St} {δ : Sto} {K : PySem.W.Frag} {C : Ctx} {ea eb ec : E}
end
end FS
namespace FS
open PySem L2
abbrev veB : List Value := [.type "ValueError", .type "Exception", .type "BaseException", .type "object"]
structure XOk (K : PySem.W.Frag) (G : Gam) (sub : Nat → Nat → Bool) (xs : List Nat) : Prop where
  made : ∀ c ∈ xs, PySem.W.excIn K (G.cls c) veB "ValueError.__new__" = true ∧ PySem.W.keepIn K (.ref (G.cls c)) = true ∧ PySem.W.subIn K (.ref (G.cls c)) (.type "BaseException") = some true ∧ PySem.W.typeIn K (.ref (G.cls c)) = some (.type "type")
  one : ∀ c ∈ xs, ∀ e, sub e e = true → PySem.W.exmOne K (.ref (G.cls e)) (.ref (G.cls c)) = some (sub e c)
def tyB : Option Value → Bool
  | some (.type s) => decide (s = "type")
  | _ => false
theorem tyB_ok {o : Option Value} (h : tyB o = true) : o = some (.type "type") := by
  cases o with
  | none => cases h
  | some v =>
    cases v with
    | type s => rw [of_decide_eq_true (show decide (s = "type") = true from h)]
    | _ => cases h
def Tb.chkX (T : Tb) (xs : List Nat) (K : PySem.W.Frag) : Bool :=
  (xs.all fun c => PySem.W.excIn K (He.ga K (T.cnm c)) veB "ValueError.__new__" && (PySem.W.keepIn K (.ref (He.ga K (T.cnm c))) && (decide (PySem.W.subIn K (.ref (He.ga K (T.cnm c))) (.type "BaseException") = some true) && tyB (PySem.W.typeIn K (.ref (He.ga K (T.cnm c))))))) &&
  (xs.all fun c => T.sb.all fun p => (p.1 != p.2) || decide (PySem.W.exmOne K (.ref (He.ga K (T.cnm p.1))) (.ref (He.ga K (T.cnm c))) = some (T.sb.contains (p.1, c))))
theorem xok_of {T : Tb} {xs : List Nat} {K : PySem.W.Frag} (h : T.chkX xs K = true) : XOk K (T.G K) T.P.sub xs := by
  unfold Tb.chkX at h
  obtain ⟨h1, h2⟩ := He.ba h
  refine ⟨fun c hc => ?_, fun c hc e he => ?_⟩
  · obtain ⟨a1, a⟩ := He.ba (all_mem h1 hc)
    obtain ⟨a2, a⟩ := He.ba a
    obtain ⟨a3, a4⟩ := He.ba a
    exact ⟨a1, a2, of_decide_eq_true a3, tyB_ok a4⟩
  · have hm : (e, e) ∈ T.sb := List.contains_iff_mem.mp he
    have := all_mem (all_mem h2 hc) hm
    rw [Bool.or_eq_true] at this
    rcases this with q | q
    · simp at q
    · exact of_decide_eq_true q
section
variable {G : Gam} {P : Prog} {n : Nat} {X : Cx} {W : WX} {C : Ctx} {pos p p2 pos' np : Pos} {x m : Str} {j c : Nat} {xs : List Nat} {sub : Nat → Nat → Bool}
theorem EnvOk.tr (E0 : EnvOk G P n X W C) {pn : List (Addr × Obj)} {xe : Value → Shared → Prop} {W' : WX} (tk : Takes (X.tr pn xe) W') (ow : PassesOwn (model X.prog X.w) X.A X.env xe) : EnvOk G P n (X.tr pn xe) W' C :=
  ⟨E0.st, E0.room, E0.calm, tk, E0.hC, E0.kn, E0.kn1, ow⟩
theorem ss_rse (E0 : EnvOk G P n X W C) (XO : XOk X.K G sub xs) (hc : c ∈ xs) (hg : Gl X x) (gC : X.mg x = some (.ref (G.cls c))) (hdb : (x == ("__debug__" : Str)) = false := by decide) :
    PS X (.Raise (some (.Call (.Name x p) [.Constant (.str m) j p2] [] pos)) none pos') (rdS G X.K W (execS C (.rse c))) := by
  obtain ⟨h1, h2, h3, h4⟩ := XO.made c hc
  exact ps_imp (ps_raise E0.calm E0.tk (pmk_own PySem.F.excBase_ValueError h1 gC h2 (raises_own h3 h4) hg hdb)) fun Z σ H ⟨as, mm, δ, R, S, o⟩ => by
    simp only [execS] at o
    exact o as H σ R Grow.refl S
end
end FS
namespace FS
open PySem L2 PySem.Spec PyProof.Rows
section
variable {X : Cx} {pins : List (Addr × Obj)} {σ : L2.St} {H : Hp} {s : Shared}
end
section
variable {X : Cx} {x n : Str} {c : Value} {i : Nat} {body suite : List Stmt} {b₀ : Stmt} {np pos pos' : Pos} {tb : WX → TS} {ts : TS} {Wout : WX}
end
section
variable {G : Gam} {P : Prog} {n : Nat} {X : Cx} {W : WX} {C : Ctx} {pos p p2 pos' np : Pos} {x nm : Str} {i c : Nat} {xs : List Nat}
def NoEx {α : Type} (r : Res α) : Prop := match r with | .ex _ _ => False | _ => True
theorem NoEx.bind {α β : Type} {r : Res α} {f : α → Mem → Res β} (h : NoEx r) (g : ∀ a m, NoEx (f a m)) : NoEx (r.bind f) := by
  cases r with
  | ok a m => exact g a m
  | ex c m => exact h
  | no => trivial
theorem NoEx.ofO {m : Mem} {o : Option Bool} : NoEx (FS.ofO m o) := by cases o <;> trivial
end
end FS
namespace FS
open PySem L2
section
variable {G : Gam} {X : Cx} {W : WX} {m : Mem} {as : List Addr} {H : Hp} {σ : L2.St} {δ : Sto} {K : PySem.W.Frag} {C : Ctx}
end
end FS
namespace FS
open PySem L2
theorem EnvOk.ow {G : Gam} {P : Prog} {n : Nat} {X : Cx} {W : WX} {C : Ctx} (E0 : EnvOk G P n X W C) (hz : G.z = G) {own : List (Nat × Addr × V)} (sl : Nat → Bool) (hc : CelOk X own) : EnvO (G.ow own sl) P n X W C :=
  ⟨E0.st.ow, E0.room, E0.calm, E0.tk, E0.hC, by rw [show (G.ow own sl).z = G from hz]; exact E0.kn, by rw [show (G.ow own sl).z = G from hz]; exact E0.kn1, E0.own, hc⟩
abbrev slL (l : List Nat) : Nat → Bool := fun j => l.contains j
theorem cel_nil {X : Cx} : CelOk X [] := fun _ _ _ h => by cases h
theorem ndef_no {C : Ctx} {i f : Nat} {cs js : List Nat} {r : Ss} (hs : ∀ j ∈ js, j ∈ cs) : ∀ δ m, (∃ j ∈ js, ∀ d, δ[j]? ≠ some (some d)) → execSs C (.cons (.ndef i f cs) r) δ m = .no := fun δ m ⟨j, hj, hn⟩ => by
  simp only [execSs, execS]
  cases h : cs.mapM fun j => (δ[j]?).join with
  | none => rfl
  | some ds =>
    obtain ⟨_, hg⟩ := mapM_join h
    obtain ⟨k, hk⟩ := List.mem_iff_getElem?.mp (hs j hj)
    obtain ⟨d, _, hd⟩ := hg k j hk
    exact absurd hd (hn d)
section
variable {X : Cx} {G : Gam} {W : WX} {sts : List Stmt} {f : Sto → Mem → SR} {own : List (Nat × Addr × V)}
theorem sr_own0 (js : List Nat) (hfn : X.fn = fun _ => true) (hz : G.z = G) (hcell : ∀ j ∈ js, ∃ x, X.N[j]? = some x ∧ X.env.scope.names.lookup x = some .cell)
    (h : ∀ own', CelOk X own' → (∀ j ∈ js, ∃ c v, (j, c, v) ∈ own') → PSR X sts (rdR (G.ow own' (slL js)) X.K W X f)) (hne : ∀ δ m, (∃ j ∈ js, ∀ d, δ[j]? ≠ some (some d)) → f δ m = .no) : PSR X sts (rdR G X.K W X f) := by
  rw [← hz]
  exact sr_own js (slL js) hfn hcell (fun j hj => by
    rcases hj with z | z
    · cases z
    · exact List.contains_iff_mem.mpr z) cel_nil (fun own' h1 h2 _ => h own' h1 h2) hne
theorem sr_own1 {l : List Nat} (js : List Nat) (hfn : X.fn = fun _ => true) (hcell : ∀ j ∈ js, ∃ x, X.N[j]? = some x ∧ X.env.scope.names.lookup x = some .cell) (hc0 : CelOk X own)
    (h : ∀ own', CelOk X own' → (∀ j ∈ js, ∃ c v, (j, c, v) ∈ own') → PSR X sts (rdR (G.ow own' (slL (l ++ js))) X.K W X f)) (hne : ∀ δ m, (∃ j ∈ js, ∀ d, δ[j]? ≠ some (some d)) → f δ m = .no) : PSR X sts (rdR (G.ow own (slL l)) X.K W X f) :=
  sr_own js (slL (l ++ js)) hfn hcell (fun j hj => List.contains_iff_mem.mpr (List.mem_append.mpr (by
    rcases hj with z | z
    · exact .inl (List.contains_iff_mem.mp z)
    · exact .inr z))) hc0 (fun own' h1 h2 _ => h own' h1 h2) hne
end
theorem code_of {K : PySem.W.Frag} {p : He.Defn} {x qual : Str} {params : Arguments} {body : List Stmt} {scope : Scope} {dvs : List V} {kws : List (Str × V)} {fd : FuncData} {cdv : Value} (F : FunD K x qual params body scope dvs kws (He.fAd K p) fd) (h : ∃ c, PySem.W.codeIn K cdv qual = true ∧ cdv = .ref c ∧ fd.code = cdv) : cdv = .ref (He.cT K p).1 := by
  obtain ⟨c, _, h1, h2⟩ := h
  obtain ⟨oc, od, osl, lk⟩ := F.look
  rw [h1]
  exact congrArg Value.ref (He.codeOf_eq lk (h2.trans h1)).symm
theorem tab_mem {T : Tb} {K : PySem.W.Frag} {p : He.Defn} {nm : Nat → Nat → Str} (h : (p, nm) ∈ T.tn) : ((He.cT K p).2, nm) ∈ (T.G K).tabs := List.mem_map.mpr ⟨(p, nm), h, rfl⟩
theorem tab_one {T : Tb} {K : PySem.W.Frag} {nm : Nat → Nat → Str} {a : Addr} (h : ∀ p ∈ T.tn, p.2 = nm) : ∀ p ∈ (T.G K).tabs, p.1 = a → p.2 = nm := fun p hp _ => by
  obtain ⟨q, hq, e⟩ := List.mem_map.mp hp
  rw [← e]
  exact h q hq
theorem clf_of {T : Tb} {K : PySem.W.Frag} (h : (T.cl.all fun p => isFnB (T.pr.lookup p.1)) = true) : ∀ f I, (T.G K).clo f = some I → isFn T.P f := fun f I hi => isFnB_ok (all_mem h (lookup_mem hi))
theorem tabs_at {T : Tb} {K : PySem.W.Frag} {H : Hp} (h : ∀ p ∈ (T.tn.map (·.1)).map (He.cT K), H p.2 = some (.tbl #[])) : ∀ p ∈ (T.G K).tabs, H p.1 = some (.tbl #[]) := fun p hp => by
  obtain ⟨q, hq, e⟩ := List.mem_map.mp hp
  rw [← e]
  exact h _ (List.mem_map.mpr ⟨q.1, List.mem_map.mpr ⟨q, hq, rfl⟩, rfl⟩)
end FS
namespace FS
open PySem L2
section
variable {G : Gam} {X : Cx} {W : WX} {e tg a b c : Expr} {pos p2 p3 : Pos} {C : Ctx} {ea eb ec : E} {m : Mem} {K : PySem.W.Frag}
end
end FS
namespace FS
open PySem PySem.Spec PyProof.Rows L2
section
variable {G : Gam} {X : Cx} {W : WX} {a : Expr} {pos p1 p2 p3 p4 : Pos} {C : Ctx} {ea : E} {K : PySem.W.Frag} {lo : Option Expr} {l : Oe}
end
end FS
namespace FS
open PySem PySem.Spec PyProof.Rows L2
inductive ZS where
  | lst (a : Addr) | txt (x : Str)
def txtV (x : Str) : List V := x.cps.toList.map fun c => .str ⟨#[c]⟩
def ZS.St (it : Addr) (i : Nat) (h : Heap) : ZS → Prop
  | .lst a => h.IsListIter it a i
  | .txt x => ∃ t, h.IsStrIter it (strIterType x) x t i
def ZS.Has (K : PySem.W.Frag) (H : Hp) (xs : List V) : ZS → Prop
  | .lst a => SqL K H a xs
  | .txt x => xs = txtV x
theorem ZS.St.obj {k : ZS} {it : Addr} {i : Nat} {h : Heap} (st : k.St it i h) : ∃ o, h.get? it = some o ∧ ∀ v, o.data ≠ .cell v := by
  cases k with
  | lst a => obtain ⟨o, e, _, d⟩ := st; exact ⟨o, e, fun v q => by rw [d] at q; cases q⟩
  | txt x => obtain ⟨t, o, e, _, d⟩ := st; exact ⟨o, e, fun v q => by rw [d] at q; cases q⟩
theorem ZS.St.at_ {k : ZS} {it : Addr} {i : Nat} {h h' : Heap} (st : k.St it i h) (e : ∀ o, h.get? it = some o → h'.get? it = some o) : k.St it i h' := by
  cases k with
  | lst a => exact Heap.IsListIter.at st fun o q => e o q
  | txt x => obtain ⟨t, o, e1, r⟩ := st; exact ⟨t, o, e o e1, r⟩
theorem ZS.Has.inj {X : Cx} {pins : List (Addr × Obj)} {σ : L2.St} {H : Hp} {s : Shared} (I : Inv X pins σ H s) {k : ZS} {xs ys : List V} (h : k.Has X.K H xs) (h' : k.Has X.K H ys) : xs = ys := by
  cases k with
  | lst a => exact I.list_inj h h'
  | txt x => exact (show xs = txtV x from h).trans (show ys = txtV x from h').symm
def ZOk (K : PySem.W.Frag) (H : Hp) (v : V) (xs : List V) : ZS → Prop
  | .lst a => v = .ref a ∧ SqL K H a xs
  | .txt x => v = .str x ∧ xs = txtV x
theorem ZOk.has {K : PySem.W.Frag} {H : Hp} {v : V} {xs : List V} {k : ZS} (z : ZOk K H v xs k) : k.Has K H xs := by
  cases k with
  | lst a => exact z.2
  | txt x => exact z.2
section
variable {G : Gam} {X : Cx} {W : WX} {e e2 e3 : Expr} {elts : List Expr} {kk : Nat} {tpos pos p2 : Pos} {C : Ctx} {ea eb ec : E} {K : PySem.W.Frag}
def ZRep (G : Gam) (K : PySem.W.Frag) (as0 : List Addr) (H0 : Hp) (ds : List FS.D) (gd : Guard) (k : ZS) : Prop :=
  ∀ (as : List Addr) (m : Mem) (H : Hp), Rel G K as m H → Grow as0 H0 as H → gOk gd m = true → ∃ xs, k.Has K H xs ∧ Reps G K as H ds xs
theorem reps_txt {as : List Addr} {H : Hp} : ∀ s : List Nat, Reps G K as H (s.map fun c => .str [c]) (s.map fun c => .str ⟨#[c]⟩)
  | [] => reps_nil
  | c :: s => reps_cons (by simp only [Rep]) (reps_txt s)
theorem zrep {as : List Addr} {m : Mem} {H : Hp} {d : FS.D} {v : V} {p : List FS.D × Guard} (R : Rel G K as m H) (r : Rep G K as H d v) (h : zipOf m d = some p) : ∃ k xs, ZOk K H v xs k ∧ ZRep G K as H p.1 p.2 k := by
  cases d <;> first
    | (exfalso; simp [zipOf, lstOf] at h; done)
    | skip
  · rename_i s
    cases h
    cases rep_str r
    refine ⟨.txt ⟨s.toArray⟩, _, ⟨rfl, rfl⟩, fun as' m' H' R' g' _ => ⟨_, rfl, ?_⟩⟩
    show Reps G K as' H' (s.map fun c => .str [c]) (s.toArray.toList.map fun c => .str ⟨#[c]⟩)
    rw [List.toList_toArray]
    exact reps_txt s
  · cases h
    obtain ⟨q, vs, rfl, hq, rs⟩ := rep_rol r
    exact ⟨.lst q, vs, ⟨rfl, hq.seq⟩, fun as' m' H' R' g' _ => ⟨vs, (hq.grow g').seq, rs.grow g'⟩⟩
  · rename_i n
    obtain ⟨q, rfl, hq⟩ := rep_ref r
    simp only [zipOf, lstOf] at h
    split at h
    · rename_i ds hm
      cases h
      obtain ⟨vs, h0, rs⟩ := R.lst hq hm
      refine ⟨.lst q, vs, ⟨rfl, SqL.of h0⟩, fun as' m' H' R' g' hg => ?_⟩
      obtain ⟨vs', h0', rs'⟩ := R'.lst (g'.ix hq) (gOk_of hg (List.mem_singleton.mpr rfl))
      exact ⟨vs', SqL.of h0', rs'⟩
    · cases h
theorem ZOk.grow {as as' : List Addr} {m m' : Mem} {H H' : Hp} {d : FS.D} {v : V} {p : List FS.D × Guard} (R' : Rel G K as' m' H') (r : Rep G K as H d v) (g : Grow as H as' H') (h : zipOf m' d = some p) : ∃ k xs, ZOk K H' v xs k ∧ ZRep G K as' H' p.1 p.2 k := zrep R' (r.grow g) h
end
end FS
namespace FS
open PySem PySem.Spec PyProof.Rows
def obY (as : List Addr) (fa : List He.Fa) (fn : List He.DefD) (tf : List He.Defn) (ex : PySem.W.Frag → Bool) (g : Addr → Option Obj) : He.AlX :=
  let K := He.frT g as
  (He.obsT fa fn [] K, ex K && He.tabsB g tf K)
theorem tabY {g : Addr → Option Obj} {tf : List He.Defn} {K : PySem.W.Frag} (h : He.tabsB g tf K = true) : ∀ p ∈ tf, PySem.W.codeHdIn K (He.cT K p).1 (He.cT K p).2 = true ∧ ∃ o, g (He.cT K p).2 = some o ∧ He.emptyTab o = true := by
  intro p hp
  have hq := List.all_eq_true.mp h p hp
  rw [Bool.and_eq_true] at hq
  refine ⟨hq.1, ?_⟩
  have h2 := hq.2
  cases e : g (He.cT K p).2 with
  | some o => rw [e] at h2; exact ⟨o, rfl, h2⟩
  | none => rw [e] at h2; exact absurd h2 (by decide)
theorem saysY {as : List Addr} {fa : List He.Fa} {fn : List He.DefD} {tf : List He.Defn} {ex : PySem.W.Frag → Bool} {w : World} {h : Heap} (e : obY as fa fn tf ex h.get? = He.valX fn [] w) :
    He.SaysX fa fn [] tf ex w h (He.frT h.get? as) := by
  obtain ⟨e1, e2⟩ := Prod.mk.inj e
  rw [Bool.and_eq_true] at e2
  have T := tabY e2.2
  constructor
  · exact e1
  · exact e2.1
  · exact fun p hp => (T p hp).1
  · intro p hp
    obtain ⟨o, ho, ht⟩ := (T p hp).2
    exact He.frT_none ho ht
  · intro p hp
    obtain ⟨o, ho, ht⟩ := (T p hp).2
    rw [ho, He.emptyTab_eq ht]
def hookY (as : List Addr) (fa : List He.Fa) (fn : List He.DefD) (tf : List He.Defn) (ex : PySem.W.Frag → Bool) : PySem.W.Hook :=
  { α := He.AlX
    obs := fun s => obY as fa fn tf ex s.heap.get?
    val := fun w => He.valX fn [] w
    says := (He.hookX 0 fa fn [] tf ex).says
    of := fun _ _ e => ⟨He.frT _ as, He.frT_in, saysY e⟩
    keeps := (He.hookX 0 fa fn [] tf ex).keeps }
theorem obY_eq {as : List Addr} {fa : List He.Fa} {fn : List He.DefD} {tf : List He.Defn} {ex : PySem.W.Frag → Bool} {g : Addr → Option Obj} {s : Shared} (h : ∀ a, g a = s.heap.get? a) : obY as fa fn tf ex g = (hookY as fa fn tf ex).obs s :=
  congrArg (obY as fa fn tf ex) (funext h)
theorem omap_fst {α β γ : Type} {o : Option α} {f : α → β} {g : α → γ} {a : β} {b : γ} (h : o.map (fun s => (f s, g s)) = some (a, b)) : o.map f = some a := by
  cases o with
  | none => cases h
  | some x => exact congrArg some (Prod.mk.inj (Option.some.inj h)).1
theorem omap_snd {α β γ : Type} {o : Option α} {f : α → β} {g : α → γ} {a : β} {b : γ} (h : o.map (fun s => (f s, g s)) = some (a, b)) : o.map g = some b := by
  cases o with
  | none => cases h
  | some x => exact congrArg some (Prod.mk.inj (Option.some.inj h)).2
theorem omapAnd {α : Type} {o : Option α} {f g : α → Bool} (h : o.map f = some true) (k : o.map g = some true) : o.map (fun s => f s && g s) = some true := by
  cases o with
  | none => cases h
  | some x =>
    have h : f x = true := by simpa using h
    have k : g x = true := by simpa using k
    simp [h, k]
abbrev KY (as : List Addr) (s : PySem.W.SharedT) : PySem.W.Frag := He.frT (HandSHeadRun.getT s) as
abbrev fnsW (fn : List He.DefD) (K : PySem.W.Frag) := (fn.all fun d => d.ok K, fn.map fun d => He.fnW K d.at_)
theorem dD_run {o : Option PySem.W.SharedT} {K : PySem.W.SharedT → PySem.W.Frag} {fa : List He.Fa} {fn : List He.DefD} (hf : o.map (fun s => fa.all fun f => f.ok (K s)) = some true) (hn : o.map (fun s => fnsW fn (K s)) = some (true, fn.map He.DefD.val)) :
    o.map (fun s => He.obsD fa fn (K s)) = some (He.valD fn) := by
  cases o with
  | none => cases hf
  | some x =>
    simp only [Option.map_some, Option.some.injEq, Prod.mk.injEq] at hf hn ⊢
    show ((_ && _), _) = (true, _)
    rw [hf, hn.1, hn.2]; rfl
theorem obY_run {w : World} {o : Option PySem.W.SharedT} {as : List Addr} {fa : List He.Fa} {fn : List He.DefD} {tf : List He.Defn} {ex : PySem.W.Frag → Bool} (hf : o.map (fun s => fa.all fun f => f.ok (KY as s)) = some true) (hn : o.map (fun s => fnsW fn (KY as s)) = some (true, fn.map He.DefD.val))
    (hx : o.map (fun s => ex (KY as s)) = some true) (ht : o.map (fun s => He.tabsB (HandSHeadRun.getT s) tf (KY as s)) = some true) : o.map (fun s => obY as fa fn tf ex (HandSHeadRun.getT s)) = some (He.valX fn [] w) := by
  have hd := dD_run (K := KY as) hf hn
  have h2 := omapAnd hx ht
  cases o with
  | none => cases hf
  | some x =>
    simp only [Option.map_some, Option.some.injEq] at hd h2 ⊢
    show ((He.obsD fa fn (KY as x), []), _) = ((He.valD fn, []), true)
    rw [hd]
    exact congrArg (Prod.mk _) h2
section
open PySem.W PySem.Calls HandSHeadRun
noncomputable abbrev runEnd (r : OpenRow) (M : Nat) (w : World) (os : OsState) := endF (stepQ (denQ tabQ) r.prog w) M r.prog w os
theorem runEq_of {r : OpenRow} {q : Program} {H : PySem.W.Hook} {ob : SharedT → H.α} {M : Nat} {loose : List PySem.Str} {w : World}
    (h : ∀ os : OsState, (runEnd r M w os).map (fun s => (looksF r.prog (boot_heap w.params) s.abs, seenQ q loose (importedModules r.prog.main.body) (fun s => xlAt q [] s && recOk r.toRowW.records s) s.abs)) = some (true, openGood q loose))
    (k : ∀ os : OsState, (runEnd r M w os).map ob = some (H.val w)) : RunEq r q H ob M loose w := by
  intro os
  have a := h os
  have b := k os
  unfold runEnd at a b
  revert a b
  generalize endF (stepQ (denQ tabQ) r.prog w) M r.prog w os = o
  intro a b
  cases o with
  | none => cases a
  | some x =>
    simp only [Option.map_some, Option.some.injEq, Prod.mk.injEq] at a b ⊢
    exact ⟨a.1, a.2, b⟩
end
section
variable (T : Tb) (K : PySem.W.Frag)
def Tb.q1 : Bool := ((T.im ++ T.mu).all fun c => T.fn.all fun f => (He.Fa.noat (T.cnm c) f.2).ok K) &&
  (He.eqO (PySem.W.specialIn K (.builtin "object.__class__") "__get__") (some (some (.builtin "getset_descriptor.__get__"))) && decide (PySem.W.takesIn K (.builtin "object.__class__") = some true))
def Tb.q2 : Bool := (T.im ++ T.mu).all fun c => T.cn.all fun e => decide (PySem.W.kitOne K (.ref (He.ga K (T.cnm c))) (.ref (He.ga K e.2)) = some (T.sb.contains (c, e.1)))
def Tb.q3 : Bool := ((T.xc.all fun c => excB K (He.ga K (T.cnm c)) && ((T.cn.all fun e => decide (PySem.W.kitOne K (.ref (He.ga K (T.cnm c))) (.ref (He.ga K e.2)) = some (T.sb.contains (c, e.1)))) && (tys5.all fun n => decide (PySem.W.kitOne K (.ref (He.ga K (T.cnm c))) (.type n) = some false)))) && (T.xc.isEmpty || (T.im ++ T.mu ++ T.xc).all fun c => decide (PySem.W.kitOne K (.ref (He.ga K (T.cnm c))) (.type "ValueError") = some (T.xc.contains c)))) && ((T.cn.all fun e => tys6.all fun n => decide (PySem.W.kitOne K (.type n) (.ref (He.ga K e.2)) = some false)) &&
  ((T.im ++ T.mu).all fun c => tys5.all fun n => decide (PySem.W.kitOne K (.ref (He.ga K (T.cnm c))) (.type n) = some false)))
def Tb.q4 : Bool := (T.mt.all fun p => methB K (He.ga K (T.cnm p.1.1)) (T.mnm p.1.2) (He.fAd K (T.at_ p.2))) &&
  (T.ci.all fun p => match p.2 with
    | .bare => PySem.W.makesIn K (He.ga K (T.cnm p.1)) && (He.eqO (PySem.W.findIn K (.ref (He.ga K (T.cnm p.1))) "__init__") (some (some (.builtin "object.__init__"))) && PySem.W.keepIn K (.ref (He.ga K (T.cnm p.1))))
    | .imm f => mkB K (He.ga K (T.cnm p.1)) (He.fAd K (T.at_ f))
    | .chg f => mkB K (He.ga K (T.cnm p.1)) (He.fAd K (T.at_ f)))
end
end FS
namespace FS
open PySem PySem.Spec PyProof.Rows L2
section
variable {G : Gam} {X : Cx} {W : WX} {pos p2 p3 : Pos} {m : Mem} {as as' : List Addr} {H H' : Hp} {σ : L2.St} {δ : Sto} {K : PySem.W.Frag} {C : Ctx} {Z Z' : Ends} {tg : Expr} {t : Tg} {ea : E}
end
end FS
namespace FS
open PySem PySem.Spec PyProof.Rows L2
section
variable {G : Gam} {X : Cx} {W : WX} {pos : Pos} {m : Mem} {as as' : List Addr} {H H' : Hp} {σ : L2.St} {δ : Sto} {K : PySem.W.Frag} {C : Ctx} {ea eb : E}
end
def IsTrip (h : Heap) (v : Value) (p : Int × Int × Int) : Prop := ∃ a o t u w n, v = .ref a ∧ h.get? a = some o ∧ o.cls = .type "tuple" ∧ o.data = .seq #[.int p.1 t, .int p.2.1 u, .int p.2.2 w] n
theorem IsTrip.keeps {h h' : Heap} {v : Value} {p : Int × Int × Int} (q : IsTrip h v p) (k : ∀ b o, h.get? b = some o → o.cls = .type "tuple" → h'.get? b = some o) : IsTrip h' v p := by
  obtain ⟨a, o, t, u, w, n, e, ho, hc, hd⟩ := q
  exact ⟨a, o, t, u, w, n, e, k _ _ ho hc, hc, hd⟩
section
variable {prog : Program} {w : World} {A : Around} {E : Value → Shared → Prop} {s : Shared}
end
section
variable {G : Gam} {K : PySem.W.Frag} {m : Mem} {as as' : List Addr} {H H' : Hp}
end
end FS
namespace FS
open PySem PySem.Spec PyProof.Rows L2
section
variable {G : Gam} {X : Cx} {W : WX} {m : Mem} {as : List Addr} {H : Hp} {σ : L2.St} {δ : Sto} {K : PySem.W.Frag} {C : Ctx} {e o : Expr} {es : List Expr} {eo ee : E} {el : Es} {pos p2 : Pos}
theorem es_dclear (ho : PE X o (rdE G X.K W (evalE C eo))) (hbase : attributeBase o "clear" X.env (eval o X.env) = eval o X.env := by rfl) (hline : (p2.endLine == pos.line) = true := by rfl) :
    PE X (.Call (.Attribute o "clear" p2) [] [] pos) (rdE G X.K W (evalE C (.bm eo .dclear .nil))) :=
  pe_imp (pe_dclear ho hbase hline) fun σ H Q ⟨as, m, δ, R, S, q⟩ => ⟨as, m, δ, R, S, by
    simp only [evalE] at q
    refine q.bind.imp fun d as1 m1 H1 R1 g1 q1 v r1 => ?_
    cases hb : bk m1 d with
    | none => rw [hb] at q1; exact q1.elim
    | some k =>
      rw [hb] at q1
      cases k <;> first
        | exact (show False from q1).elim
        | skip
      cases d <;> first
        | (cases hb; done)
        | skip
      rename_i n
      obtain ⟨p, rfl, hp⟩ := rep_ref r1
      have q2 : Out G X.K (fun c H' => W (.ref (G.cls c)) none σ H') as1 H1 (if bk m1 (.ref n) = some .d then bm .dclear (.ref n) [] m1 else .no) fun d as' m' H' => ∀ v, Rep G X.K as' H' d v → Q v H' := q1
      rw [if_pos hb] at q2
      unfold bm at q2
      simp only at q2
      split at q2
      · rename_i kvs' hm3
        obtain ⟨ks, h0, rs⟩ := R1.at_ n p _ hp hm3
        obtain ⟨g4, R4⟩ := R1.put hp h0 nf_dK (o := .dK []) (mo := .dct false false []) fun g => ⟨_, upd_same, rfl⟩
        exact ⟨.inr (.inr (.inl ⟨rfl, .inl ⟨ks, h0⟩⟩)), p, ks, rfl, rfl, h0, q2 _ _ R4 g4 _ (by simp only [Rep])⟩
      · exact q2.elim⟩
end
end FS
namespace FS
open PySem PySem.Spec PyProof.Rows L2
section
variable {G : Gam} {X : Cx} {K : PySem.W.Frag}
end
end FS
namespace FS
open PySem L2
section
variable {G : Gam} {K : PySem.W.Frag} {as : List Addr} {H : Hp} {o : List (Nat × Addr × V)} {sl : Nat → Bool}
mutual
theorem Rep.cln : ∀ {d : FS.D} {v : V}, cleanD d = true → Rep (G.ow o sl) K as H d v → Rep G K as H d v
  | .non, _, _, h => by simp only [Rep] at h ⊢; exact h
  | .bl _, _, _, h => by simp only [Rep] at h ⊢; exact h
  | .int _, _, _, h => by simp only [Rep] at h ⊢; exact h
  | .str _, _, _, h => by simp only [Rep] at h ⊢; exact h
  | .tup ds, _, c, h => by
    simp only [Rep] at h ⊢
    obtain ⟨p, vs, e, hn, hp, r⟩ := h
    exact ⟨p, vs, e, hn, hp, Reps.cln (by simpa only [cleanD] using c) r⟩
  | .rol ds, _, c, h => by
    simp only [Rep] at h ⊢
    obtain ⟨p, vs, e, hp, r⟩ := h
    exact ⟨p, vs, e, hp, Reps.cln (by simpa only [cleanD] using c) r⟩
  | .ins _ ds, _, c, h => by
    simp only [Rep] at h ⊢
    obtain ⟨p, dx, vs, e, hn, hc, hp, hl, r⟩ := h
    exact ⟨p, dx, vs, e, hn, hc, hp, hl, Reps.cln (by simpa only [cleanD] using c) r⟩
  | .ref _, _, _, h => by simp only [Rep] at h ⊢; exact h
  | .exc _, _, _, h => by simp only [Rep] at h ⊢; exact h
  | .clo _ _, _, c, _ => by simp [cleanD] at c
theorem Reps.cln : ∀ {ds : List FS.D} {vs : List V}, cleanDs ds = true → Reps (G.ow o sl) K as H ds vs → Reps G K as H ds vs
  | [], _, _, h => by simp only [Reps] at h ⊢; exact h
  | d :: ds, _, c, h => by
    simp only [Reps] at h ⊢
    simp only [cleanDs, Bool.and_eq_true] at c
    obtain ⟨v, r, e, h1, h2⟩ := h
    exact ⟨v, r, e, Rep.cln c.1 h1, Reps.cln c.2 h2⟩
end
mutual
theorem Rep.toow (hz : G.own = []) : ∀ {d : FS.D} {v : V}, Rep G K as H d v → Rep (G.ow o sl) K as H d v
  | .non, _, h => by simp only [Rep] at h ⊢; exact h
  | .bl _, _, h => by simp only [Rep] at h ⊢; exact h
  | .int _, _, h => by simp only [Rep] at h ⊢; exact h
  | .str _, _, h => by simp only [Rep] at h ⊢; exact h
  | .tup ds, _, h => by
    simp only [Rep] at h ⊢
    obtain ⟨p, vs, e, hn, hp, r⟩ := h
    exact ⟨p, vs, e, hn, hp, Reps.toow hz r⟩
  | .rol ds, _, h => by
    simp only [Rep] at h ⊢
    obtain ⟨p, vs, e, hp, r⟩ := h
    exact ⟨p, vs, e, hp, Reps.toow hz r⟩
  | .ins _ ds, _, h => by
    simp only [Rep] at h ⊢
    obtain ⟨p, dx, vs, e, hn, hc, hp, hl, r⟩ := h
    exact ⟨p, dx, vs, e, hn, hc, hp, hl, Reps.toow hz r⟩
  | .ref _, _, h => by simp only [Rep] at h ⊢; exact h
  | .exc _, _, h => by simp only [Rep] at h ⊢; exact h
  | .clo f ds, _, h => by
    simp only [Rep] at h ⊢
    obtain ⟨p, I, cl, c, ws, e, hn, hi, hp, hcn, hc, C, r⟩ := h
    refine ⟨p, I, cl, c, ws, e, hn, hi, hp, hcn, hc, ⟨C.len, C.inj, C.sub, fun i y hy => ?_⟩, Reps.toow hz r⟩
    obtain ⟨c', v', h1, h2, h3⟩ := C.has i y hy
    refine ⟨c', v', h1, h2, ?_⟩
    rcases h3 with h3 | ⟨j, hj⟩
    · exact .inl h3
    · rw [hz] at hj; cases hj
theorem Reps.toow (hz : G.own = []) : ∀ {ds : List FS.D} {vs : List V}, Reps G K as H ds vs → Reps (G.ow o sl) K as H ds vs
  | [], _, h => by simp only [Reps] at h ⊢; exact h
  | d :: ds, _, h => by
    simp only [Reps] at h ⊢
    obtain ⟨v, r, e, h1, h2⟩ := h
    exact ⟨v, r, e, Rep.toow hz h1, Reps.toow hz h2⟩
end
theorem KvsK.cln : ∀ {l : List (FS.D × FS.D)} {ks : List (Key × V)}, (l.all fun p => cleanD p.2) = true → KvsK (G.ow o sl) K as H l ks → KvsK G K as H l ks
  | [], _, _, h => h
  | p :: l, _, c, ⟨k, v, t, e, h1, h2, h3⟩ => by
    rw [List.all_cons, Bool.and_eq_true] at c
    exact ⟨k, v, t, e, h1, h2.cln c.1, KvsK.cln c.2 h3⟩
theorem KvsT.cln : ∀ {l : List (FS.D × FS.D)} {ks : List (List Key × V)}, (l.all fun p => cleanD p.2) = true → KvsT (G.ow o sl) K as H l ks → KvsT G K as H l ks
  | [], _, _, h => h
  | p :: l, _, c, ⟨k, v, t, e, h1, h2, h3⟩ => by
    rw [List.all_cons, Bool.and_eq_true] at c
    exact ⟨k, v, t, e, h1, h2.cln c.1, KvsT.cln c.2 h3⟩
theorem Flds.cln : ∀ {l : List (Nat × FS.D)} {ks : List (Str × V)}, (l.all fun p => cleanD p.2) = true → Flds (G.ow o sl) K as H l ks → Flds G K as H l ks
  | [], _, _, h => h
  | p :: l, _, c, ⟨v, t, e, hk, h2, h3⟩ => by
    rw [List.all_cons, Bool.and_eq_true] at c
    exact ⟨v, t, e, hk, h2.cln c.1, Flds.cln c.2 h3⟩
theorem KvsK.toow (hz : G.own = []) : ∀ {l : List (FS.D × FS.D)} {ks : List (Key × V)}, KvsK G K as H l ks → KvsK (G.ow o sl) K as H l ks
  | [], _, h => h
  | _ :: _, _, ⟨k, v, t, e, h1, h2, h3⟩ => ⟨k, v, t, e, h1, h2.toow hz, KvsK.toow hz h3⟩
theorem KvsT.toow (hz : G.own = []) : ∀ {l : List (FS.D × FS.D)} {ks : List (List Key × V)}, KvsT G K as H l ks → KvsT (G.ow o sl) K as H l ks
  | [], _, h => h
  | _ :: _, _, ⟨k, v, t, e, h1, h2, h3⟩ => ⟨k, v, t, e, h1, h2.toow hz, KvsT.toow hz h3⟩
theorem Flds.toow (hz : G.own = []) : ∀ {l : List (Nat × FS.D)} {ks : List (Str × V)}, Flds G K as H l ks → Flds (G.ow o sl) K as H l ks
  | [], _, h => h
  | _ :: _, _, ⟨v, t, e, hk, h2, h3⟩ => ⟨v, t, e, hk, h2.toow hz, Flds.toow hz h3⟩
theorem MRep.cln {p : Addr} {mo : MO} (c : cleanMO mo = true) (h : MRep (G.ow o sl) K as H p mo) : MRep G K as H p mo := by
  cases mo with
  | lst ds => obtain ⟨vs, e, r⟩ := h; exact ⟨vs, e, r.cln c⟩
  | obj k fs => obtain ⟨dx, vs, hc, e, r⟩ := h; exact ⟨dx, vs, hc, e, r.cln c⟩
  | dct t z kvs =>
    cases t <;> cases z
    · obtain ⟨ks, e, r⟩ := h; exact ⟨ks, e, r.cln c⟩
    · obtain ⟨ks, ob, e, r⟩ := h; exact ⟨ks, ob, e, r.cln c⟩
    · obtain ⟨ks, e, r⟩ := h; exact ⟨ks, e, r.cln c⟩
    · obtain ⟨ks, ob, e, r⟩ := h; exact ⟨ks, ob, e, r.cln c⟩
theorem MRep.toow (hz : G.own = []) {p : Addr} {mo : MO} (h : MRep G K as H p mo) : MRep (G.ow o sl) K as H p mo := by
  cases mo with
  | lst ds => obtain ⟨vs, e, r⟩ := h; exact ⟨vs, e, r.toow hz⟩
  | obj k fs => obtain ⟨dx, vs, hc, e, r⟩ := h; exact ⟨dx, vs, hc, e, r.toow hz⟩
  | dct t z kvs =>
    cases t <;> cases z
    · obtain ⟨ks, e, r⟩ := h; exact ⟨ks, e, r.toow hz⟩
    · obtain ⟨ks, ob, e, r⟩ := h; exact ⟨ks, ob, e, r.toow hz⟩
    · obtain ⟨ks, e, r⟩ := h; exact ⟨ks, e, r.toow hz⟩
    · obtain ⟨ks, ob, e, r⟩ := h; exact ⟨ks, ob, e, r.toow hz⟩
theorem Rel.cln {m : Mem} (c : cleanM m = true) (h : Rel (G.ow o sl) K as m H) : Rel G K as m H :=
  ⟨h.len, h.nd, fun i p mo e1 e2 => (h.at_ i p mo e1 e2).cln (List.all_eq_true.mp c mo (List.mem_of_getElem? e2)), h.tabs⟩
theorem Rel.toow (hz : G.own = []) {m : Mem} (h : Rel G K as m H) : Rel (G.ow o sl) K as m H :=
  ⟨h.len, h.nd, fun i p mo e1 e2 => (h.at_ i p mo e1 e2).toow hz, h.tabs⟩
theorem cleanS_at {δ : Sto} {i : Nat} {d : FS.D} (h : (cleanS δ)[i]? = some (some d)) : δ[i]? = some (some d) ∧ cleanD d = true := by
  unfold cleanS at h
  rw [List.getElem?_map] at h
  cases e : δ[i]? with
  | none => rw [e] at h; cases h
  | some x =>
    rw [e] at h
    cases x with
    | none => cases h
    | some d' =>
      simp only [Option.map_some] at h
      by_cases c : cleanD d' = true
      · rw [if_pos c] at h
        cases h
        exact ⟨rfl, c⟩
      · rw [if_neg c] at h
        cases h
theorem St2.cln (hz : G.own = []) {δ : Sto} {σ : L2.St} (h : St2 (G.ow o sl) K as H δ σ) : St2 G K as H (cleanS δ) σ :=
  ⟨by unfold cleanS; rw [List.length_map]; exact h.len, fun i d e => by
    obtain ⟨e1, e2⟩ := cleanS_at e
    obtain ⟨v, h1, h2⟩ := h.at_ i d e1
    exact ⟨v, h1, h2.cln e2⟩, fun j c v hm => by rw [hz] at hm; cases hm⟩
end
theorem es_pur {G : Gam} {X : Cx} {W : WX} {C : Ctx} {e : Expr} {ee : E} {o : List (Nat × Addr × V)} {sl : Nat → Bool} (hz : G.own = []) (h : PE X e (rdE G X.K W (evalE C ee))) : PE X e (rdE (G.ow o sl) X.K W (evalE C (.pur ee))) :=
  pe_imp h fun σ H Q ⟨as, m, δ, R, S, q⟩ => by
    simp only [evalE] at q
    by_cases c : cleanM m = true
    · rw [if_pos c] at q
      refine ⟨as, m, cleanS δ, R.cln c, S.cln hz, ?_⟩
      cases hr : evalE C ee (cleanS δ) m with
      | ok d m1 =>
        rw [hr] at q
        exact fun as1 H1 R1 g1 v r => q as1 H1 (R1.toow hz) g1 v (r.toow hz)
      | ex k m1 =>
        rw [hr] at q
        exact fun as1 H1 R1 g1 => q as1 H1 (R1.toow hz) g1
      | no => rw [hr] at q; exact q.elim
    · rw [if_neg c] at q
      exact q.elim
end FS
namespace HP
open PySem PySem.Spec PyProof.Rows L2 FS
def top (i : Nat) : Stmt := PySem.Challenge.pw_anymeaning_k21_worlds.main.body.getD i (.Pass ⟨0, 0, 0, 0⟩)
def b_357 : Ss :=
 (.cons (.set 2 (.fld (.var 0) 10))
 (.cons (.ret (.clo 2 (.cons (.var 1) .nil)))
 .nil))
def b_358 : Ss :=
 (.cons (.set 3 (.fld (.var 0) 11))
 (.cons (.ret (.clo 3 (.cons (.var 1) (.cons (.var 2) .nil))))
 .nil))
def C1_all_within : E :=
 (.chn .le .lt (.cst (.int 0)) (.var 2) (.var 1))
def B_all_within : Ss :=
 (.cons (.ret (.bi .all (.cons (.lc [2] (.seq (.var 0)) (.nm 2) .none C1_all_within) .nil)))
 .nil)
abbrev b_359 : Ss := B_all_within
def C1_looked_at : E :=
 (.cmp .inn (.var 2) (.var 1))
def L1_looked_at : Ss :=
 (.cons (.ifs (.or (.cmp .ne (.bi .len (.cons (.idx (.var 1) (.var 2)) .nil)) (.bi .len (.cons (.var 0) .nil))) (.not (.call 359 (.cons (.idx (.var 1) (.var 2)) (.cons (.bi .len (.cons (.var 0) .nil)) .nil)))))
 (.cons (.rse 33)
 .nil)
 .nil)
 .nil)
def B_looked_at : Ss :=
 (.cons (.ifs (.or (.cmp .eq (.var 0) (.lst .nil)) (.or (.cmp .gt (.bi .len (.cons (.var 0) .nil)) (.cst (.int 3000))) (.not (.call 359 (.cons (.var 0) (.cons (.cst (.int 16)) .nil))))))
 (.cons (.rse 33)
 .nil)
 .nil)
 (.cons (.ifs (.or (.cmp .ne (.bi .len (.cons (.var 1) .nil)) (.bi .len (.cons (.cst (.str [80, 81, 82, 83, 84])) .nil))) (.not (.bi .all (.cons (.lc [2] (.seq (.cst (.str [80, 81, 82, 83, 84]))) (.nm 2) .none C1_looked_at) .nil))))
 (.cons (.rse 33)
 .nil)
 .nil)
 (.cons (.frs (.nm 2) (.seq (.cst (.str [80, 81, 82, 83, 84]))) L1_looked_at)
 .nil)))
abbrev b_360 : Ss := B_looked_at
def L1_listed_world : Ss :=
 (.cons (.setI (.var 3) (.var 4) (.bi .list (.cons (.idx (.var 1) (.var 4)) .nil)))
 .nil)
def B_listed_world : Ss :=
 (.cons (.ex (.call 360 (.cons (.var 0) (.cons (.var 1) .nil))))
 (.cons (.set 2 (.bi .list (.cons (.var 0) .nil)))
 (.cons (.set 3 (.dct0 false))
 (.cons (.frs (.nm 4) (.seq (.cst (.str [80, 81, 82, 83, 84]))) L1_listed_world)
 (.cons (.ndef 5 480 [2])
 (.cons (.ndef 6 481 [3])
 (.cons (.ret (.make 15 (.cons (.var 5) (.cons (.var 6) .nil))))
 .nil)))))))
abbrev b_361 : Ss := B_listed_world
def B_law_cell_at : Ss :=
 (.cons (.ifs (.cmp .lt (.var 1) (.bi .len (.cons (.var 0) .nil)))
 (.cons (.ret (.idx (.var 0) (.var 1)))
 .nil)
 .nil)
 (.cons (.ret (.cst (.int 0)))
 .nil))
abbrev b_200 : Ss := B_law_cell_at
def B_law_whole : Ss :=
 (.cons (.ret (.and (.isi (.var 0) [.int]) (.not (.isi (.var 0) [.bool]))))
 .nil)
abbrev b_201 : Ss := B_law_whole
def B_law_mixed : Ss :=
 (.cons (.set 2 (.op .mod (.op .mul (.op .add (.op .add (.op .mod (.var 0) (.cst (.int 2147483647))) (.op .mul (.cst (.int 7919)) (.var 1))) (.cst (.int 1))) (.cst (.int 48271))) (.cst (.int 2147483647))))
 (.cons (.ret (.op .mod (.op .mul (.var 2) (.op .add (.op .fdiv (.var 2) (.cst (.int 1009))) (.cst (.int 69621)))) (.cst (.int 2147483647))))
 .nil))
abbrev b_202 : Ss := B_law_mixed
def B_law_number : Ss :=
 (.cons (.ret (.and (.call 201 (.cons (.var 0) .nil)) (.cmp .eq (.var 0) (.var 1))))
 .nil)
abbrev b_203 : Ss := B_law_number
def C1_law_endless : E :=
 (.op .add (.cst (.int 1)) (.op .mul (.cst (.int 2)) (.op .mod (.op .fdiv (.call 200 (.cons (.var 0) (.cons (.cst (.int 0)) .nil))) (.op .add (.var 8) (.cst (.int 1)))) (.cst (.int 50)))))
def C2_law_endless : E :=
 (.op .sub (.op .mod (.op .fdiv (.call 200 (.cons (.var 0) (.cons (.cst (.int 1)) .nil))) (.op .add (.var 8) (.cst (.int 1)))) (.op .pow (.cst (.int 10)) (.cst (.int 12)))) (.op .pow (.cst (.int 10)) (.cst (.int 11))))
def C3_law_endless : E :=
 (.call 200 (.cons (.var 0) (.cons (.var 8) .nil)))
def L1_law_endless : Ss :=
 (.cons (.set 9 (.op .add (.op .mul (.op .fdiv (.var 7) (.cst (.int 16))) (.idx (.var 1) (.var 8))) (.idx (.var 2) (.var 8))))
 (.cons (.ifs (.not (.call 203 (.cons (.meth (.var 5) 8 (.cons (.idx (.cst (.str [80, 81, 82, 83, 84])) (.var 8)) (.cons (.var 7) .nil))) (.cons (.var 9) .nil))))
 (.cons (.ret (.cst (.bl false)))
 .nil)
 .nil)
 .nil))
def L2_law_endless : Ss :=
 (.cons (.set 7 (.op .sub (.op .mod (.var 6) (.op .mul (.cst (.int 2)) (.op .pow (.cst (.int 10)) (.cst (.int 40))))) (.op .pow (.cst (.int 10)) (.cst (.int 40)))))
 (.cons (.ifs (.not (.call 203 (.cons (.meth (.var 5) 7 (.cons (.var 7) .nil)) (.cons (.op .mod (.var 7) (.cst (.int 16))) .nil))))
 (.cons (.ret (.cst (.bl false)))
 .nil)
 .nil)
 (.cons (.frs (.nm 8) (.rng (.cst (.int 0)) (.cst (.int 5))) L1_law_endless)
 .nil)))
def B_law_endless : Ss :=
 (.cons (.set 1 (.lc [8] (.rng (.cst (.int 0)) (.cst (.int 5))) (.nm 8) .none C1_law_endless))
 (.cons (.set 2 (.lc [8] (.rng (.cst (.int 0)) (.cst (.int 5))) (.nm 8) .none C2_law_endless))
 (.cons (.ndef 3 207 [])
 (.cons (.ndef 4 208 [2, 1])
 (.cons (.cal (.cons (.set 5 (.make 15 (.cons (.var 3) (.cons (.var 4) .nil))))
 (.cons (.frs (.nm 6) (.seq (.pur (.lc [8] (.rng (.cst (.int 2)) (.cst (.int 6))) (.nm 8) .none C3_law_endless))) L2_law_endless)
 (.cons (.ret (.cst (.bl true)))
 .nil)))) .nil)))))
abbrev b_204 : Ss := B_law_endless
def C1_law_lists : E :=
 (.op .mod (.call 202 (.cons (.var 0) (.cons (.var 5) .nil))) (.cst (.int 16)))
def C2_law_lists : E :=
 (.op .mod (.call 202 (.cons (.var 0) (.cons (.op .add (.op .add (.cst (.int 100)) (.op .mul (.var 4) (.var 1))) (.var 5)) .nil))) (.var 1))
def L1_law_lists : Ss :=
 (.cons (.setI (.var 3) (.idx (.cst (.str [80, 81, 82, 83, 84])) (.var 4)) (.lc [5] (.rng (.cst (.int 0)) (.var 1)) (.nm 5) .none C2_law_lists))
 .nil)
def B_law_lists : Ss :=
 (.cons (.set 2 (.lc [5] (.rng (.cst (.int 0)) (.var 1)) (.nm 5) .none C1_law_lists))
 (.cons (.set 3 (.dct0 false))
 (.cons (.frs (.nm 4) (.rng (.cst (.int 0)) (.cst (.int 5))) L1_law_lists)
 (.cons (.ret (.tup (.cons (.var 2) (.cons (.var 3) .nil))))
 .nil))))
abbrev b_205 : Ss := B_law_lists
def L1_law : Ss :=
 (.cons (.setI (.var 5) (.var 6) (.bi .list (.cons (.idx (.var 3) (.var 6)) .nil)))
 .nil)
def L2_law : Ss :=
 (.cons (.ex (.bm (.idx (.var 5) (.var 6)) .clear .nil))
 .nil)
def L3_law : Ss :=
 (.cons (.ifs (.not (.call 203 (.cons (.meth (.var 7) 8 (.cons (.var 6) (.cons (.var 10) .nil))) (.cons (.idx (.idx (.var 3) (.var 6)) (.var 10)) .nil))))
 (.cons (.ret (.cst (.bl false)))
 .nil)
 .nil)
 .nil)
def L4_law : Ss :=
 (.cons (.ifs (.not (.call 203 (.cons (.meth (.var 7) 7 (.cons (.var 10) .nil)) (.cons (.idx (.var 2) (.var 10)) .nil))))
 (.cons (.ret (.cst (.bl false)))
 .nil)
 .nil)
 (.cons (.frs (.nm 6) (.seq (.cst (.str [80, 81, 82, 83, 84]))) L3_law)
 .nil))
def B_law : Ss :=
 (.cons (.ifs (.not (.call 204 (.cons (.var 0) .nil)))
 (.cons (.ret (.cst (.bl false)))
 .nil)
 .nil)
 (.cons (.set 1 (.op .add (.cst (.int 1)) (.op .mod (.call 200 (.cons (.var 0) (.cons (.cst (.int 6)) .nil))) (.cst (.int 12)))))
 (.cons (.unp (.tp [(.nm 2), (.nm 3)]) (.call 205 (.cons (.call 200 (.cons (.var 0) (.cons (.cst (.int 7)) .nil))) (.cons (.var 1) .nil))))
 (.cons (.set 4 (.bi .list (.cons (.var 2) .nil)))
 (.cons (.set 5 (.dct0 false))
 (.cons (.frs (.nm 6) (.seq (.cst (.str [84, 83, 82, 81, 80]))) L1_law)
 (.cons (.set 7 (.call 361 (.cons (.var 4) (.cons (.var 5) .nil))))
 (.cons (.ifs (.or (.cmp .ne (.var 4) (.var 2)) (.cmp .ne (.var 5) (.var 3)))
 (.cons (.ret (.cst (.bl false)))
 .nil)
 .nil)
 (.cons (.frs (.nm 6) (.seq (.cst (.str [80, 81, 82, 83, 84]))) L2_law)
 (.cons (.ex (.bm (.var 5) .dclear .nil))
 (.cons (.ex (.bm (.var 4) .append (.cons (.cst (.int 3)) .nil)))
 (.cons (.unp (.tp [(.nm 8), (.nm 9)]) (.call 205 (.cons (.call 200 (.cons (.var 0) (.cons (.cst (.int 8)) .nil))) (.cons (.op .add (.var 1) (.cst (.int 1))) .nil))))
 (.cons (.ex (.call 361 (.cons (.var 8) (.cons (.var 9) .nil))))
 (.cons (.frs (.nm 10) (.rng (.cst (.int 0)) (.var 1)) L4_law)
 (.cons (.ret (.cst (.bl true)))
 .nil)))))))))))))))
abbrev b_206 : Ss := B_law
def B_listed_worldsays_listed : Ss :=
 (.cons (.ret (.idx (.var 1) (.var 0)))
 .nil)
abbrev b_480 : Ss := B_listed_worldsays_listed
def B_listed_worldleads_listed : Ss :=
 (.cons (.ret (.idx (.idx (.var 2) (.var 0)) (.var 1)))
 .nil)
abbrev b_481 : Ss := B_listed_worldleads_listed
def B_law_endless_law_says : Ss :=
 (.cons (.ret (.op .mod (.var 0) (.cst (.int 16))))
 .nil)
abbrev b_207 : Ss := B_law_endless_law_says
def B_law_endless_law_leads : Ss :=
 (.cons (.set 4 (.bm (.cst (.str [80, 81, 82, 83, 84])) .find (.cons (.var 0) .nil)))
 (.cons (.ret (.op .add (.op .mul (.op .fdiv (.var 1) (.cst (.int 16))) (.idx (.var 3) (.var 4))) (.idx (.var 2) (.var 4))))
 .nil))
abbrev b_208 : Ss := B_law_endless_law_leads
def l_115 : Es := (.cons (.var 1) (.cons (.var 2) .nil))
def nmT : Nat → Nat → PySem.Str := fun l _ => if l == 39 then "listed_world.<locals>.says_listed" else if l == 42 then "listed_world.<locals>.leads_listed" else if l == 61 then "_law_endless.<locals>._law_says" else if l == 64 then "_law_endless.<locals>._law_leads" else default
def I_480 : CloI := ⟨((defBody (top 9)).getD 4 (.Pass ⟨0, 0, 0, 0⟩)), "says_listed", "listed_world.<locals>.says_listed", ["state"], ["told"], none⟩
def I_481 : CloI := ⟨((defBody (top 9)).getD 5 (.Pass ⟨0, 0, 0, 0⟩)), "leads_listed", "listed_world.<locals>.leads_listed", ["deed", "state"], ["moves"], none⟩
def I_207 : CloI := ⟨((defBody (top 15)).getD 2 (.Pass ⟨0, 0, 0, 0⟩)), "_law_says", "_law_endless.<locals>._law_says", ["_law_state"], [], none⟩
def I_208 : CloI := ⟨((defBody (top 15)).getD 3 (.Pass ⟨0, 0, 0, 0⟩)), "_law_leads", "_law_endless.<locals>._law_leads", ["_law_deed", "_law_state"], ["_law_sums", "_law_products"], none⟩
def T : Tb where
  cn := [(15, "World"), (30, "MeaningError"), (33, "NoWorld")]
  im := [15]
  mu := []
  fn := [(10, "says"), (11, "leads")]
  mn := [(7, "setting"), (8, "led")]
  fl := [(15, [10, 11])]
  fs := [(357, ("World", some "setting")), (358, ("World", some "led")), (359, ("all_within", none)), (360, ("looked_at", none)), (361, ("listed_world", none)), (200, ("_law_cell_at", none)), (201, ("_law_whole", none)), (202, ("_law_mixed", none)), (203, ("_law_number", none)), (204, ("_law_endless", none)), (205, ("_law_lists", none)), (206, ("law", none)), (115, ("World", some "__init__"))]
  mt := [((15, 7), 357), ((15, 8), 358)]
  ci := [(15, .imm 115)]
  sb := [(15, 15), (30, 30), (33, 30), (33, 33)]
  pr := [(357, .fn 2 3 b_357),
    (358, .fn 3 4 b_358),
    (359, .fn 2 3 b_359),
    (360, .fn 2 3 b_360),
    (361, .fn 2 7 b_361),
    (200, .fn 2 2 b_200),
    (201, .fn 1 1 b_201),
    (202, .fn 2 3 b_202),
    (203, .fn 2 2 b_203),
    (204, .fn 1 10 b_204),
    (205, .fn 2 6 b_205),
    (206, .fn 1 11 b_206),
    (480, .fn 2 2 b_480),
    (481, .fn 3 3 b_481),
    (207, .fn 1 1 b_207),
    (208, .fn 4 5 b_208),
    (115, .ini 15 2 3 l_115)]
  ps := [(357, ["self", "state"]), (358, ["self", "deed", "state"]), (359, ["numbers", "bound"]), (360, ["settings", "leads"]), (361, ["settings", "leads"]), (200, ["_law_script", "_law_k"]), (201, ["_law_found"]), (202, ["_law_cell", "_law_k"]), (203, ["_law_found", "_law_due"]), (204, ["_law_script"]), (205, ["_law_cell", "_law_many"]), (206, ["_law_script"]), (115, ["self", "says", "leads"])]
  fuel := 4000
  cl := [(480, I_480), (481, I_481), (207, I_207), (208, I_208)]
  tn := [(("listed_world", none), nmT), (("_law_endless", none), nmT)]
theorem fns_357 : T.P.fns 357 = some (.fn 2 3 b_357) := rfl
theorem fns_358 : T.P.fns 358 = some (.fn 3 4 b_358) := rfl
theorem fns_359 : T.P.fns 359 = some (.fn 2 3 b_359) := rfl
abbrev F_all_within : Nat := 359
theorem fns_360 : T.P.fns 360 = some (.fn 2 3 b_360) := rfl
abbrev F_looked_at : Nat := 360
theorem fns_361 : T.P.fns 361 = some (.fn 2 7 b_361) := rfl
abbrev F_listed_world : Nat := 361
theorem N_listed_world : T.P.fns F_listed_world = some (.fn 2 7 B_listed_world) := fns_361
theorem fns_200 : T.P.fns 200 = some (.fn 2 2 b_200) := rfl
abbrev F_law_cell_at : Nat := 200
theorem N_law_cell_at : T.P.fns F_law_cell_at = some (.fn 2 2 B_law_cell_at) := fns_200
theorem fns_201 : T.P.fns 201 = some (.fn 1 1 b_201) := rfl
abbrev F_law_whole : Nat := 201
theorem N_law_whole : T.P.fns F_law_whole = some (.fn 1 1 B_law_whole) := fns_201
theorem fns_202 : T.P.fns 202 = some (.fn 2 3 b_202) := rfl
abbrev F_law_mixed : Nat := 202
theorem N_law_mixed : T.P.fns F_law_mixed = some (.fn 2 3 B_law_mixed) := fns_202
theorem fns_203 : T.P.fns 203 = some (.fn 2 2 b_203) := rfl
abbrev F_law_number : Nat := 203
theorem N_law_number : T.P.fns F_law_number = some (.fn 2 2 B_law_number) := fns_203
theorem fns_204 : T.P.fns 204 = some (.fn 1 10 b_204) := rfl
abbrev F_law_endless : Nat := 204
theorem N_law_endless : T.P.fns F_law_endless = some (.fn 1 10 B_law_endless) := fns_204
theorem fns_205 : T.P.fns 205 = some (.fn 2 6 b_205) := rfl
abbrev F_law_lists : Nat := 205
theorem N_law_lists : T.P.fns F_law_lists = some (.fn 2 6 B_law_lists) := fns_205
theorem fns_206 : T.P.fns 206 = some (.fn 1 11 b_206) := rfl
abbrev F_law : Nat := 206
theorem N_law : T.P.fns F_law = some (.fn 1 11 B_law) := fns_206
theorem fns_480 : T.P.fns 480 = some (.fn 2 2 b_480) := rfl
abbrev F_listed_worldsays_listed : Nat := 480
theorem N_listed_worldsays_listed : T.P.fns F_listed_worldsays_listed = some (.fn 2 2 B_listed_worldsays_listed) := fns_480
theorem fns_481 : T.P.fns 481 = some (.fn 3 3 b_481) := rfl
abbrev F_listed_worldleads_listed : Nat := 481
theorem N_listed_worldleads_listed : T.P.fns F_listed_worldleads_listed = some (.fn 3 3 B_listed_worldleads_listed) := fns_481
theorem fns_207 : T.P.fns 207 = some (.fn 1 1 b_207) := rfl
abbrev F_law_endless_law_says : Nat := 207
theorem N_law_endless_law_says : T.P.fns F_law_endless_law_says = some (.fn 1 1 B_law_endless_law_says) := fns_207
theorem fns_208 : T.P.fns 208 = some (.fn 4 5 b_208) := rfl
abbrev F_law_endless_law_leads : Nat := 208
theorem N_law_endless_law_leads : T.P.fns F_law_endless_law_leads = some (.fn 4 5 B_law_endless_law_leads) := fns_208
theorem fns_115 : T.P.fns 115 = some (.ini 15 2 3 l_115) := rfl
@[simp] theorem mt_15_7 : T.P.mt 15 7 = some 357 := rfl
@[simp] theorem mt_15_8 : T.P.mt 15 8 = some 358 := rfl
@[simp] theorem flds_15 : T.P.flds 15 = [10, 11] := rfl
@[simp] theorem cini_15 : T.P.cini 15 = some (.imm 115) := rfl
@[simp] theorem sub_15_15 : T.P.sub 15 15 = true := rfl
@[simp] theorem sub_30_15 : T.P.sub 30 15 = false := rfl
@[simp] theorem sub_33_15 : T.P.sub 33 15 = false := rfl
@[simp] theorem sub_30_30 : T.P.sub 30 30 = true := rfl
@[simp] theorem sub_30_33 : T.P.sub 30 33 = false := rfl
@[simp] theorem sub_33_30 : T.P.sub 33 30 = true := rfl
@[simp] theorem sub_33_33 : T.P.sub 33 33 = true := rfl
def xsT : List Nat := [33]
@[simp] theorem fuel_T : T.P.fuel = 4000 := rfl
def fa : List He.Fa := [.str "DEEDS" "PQRST", .int "MOST_STATES" 3000, .free "all", .free "bool", .free "int", .free "isinstance", .free "len", .free "list", .free "range", .glo "World", .glo "MeaningError", .glo "NoWorld", .glo "all_within", .glo "looked_at", .glo "listed_world", .glo "_law_cell_at", .glo "_law_whole", .glo "_law_mixed", .glo "_law_number", .glo "_law_endless", .glo "_law_lists", .glo "law"]
def d_357 : He.DefD := ⟨("World", some "setting"), "setting", "World.setting", defArgs (inClass (top 6) 1), defBody (inClass (top 6) 1), defScope (inClass (top 6) 1), [], []⟩
def d_358 : He.DefD := ⟨("World", some "led"), "led", "World.led", defArgs (inClass (top 6) 2), defBody (inClass (top 6) 2), defScope (inClass (top 6) 2), [], []⟩
def d_359 : He.DefD := ⟨("all_within", none), "all_within", "all_within", defArgs (top 7), defBody (top 7), defScope (top 7), [], []⟩
def d_360 : He.DefD := ⟨("looked_at", none), "looked_at", "looked_at", defArgs (top 8), defBody (top 8), defScope (top 8), [], []⟩
def d_361 : He.DefD := ⟨("listed_world", none), "listed_world", "listed_world", defArgs (top 9), defBody (top 9), defScope (top 9), [], []⟩
def d_200 : He.DefD := ⟨("_law_cell_at", none), "_law_cell_at", "_law_cell_at", defArgs (top 11), defBody (top 11), defScope (top 11), [], []⟩
def d_201 : He.DefD := ⟨("_law_whole", none), "_law_whole", "_law_whole", defArgs (top 12), defBody (top 12), defScope (top 12), [], []⟩
def d_202 : He.DefD := ⟨("_law_mixed", none), "_law_mixed", "_law_mixed", defArgs (top 13), defBody (top 13), defScope (top 13), [], []⟩
def d_203 : He.DefD := ⟨("_law_number", none), "_law_number", "_law_number", defArgs (top 14), defBody (top 14), defScope (top 14), [], []⟩
def d_204 : He.DefD := ⟨("_law_endless", none), "_law_endless", "_law_endless", defArgs (top 15), defBody (top 15), defScope (top 15), [], []⟩
def d_205 : He.DefD := ⟨("_law_lists", none), "_law_lists", "_law_lists", defArgs (top 16), defBody (top 16), defScope (top 16), [], []⟩
def d_206 : He.DefD := ⟨("law", none), "law", "law", defArgs (top 17), defBody (top 17), defScope (top 17), [], []⟩
def d_115 : He.DefD := ⟨("World", some "__init__"), "__init__", "World.__init__", defArgs (inClass (top 6) 0), defBody (inClass (top 6) 0), defScope (inClass (top 6) 0), [], []⟩
def fnl : List He.DefD := [d_357, d_358, d_359, d_360, d_361, d_200, d_201, d_202, d_203, d_204, d_205, d_206, d_115]
abbrev R : PySem.W.OpenRow := PySem.W.OpenLaw.row PySem.Challenge.rw_anymeaning_k21_worlds
def names : List PySem.Str := (["__name__", "MeaningError", "NoWorld", "DEEDS", "MOST_STATES", "World", "all_within", "looked_at", "listed_world", "_law_cell_at", "_law_whole", "_law_mixed", "_law_number", "_law_endless", "_law_lists"] : List PySem.Str)
def chkA (K : PySem.W.Frag) : Bool := T.chk K && T.chkX xsT K
def tf : List He.Defn := T.tn.map (·.1)
def asL : List Addr := [3, 6, 4, 24, 37, 70, 79, 84, 91, 98, 105, 112, 119, 124, 129, 136, 0, 23, 36, 69, 78, 83, 90, 97, 104, 111, 118, 123, 128, 135, 22, 25, 35, 53, 60, 67, 68, 71, 72, 75, 76, 77, 80, 81, 82, 85, 86, 87, 88, 89, 92, 93, 94, 95, 96, 99, 100, 101, 102, 103, 106, 107, 108, 109, 110, 113, 114, 115, 116, 117, 120, 121, 122, 125, 126, 127, 130, 131, 132, 133, 134, 52, 59, 66, 47, 48, 49, 50, 51, 54, 55, 56, 57, 58, 61, 62, 63, 64, 65]
abbrev hk : PySem.W.Hook := hookY asL fa fnl tf chkA
def ob (s : PySem.W.SharedT) : He.AlX := obY asL fa fnl tf chkA (HandSHeadRun.getT s)
theorem ob_eq (s : PySem.W.SharedT) : ob s = hk.obs s.abs := obY_eq (HandSHeadRun.getT_eq s)
open PySem.W PySem.Calls in
theorem run1 (w : World) (os : OsState) : (runEnd R 12000 w os).map (fun s => (HandSHeadRun.looksF R.prog (PySem.W.boot_heap w.params) s.abs, HandSHeadRun.seenQ (PySem.W.view R.prog [17]) names (importedModules R.prog.main.body) (fun s => xlAt (PySem.W.view R.prog [17]) [] s && recOk R.toRowW.records s) s.abs)) = some (true, openGood (PySem.W.view R.prog [17]) names) := by kernel_rfl
open PySem.W PySem.Calls in
theorem run2 (w : World) (os : OsState) : (runEnd R 12000 w os).map (fun s => ((fa.all fun f => f.ok (KY asL s)), fnsW fnl (KY asL s))) = some (true, (true, fnl.map He.DefD.val)) := by kernel_rfl
open PySem.W PySem.Calls in
theorem run3 (w : World) (os : OsState) : (runEnd R 12000 w os).map (fun s => (chkA (KY asL s), He.tabsB (HandSHeadRun.getT s) tf (KY asL s))) = some (true, true) := by kernel_rfl
theorem run4 (w : World) (os : OsState) : (runEnd R 12000 w os).map ob = some (He.valX fnl [] w) := obY_run (omap_fst (run2 w os)) (omap_snd (run2 w os)) (omap_fst (run3 w os)) (omap_snd (run3 w os))
theorem run (w : World) : HandSHeadRun.RunEq R (PySem.W.view R.prog [17]) hk ob 12000 names w := runEq_of (H := hk) (run1 w) (run4 w)
end HP
namespace FV
open FS
inductive V where
  | non
  | bl (b : Bool)
  | int (i : Int)
  | str (s : List Nat)
  | tup (vs : List V)
  | rol (vs : List V)
  | lst (vs : List V)
  | dct (t : Bool) (kvs : List (D × V))
  | ins (c : Nat) (vs : List V)
  | obj (c : Nat) (fs : List (Nat × V))
  | exc (c : Nat)
  | clo (f : Nat) (vs : List V)
  | ldc (t : Bool) (kvs : List (D × V))
  deriving Inhabited
inductive Kd where
  | sh | ow | bo | lk
  deriving DecidableEq, Inhabited
abbrev VSto := List (Option (Kd × V))
inductive VR (α : Type) where
  | ok (a : α) (s : VSto)
  | ex (c : Nat) (s : VSto)
  | no
inductive CR where
  | ok (fr : Bool) (v : V)
  | ex (c : Nat)
  | no
inductive VS where
  | nx (s : VSto)
  | rt (fr : Bool) (v : V)
  | bk (s : VSto)
  | ct (s : VSto)
  | ex (c : Nat) (s : VSto)
  | no
def VR.bind {α β : Type} : VR α → (α → VSto → VR β) → VR β
  | .ok a s, f => f a s
  | .ex c s, _ => .ex c s
  | .no, _ => .no
def VR.bnd {β : Type} : VR (Bool × V) → (V → VSto → VR β) → VR β
  | .ok a s, f => f a.2 s
  | .ex c s, _ => .ex c s
  | .no, _ => .no
def VR.calm {α : Type} : VR α → VR α
  | .ok a s => .ok a s
  | _ => .no
def VR.toS {α : Type} : VR α → (α → VSto → VS) → VS
  | .ok a s, f => f a s
  | .ex c s, _ => .ex c s
  | .no, _ => .no
def VR.toSb : VR (Bool × V) → (V → VSto → VS) → VS
  | .ok a s, f => f a.2 s
  | .ex c s, _ => .ex c s
  | .no, _ => .no
def VS.cal : VS → VS
  | .ex _ _ => .no
  | r => r
def VS.seq : VS → (VSto → VS) → VS
  | .nx s, f => f s
  | r, _ => r
def CR.to (s : VSto) : CR → VR (Bool × V)
  | .ok fr v => .ok (fr, v) s
  | .ex c => .ex c s
  | .no => .no
def kV : D → V
  | .int i => .int i
  | .str s => .str s
  | .tup ds => .tup (ds.map fun d => match d with
    | .int i => .int i
    | .str s => .str s
    | _ => .non)
  | _ => .non
namespace V
def sc : V → Option D
  | non => some .non
  | bl b => some (.bl b)
  | int i => some (.int i)
  | str s => some (.str s)
  | _ => none
def ofD : D → Option V
  | .non => some non
  | .bl b => some (bl b)
  | .int i => some (int i)
  | .str s => some (str s)
  | _ => none
def isRef : V → Bool
  | lst _ | dct _ _ | obj _ _ | ldc _ _ => true
  | _ => false
def toK : V → Option D
  | int i => some (.int i)
  | str s => some (.str s)
  | tup vs => (vs.mapM fun v => match v with
    | int i => some (D.int i)
    | str s => some (D.str s)
    | _ => none).map D.tup
  | _ => none
def key (t : Bool) (v : V) : Option D := v.toK.bind fun d => if keyOk t d then some d else none
def allB : List V → Option (List Bool)
  | [] => some []
  | .bl b :: r => (allB r).map (b :: ·)
  | _ :: _ => none
def allI : List V → Option (List Int)
  | [] => some []
  | .int b :: r => (allI r).map (b :: ·)
  | _ :: _ => none
def allS : List V → Option (List (List Nat))
  | [] => some []
  | .str b :: r => (allS r).map (b :: ·)
  | _ :: _ => none
def dat : Nat → V → Option Dat
  | _, non => some .non
  | _, bl b => some (.bl b)
  | _, int i => some (.int i)
  | _, str s => if s.all (fun c => decide (c < 1114112)) then some (.str s) else none
  | n + 1, tup vs => (vs.mapM fun v => dat n v).map Dat.tup
  | n + 1, rol vs => (vs.mapM fun v => dat n v).map Dat.lst
  | n + 1, lst vs => (vs.mapM fun v => dat n v).map Dat.lst
  | _, _ => none
def lenL : V → Option Nat
  | rol vs => some vs.length
  | lst vs => some vs.length
  | _ => none
def neqL (x y : V) : Option Bool := match lenL x, lenL y with
  | some i, some j => if i = j then none else some false
  | _, _ => none
def get (kvs : List (D × V)) (k : D) : Option V := (kvs.find? fun p => D.beq p.1 k).map (·.2)
def dctV : V → Option (Bool × List (D × V))
  | dct t kvs => some (t, kvs)
  | _ => none
def datEq (a b : V) : Option Bool := match dat 58 a, dat 58 b with
  | some x, some y => some (Dat.eqv x y)
  | _, _ => none
def eqKv (ls : List (D × V)) : List (D × V) → Option Bool
  | [] => some true
  | p :: r => match get ls p.1 with
    | none => some false
    | some y => match datEq p.2 y, eqKv ls r with
      | some b, some c => some (b && c)
      | _, _ => none
def eqDct (a b : V) : Option Bool := match dctV a, dctV b with
  | some (t, ks), some (u, ls) => if ks.length = ls.length then (if ks.isEmpty then some true else if t || u then none else eqKv ls ks) else some false
  | _, _ => none
def eqv (x y : V) : Option Bool := match dat 60 x, dat 60 y with
  | some a, some b => some (Dat.eqv a b)
  | _, _ => match neqL x y with
    | some r => some r
    | none => eqDct x y
def put (kvs : List (D × V)) (k : D) (v : V) : List (D × V) := if kvs.any (fun p => D.beq p.1 k) then kvs.map (fun p => if D.beq p.1 k then (p.1, v) else p) else kvs ++ [(k, v)]
def drop (kvs : List (D × V)) (k : D) : List (D × V) := kvs.filter fun p => !D.beq p.1 k
def scs (vs : List V) : Option (List D) := vs.mapM sc
def isNon : V → Bool
  | non => true
  | _ => false
def inDat (x y : V) : Option Bool := match dat 58 x, dat 59 y with
  | some a, some (.lst l) => some (l.any fun z => Dat.eqv z a)
  | _, _ => none
def inV : V → V → Option Bool
  | str t, str z => some (findT t z).isSome
  | x, tup vs => x.sc.bind fun a => (scs vs).map fun ds => ds.any fun y => eqFlat y a
  | x, lst vs => match x.sc.bind fun a => (scs vs).map fun ds => ds.any fun y => eqFlat y a with
    | some r => some r
    | none => inDat x (lst vs)
  | x, dct t kvs => (x.key t).map fun k => (get kvs k).isSome
  | x, ldc t kvs => (x.key t).map fun k => (get kvs k).isSome
  | _, _ => none
def cmpG (o : Cm) (x y : V) : Option Bool := match x.sc, y.sc with
  | some a, some b => cmp2 o a b []
  | _, _ => match o with
    | .eq => eqv x y
    | .ne => (eqv x y).map (!·)
    | _ => none
def cmp : Cm → V → V → Option Bool
  | .inn, x, y => inV x y
  | .nin, x, y => (inV x y).map (!·)
  | .is, x, non => some x.isNon
  | .isn, x, non => some (!x.isNon)
  | o, x, y => cmpG o x y
def ofR : Res D → Option V
  | .ok d _ => ofD d
  | _ => none
def opG (o : O2) (x y : V) : Option V := match x.sc, y.sc with
  | some a, some b => ofR (op2 o a b [])
  | _, _ => none
def op : O2 → V → V → Option V
  | .add, lst a, lst b => if a.length + b.length ≤ LIM then some (lst (a ++ b)) else none
  | .add, tup a, tup b => if a.length + b.length ≤ LIM then some (tup (a ++ b)) else none
  | .mul, lst a, int k => if -9223372036854775808 ≤ k ∧ k < 9223372036854775808 ∧ a.length * k.toNat ≤ LIM then some (lst (List.replicate k.toNat a).flatten) else none
  | o, x, y => opG o x y
def idx : V → V → Option V
  | tup vs, int i => atI vs i
  | rol vs, int i => atI vs i
  | lst vs, int i => atI vs i
  | str s, int i => if s.length ≤ LIM then (atI s i).map fun c => str [c] else none
  | dct t kvs, k => (k.key t).bind (get kvs)
  | ldc t kvs, k => (k.key t).bind (get kvs)
  | _, _ => none
def slc : V → Option Int → Option Int → Option V
  | str s, lo, hi => if s.length ≤ LIM then some (str (cut s lo hi)) else none
  | rol vs, lo, hi => some (lst (cut vs lo hi))
  | lst vs, lo, hi => some (lst (cut vs lo hi))
  | tup vs, lo, hi => some (tup (cut vs lo hi))
  | _, _, _ => none
def ev2V : V → Option Int → Option V
  | lst vs, some i => if 0 ≤ i then some (lst (ev2 (vs.drop i.toNat))) else none
  | _, _ => none
def rev : V → Option V
  | lst vs => some (lst vs.reverse)
  | _ => none
def fld (fl : Nat → List Nat) (f : Nat) : V → Option V
  | ins c vs => ((fl c).findIdx? (· == f)).bind fun k => vs[k]?
  | obj _ fs => fs.lookup f
  | _ => none
def len : V → Option Nat
  | str s => if s.length ≤ LIM then some s.length else none
  | tup vs => some vs.length
  | rol vs => some vs.length
  | lst vs => some vs.length
  | dct _ kvs => some kvs.length
  | _ => none
def key3 : V → Option (Int × Int × Int)
  | tup [int a, int b, int c] => some (a, b, c)
  | _ => none
def v3 (p : Int × Int × Int) : V := tup [int p.1, int p.2.1, int p.2.2]
def bi : Bi → List V → Option V
  | .len, [v] => v.len.map fun (k : Nat) => int (k : Int)
  | .list, [lst vs] => some (lst vs)
  | .list, [rol vs] => some (lst vs)
  | .list, [tup vs] => some (lst vs)
  | .all, [lst vs] => (allB vs).map fun bs => bl (bs.all id)
  | .any, [lst vs] => (allB vs).map fun bs => bl (bs.any id)
  | .sum, [lst vs] => (allI vs).map fun ns => int ns.sum
  | .min1, [lst vs] => ((allI vs).bind minI).map int
  | .max1, [lst vs] => ((allI vs).bind maxI).map int
  | .min2, [int i, int j] => some (int (if j < i then j else i))
  | .max2, [int i, int j] => some (int (if j > i then j else i))
  | .abs, [int i] => some (int (if i < 0 then -i else i))
  | .int, [int i] => some (int i)
  | .int, [bl k] => some (int (if k then 1 else 0))
  | .str, [int i] => if 0 ≤ i ∧ i < 1000000 then some (str (digits i.toNat)) else none
  | .rlist, [int i, int j] => if -4611686018427387904 ≤ i ∧ i ≤ j ∧ j < 4611686018427387904 ∧ (j - i).toNat ≤ LIM then some (lst ((List.range (j - i).toNat).map fun (k : Nat) => int (i + (k : Int)))) else none
  | .sorted, [lst vs] => (vs.mapM key3).map fun l => lst ((sort3 l).map v3)
  | .list, [dct true kvs] => if kvs.all (fun p => keyOk true p.1) then some (lst (kvs.map fun p => kV p.1)) else none
  | .intS, [str s] => (intS s).bind ofD
  | .listS, [str s] => if s.length ≤ LIM then some (lst (s.map fun c => str [c])) else none
  | _, _ => none
def bm : Bm → V → List V → Option V
  | .find, str s, [str t] => some (int (findS t s))
  | .sindex, str s, [str t] => (findT t s).map fun (k : Nat) => int (k : Int)
  | .index, lst vs, [x] => x.sc.bind fun a => (scs vs).bind fun ds => (ds.findIdx? fun y => eqFlat y a).map fun (j : Nat) => int (j : Int)
  | .get, dct t kvs, [k, e] => (k.key t).map fun d => (get kvs d).getD e
  | .get, ldc t kvs, [k, e] => (k.key t).map fun d => (get kvs d).getD e
  | .split, str s, [str [c]] => if c < 256 ∧ s.length + 2 ≤ LIM then some (lst ((splC c [] s).map str)) else none
  | .partition, str s, [str t] => if t ≠ [] ∧ s.length ≤ LIM then some (tup [str (partT t s).1, str (partT t s).2.1, str (partT t s).2.2]) else none
  | .join, str s, [lst vs] => (allS vs).bind fun ws => if (ws.map List.length).sum + ws.length * s.length ≤ LIM then some (str (joinS s ws)) else none
  | .startswith, str s, [str t] => some (bl (t.isPrefixOf s))
  | .split, str s, [str (c :: d :: t)] => if (c :: d :: t).all (fun x => decide (x < 256)) ∧ s.length + 2 ≤ LIM then some (lst ((splL (c :: d :: t) 0 [] s).map str)) else none
  | _, _, _ => none
def bmO : Bm → V → List V → Option (V × V)
  | .append, lst vs, [e] => if vs.length < LIM then some (non, lst (vs ++ [e])) else none
  | .pop, lst vs, [] => vs.getLast?.map fun e => (e, lst vs.dropLast)
  | .pop1, lst vs, [int i] => if -9223372036854775808 ≤ i ∧ i < 9223372036854775808 then (ixN vs.length i).bind fun j => vs[j]?.map fun e => (e, lst (vs.eraseIdx j)) else none
  | .clear, lst _, [] => some (non, lst [])
  | _, _, _ => none
def bk : V → Option Bk
  | str _ => some .s
  | lst _ => some .l
  | dct _ _ => some .d
  | ldc _ _ => some .d
  | _ => none
def tag : V → Option Tag
  | non => some .non
  | bl _ => some .bool
  | int _ => some .int
  | str _ => some .str
  | tup _ => some .tuple
  | rol _ => some .list
  | lst _ => some .list
  | ins c _ => some (.own c)
  | exc c => some (.own c)
  | obj c _ => some (.own c)
  | _ => none
def storeI (x k e : V) : Option V := match x with
  | lst vs => (match k with
    | int i => (ixN vs.length i).map fun j => lst (vs.set j e)
    | _ => none)
  | dct t kvs => (k.key t).bind fun d => if kvs.length < LIM then some (dct t (put kvs d e)) else none
  | _ => none
end V
mutual
def bindTV : Tg → V → VSto → Option VSto
  | .nm i, v, s => some (s.set i (some (.sh, v)))
  | .tp l, .tup vs, s => bindTsV l vs s
  | .tp l, .lst vs, s => bindTsV l vs s
  | .tp _, _, _ => none
def bindTsV : List Tg → List V → VSto → Option VSto
  | [], [], s => some s
  | t :: l, v :: vs, s => (bindTV t v s).bind fun s' => bindTsV l vs s'
  | [], _ :: _, _ => none
  | _ :: _, [], _ => none
end
mutual
def tgN : Tg → List Nat
  | .nm i => [i]
  | .tp l => tgNs l
def tgNs : List Tg → List Nat
  | [] => []
  | t :: l => tgN t ++ tgNs l
end
def wipeV (s : VSto) : List Nat → VSto
  | [] => s
  | i :: r => (wipeV s r).set i none
def restV (s0 : VSto) (s : VSto) : List Nat → VSto
  | [] => s
  | i :: r => match s0[i]? with
    | some (some (.sh, v)) => (restV s0 s r).set i (some (.sh, v))
    | _ => restV s0 s r
structure VCtx where
  call : Nat → List V → CR
  make : Nat → List V → CR
  bor : Nat → List Bool
  borC : Nat → List Bool
  mt : Nat → Nat → Option Nat
  sub : Nat → Nat → Bool
  vale : Nat → Bool
  flds : Nat → List Nat
  fuel : Nat
inductive Opd where
  | sl (i : Nat)
  | v (v : V)
def slotV (s : VSto) (i : Nat) : Option V := match s[i]? with
  | some (some (_, v)) => some v
  | _ => none
def rdO (s : VSto) : Opd → Option V
  | .sl i => slotV s i
  | .v v => some v
def rdOs (s : VSto) : List Opd → Option (List V)
  | [] => some []
  | o :: r => (rdO s o).bind fun v => (rdOs s r).map (v :: ·)
def varO (s : VSto) (i : Nat) : Option (Option (Kd × V)) → VR (Bool × V)
  | some (some (.sh, v)) => .ok (false, v) s
  | some (some (.ow, v)) => .ok (false, v) (s.set i (some (.sh, v)))
  | _ => .no
def varV (s : VSto) (i : Nat) : VR (Bool × V) := varO s i s[i]?
def iteV {α : Type} (v : V) (a b : VR α) : VR α := match v with
  | .bl true => a
  | .bl false => b
  | _ => .no
def iteVS (v : V) (a b : VS) : VS := match v with
  | .bl true => a
  | .bl false => b
  | _ => .no
def notV (s : VSto) : V → VR (Bool × V)
  | .bl k => .ok (false, .bl (!k)) s
  | _ => .no
def negV (s : VSto) : V → VR (Bool × V)
  | .int k => .ok (false, .int (-k)) s
  | _ => .no
def invV (s : VSto) : V → VR (Bool × V)
  | .int k => .ok (false, .int (bNot k)) s
  | _ => .no
def intV (s : VSto) : V → VR (Option Int)
  | .int k => .ok (some k) s
  | _ => .no
def chnV (s : VSto) (o : Option Bool) (k : VR (Bool × V)) : VR (Bool × V) := match o with
  | some true => k
  | some false => .ok (false, .bl false) s
  | none => .no
def clsV : V → Option Nat
  | .ins c _ => some c
  | .obj c _ => some c
  | _ => none
def optV {α β : Type} (o : Option α) (k : α → VR β) : VR β := match o with
  | some a => k a
  | none => .no
def optVS {α : Type} (o : Option α) (k : α → VS) : VS := match o with
  | some a => k a
  | none => .no
def cloV (s : VSto) (i : Nat) (k : Nat → List V → VR (Bool × V)) : VR (Bool × V) := match s[i]? with
  | some (some (_, .clo f cs)) => k f cs
  | _ => .no
def opdV (e : E) (s : VSto) (r : VR (Bool × V)) : VR Opd := match e with
  | .var i => optV (slotV s i) fun _ => .ok (.sl i) s
  | _ => r.bnd fun v s1 => .ok (.v v) s1
def capV (s : VSto) : List Nat → VR (List V)
  | [] => .ok [] s
  | j :: r => (varV s j).bnd fun v s1 => (capV s1 r).bind fun vs s2 => .ok (v :: vs) s2
def argV (b : Bool) (e : E) (s : VSto) (r : VR (Bool × V)) : VR Opd := if b then opdV e s r else r.bnd fun v s1 => .ok (.v v) s1
def itV (e : E) (s : VSto) (r : VR (Bool × V)) : VR V := match e with
  | .var i => (match s[i]? with
    | some (some (.bo, v)) => .ok v s
    | some (some (.lk, v)) => .ok v s
    | _ => r.bnd fun v s1 => .ok v s1)
  | _ => r.bnd fun v s1 => .ok v s1
def lockI (it : It) (s : VSto) : Option Nat := match it with
  | .seq (.var i) => (match s[i]? with
    | some (some (.ow, _)) => some i
    | _ => none)
  | _ => none
def lockS (o : Option Nat) (s : VSto) : VSto := match o with
  | none => s
  | some i => match s[i]? with
    | some (some (.ow, v)) => s.set i (some (.lk, v))
    | _ => s
def unlockS (o : Option Nat) (s : VSto) : VSto := match o with
  | none => s
  | some i => match s[i]? with
    | some (some (.lk, v)) => s.set i (some (.ow, v))
    | some (some (.bo, _)) => s.set i none
    | _ => s
def ulkI (i : Nat) (s : VSto) : VSto := match s[i]? with
  | some (some (.lk, .ldc t kvs)) => s.set i (some (.ow, .dct t kvs))
  | some (some (.lk, _)) => s.set i none
  | some (some (.bo, _)) => s.set i none
  | _ => s
def VR.ulkI {α : Type} (i : Nat) : VR α → VR α
  | .ok a s => .ok a (FV.ulkI i s)
  | _ => .no
def VS.ulkI (i : Nat) : VS → VS
  | .nx s => .nx (FV.ulkI i s)
  | .bk s => .bk (FV.ulkI i s)
  | .ct s => .ct (FV.ulkI i s)
  | .rt fr v => .rt fr v
  | _ => .no
def ownD (s : VSto) (i : Nat) : Option (Bool × List (D × V)) := match s[i]? with
  | some (some (.ow, .dct t kvs)) => if kvs.all (fun p => keyOk false p.1 || keyOk true p.1) then some (t, kvs) else none
  | _ => none
def VR.unlock {α : Type} (o : Option Nat) : VR α → VR α
  | .ok a s => .ok a (unlockS o s)
  | .ex c s => .ex c (unlockS o s)
  | .no => .no
def VS.unlock (o : Option Nat) : VS → VS
  | .nx s => .nx (unlockS o s)
  | .bk s => .bk (unlockS o s)
  | .ct s => .ct (unlockS o s)
  | .ex c s => .ex c (unlockS o s)
  | .rt fr v => .rt fr v
  | .no => .no
def bmSl (b : Bm) (i : Nat) (ws : List V) (s : VSto) : VR (Bool × V) := match s[i]? with
  | some (some (k, x)) => (match V.bm b x ws with
    | some r => .ok (decide (b = .split), r) s
    | none => if k = .ow then match V.bmO b x ws with
        | some (r, x') => .ok (false, r) (s.set i (some (.ow, x')))
        | none => .no
      else .no)
  | _ => .no
def bmOp (b : Bm) (x : Opd) (ws : List V) (s : VSto) : VR (Bool × V) := match x with
  | .sl i => bmSl b i ws s
  | .v v => optV (V.bm b v ws) fun r => .ok (decide (b = .split), r) s
def lcLoopV (W : List Nat) (tg : Tg) (c : VSto → VR V) (e : VSto → VR (Bool × V)) : List V → List V → VSto → VR (List V)
  | [], acc, s => .ok acc s
  | v :: vs, acc, s => optV (bindTV tg v s) fun s' => (c s').calm.bind fun b s1 => iteV b
      ((e s1).calm.bnd fun w s2 => if acc.length < LIM then lcLoopV W tg c e vs (acc ++ [w]) (wipeV s2 W) else .no)
      (lcLoopV W tg c e vs acc (wipeV s1 W))
def loopKV (r : VS) (k : VSto → VS) : VS := match r with
  | .nx s => k s
  | .ct s => k s
  | .bk s => .nx s
  | r => r
def frLoopV (tg : Tg) (body : VSto → VS) : List V → VSto → VS
  | [], s => .nx s
  | v :: vs, s => optVS (bindTV tg v s) fun s' => loopKV (body s') fun s2 => frLoopV tg body vs s2
def whLoopV (c : VSto → VR (Bool × V)) (body : VSto → VS) : Nat → VSto → VS
  | 0, _ => .no
  | k + 1, s => (c s).toSb fun b s1 => iteVS b (loopKV (body s1) fun s2 => whLoopV c body k s2) (.nx s1)
def seqV : V → Option (List V)
  | .tup vs => some vs
  | .rol vs => some vs
  | .str s => some (s.map fun c => .str [c])
  | .lst vs => some vs
  | _ => none
def lstV : V → Option (List V)
  | .rol vs => some vs
  | .lst vs => some vs
  | _ => none
def zipV : V → Option (List V)
  | .str s => some (s.map fun c => .str [c])
  | v => lstV v
def rngV (lo hi : Int) : List V := (List.range (hi - lo).toNat).map fun (k : Nat) => V.int (lo + (k : Int))
def rngR (s : VSto) : V → V → VR (List V)
  | .int i, .int j => if rngOk i j then .ok (rngV i j) s else .no
  | _, _ => .no
def itemsV : V → Option (List V)
  | .dct _ kvs => if kvs.all (fun p => keyOk false p.1 || keyOk true p.1) then some (kvs.map fun p => .tup [kV p.1, p.2]) else none
  | _ => none
def itemsL (kvs : List (D × V)) : List V := kvs.map fun p => .tup [kV p.1, p.2]
mutual
def evF (C : VCtx) : E → VSto → VR (Bool × V)
  | .var i, s => varV s i
  | .cst d, s => optV (V.ofD d) fun v => .ok (false, v) s
  | .op o a b, s => (opdV a s (evF C a s)).bind fun x s1 => (opdV b s1 (evF C b s1)).bind fun y s2 => optV (rdO s2 x) fun v => optV (rdO s2 y) fun w => optV (V.op o v w) fun r => .ok (true, r) s2
  | .cmp o a b, s => (opdV a s (evF C a s)).bind fun x s1 => (opdV b s1 (evF C b s1)).bind fun y s2 => optV (rdO s2 x) fun v => optV (rdO s2 y) fun w => optV (V.cmp o v w) fun r => .ok (false, .bl r) s2
  | .chn o o' a b c, s => (opdV a s (evF C a s)).bind fun x s1 => (evF C b s1).bnd fun w s2 => optV (rdO s2 x) fun v => chnV s2 (V.cmp o v w) ((evF C c s2).bnd fun z s3 => optV (V.cmp o' w z) fun r => .ok (false, .bl r) s3)
  | .not a, s => (evF C a s).bnd fun v s1 => notV s1 v
  | .and a b, s => (evF C a s).bnd fun v s1 => iteV v (evF C b s1) (.ok (false, .bl false) s1)
  | .or a b, s => (evF C a s).bnd fun v s1 => iteV v (.ok (false, .bl true) s1) (evF C b s1)
  | .ife c a b, s => (evF C c s).bnd fun v s1 => iteV v (evF C a s1) (evF C b s1)
  | .neg a, s => (evF C a s).bnd fun v s1 => negV s1 v
  | .inv a, s => (evF C a s).bnd fun v s1 => invV s1 v
  | .tup l, s => (evAs C l s).bind fun vs s1 => if vs.length ≤ LIM then .ok (false, .tup vs) s1 else .no
  | .lst l, s => (evAs C l s).bind fun vs s1 => if vs.length ≤ LIM then .ok (true, .lst vs) s1 else .no
  | .dct0 t, s => .ok (true, .dct t []) s
  | .dct t l, s => (evKVV C t l s).bind fun kvs s1 => if kvs.length ≤ 15 then .ok (true, .dct t (kvs.foldl (fun a p => V.put a p.1 p.2) [])) s1 else .no
  | .idx a b, s => (opdV a s (evF C a s)).bind fun x s1 => (opdV b s1 (evF C b s1)).bind fun y s2 => optV (rdO s2 x) fun v => optV (rdO s2 y) fun w => optV (V.idx v w) fun r => .ok (false, r) s2
  | .slc a lo hi, s => (opdV a s (evF C a s)).bind fun x s1 => (evOV C lo s1).bind fun l s2 => (evOV C hi s2).bind fun h s3 => optV (rdO s3 x) fun v => optV (V.slc v l h) fun r => .ok (true, r) s3
  | .ev2 a lo, s => (opdV a s (evF C a s)).bind fun x s1 => (evOV C lo s1).bind fun l s2 => optV (rdO s2 x) fun v => optV (V.ev2V v l) fun r => .ok (true, r) s2
  | .rev a, s => (opdV a s (evF C a s)).bind fun x s1 => optV (rdO s1 x) fun v => optV (V.rev v) fun r => .ok (true, r) s1
  | .fld a f, s => (opdV a s (evF C a s)).bind fun x s1 => optV (rdO s1 x) fun v => optV (V.fld C.flds f v) fun r => .ok (false, r) s1
  | .call f l, s => (evLs C (C.bor f) l s).bind fun os s1 => optV (rdOs s1 os) fun vs => (C.call f vs).to s1
  | .make c l, s => (evLs C (C.borC c) l s).bind fun os s1 => optV (rdOs s1 os) fun vs => (C.make c vs).to s1
  | .meth a n l, s => (evF C a s).bnd fun v s1 => optV ((clsV v).bind fun c => C.mt c n) fun g => (evLs C (C.bor g).tail l s1).bind fun os s2 => optV (rdOs s2 os) fun vs => (C.call g (v :: vs)).to s2
  | .clo i l, s => cloV s i fun f cs => (evAs C l s).bind fun vs s1 => (C.call f (vs ++ cs)).to s1
  | .lam f cs, s => (capV s cs).bind fun vs s1 => .ok (false, .clo f vs) s1
  | .bi b l, s => (evBs C l s).bind fun os s1 => optV (rdOs s1 os) fun vs => optV (V.bi b vs) fun r => .ok (true, r) s1
  | .bm a b l, s => (opdV a s (evF C a s)).bind fun x s1 => optV ((rdO s1 x).bind V.bk) fun k => if bmK b k then (evAs C l s1).bind fun ws s2 => if (rdO s2 x).bind V.bk = some k then bmOp b x ws s2 else .no else .no
  | .isi a ts, s => (opdV a s (evF C a s)).bind fun x s1 => optV (rdO s1 x) fun v => optV v.tag fun g => .ok (false, .bl (ts.any fun t => tagIs C.sub C.vale g t)) s1
  | .lc own it tg c e, s => ((evIV C it (lockS (lockI it s) s)).bind fun vs s1 => (lcLoopV (own ++ tgN tg) tg (evCV C c) (evF C e) vs [] (wipeV s1 (own ++ tgN tg))).bind fun acc s2 => .ok (true, .lst acc) (restV s1 s2 (own ++ tgN tg))).unlock (lockI it s)
  | .lcI own i tg c e, s => optV (ownD s i) fun p => ((lcLoopV (own ++ tgN tg) tg (evCV C c) (evF C e) (itemsL p.2) [] (wipeV (s.set i (some (.lk, .ldc p.1 p.2))) (own ++ tgN tg))).bind fun acc s2 => .ok (true, .lst acc) (restV (s.set i (some (.lk, .ldc p.1 p.2))) s2 (own ++ tgN tg))).ulkI i
  | .pur _, _ => .no
def evCV (C : VCtx) : Oe → VSto → VR V
  | .none, s => .ok (.bl true) s
  | .some e, s => (evF C e s).bnd fun v s1 => .ok v s1
def evOV (C : VCtx) : Oe → VSto → VR (Option Int)
  | .none, s => .ok none s
  | .some e, s => (evF C e s).bnd fun v s1 => intV s1 v
def evAs (C : VCtx) : Es → VSto → VR (List V)
  | .nil, s => .ok [] s
  | .cons e l, s => (evF C e s).bnd fun v s1 => (evAs C l s1).bind fun vs s2 => .ok (v :: vs) s2
def evLs (C : VCtx) (bs : List Bool) : Es → VSto → VR (List Opd)
  | .nil, s => .ok [] s
  | .cons e l, s => (argV (bs.headD false) e s (evF C e s)).bind fun v s1 => (evLs C bs.tail l s1).bind fun vs s2 => .ok (v :: vs) s2
def evBs (C : VCtx) : Es → VSto → VR (List Opd)
  | .nil, s => .ok [] s
  | .cons e l, s => (opdV e s (evF C e s)).bind fun v s1 => (evBs C l s1).bind fun vs s2 => .ok (v :: vs) s2
def evKVV (C : VCtx) (t : Bool) : Kv → VSto → VR (List (D × V))
  | .nil, s => .ok [] s
  | .cons k v l, s => (evF C k s).bnd fun x s1 => (evF C v s1).bnd fun y s2 => (evKVV C t l s2).bind fun r s3 => optV (x.key t) fun d => .ok ((d, y) :: r) s3
def evIV (C : VCtx) : It → VSto → VR (List V)
  | .seq e, s => (itV e s (evF C e s)).bind fun v s1 => optV (seqV v) fun l => .ok l s1
  | .rng lo hi, s => (evF C lo s).bnd fun v s1 => (evF C hi s1).bnd fun w s2 => rngR s2 v w
  | .zip2 a b, s => (itV a s (evF C a s)).bind fun v s1 => (itV b s1 (evF C b s1)).bind fun w s2 => optV (zipV v) fun x => optV (zipV w) fun y => .ok ((x.zip y).map fun z => .tup [z.1, z.2]) s2
  | .zip3 a b c, s => (itV a s (evF C a s)).bind fun v s1 => (itV b s1 (evF C b s1)).bind fun w s2 => (itV c s2 (evF C c s2)).bind fun u s3 => optV (zipV v) fun x => optV (zipV w) fun y => optV (zipV u) fun z => .ok ((x.zip (y.zip z)).map fun z => .tup [z.1, z.2.1, z.2.2]) s3
  | .items e, s => (itV e s (evF C e s)).bind fun v s1 => optV (itemsV v) fun l => .ok l s1
  | .rvs e, s => (itV e s (evF C e s)).bind fun v s1 => optV (lstV v) fun l => .ok l.reverse s1
end
def paramsV : List Bool → List V → VSto
  | _, [] => []
  | bs, v :: vs => some (if bs.headD false then .bo else .sh, v) :: paramsV bs.tail vs
def startV (bs : List Bool) (nl : Nat) (vs : List V) : VSto := paramsV bs vs ++ List.replicate (nl - vs.length) none
def unsetX (i : Option Nat) (s : VSto) : VSto := match i with
  | none => s
  | some i => s.set i none
def handV (i : Option Nat) : VS → VS
  | .nx s => .nx (unsetX i s)
  | .bk s => .bk (unsetX i s)
  | .ct s => .ct (unsetX i s)
  | r => r
def excX (i : Option Nat) (e : Nat) (s : VSto) : VSto := match i with
  | none => s
  | some i => s.set i (some (.sh, .exc e))
def kdOf (fr : Bool) (v : V) : Kd := if fr && v.isRef then .ow else .sh
def retV (e : E) (s : VSto) (r : VR (Bool × V)) : VS := match e with
  | .var i => (match s[i]? with
    | some (some (.ow, v)) => .rt true v
    | _ => r.toS fun p _ => .rt (p.1 && p.2.isRef) p.2)
  | _ => r.toS fun p _ => .rt (p.1 && p.2.isRef) p.2
def stoV (s : VSto) (j : Nat) (k v : V) : VS := match s[j]? with
  | some (some (.ow, x)) => optVS (V.storeI x k v) fun x' => .nx (s.set j (some (.ow, x')))
  | _ => .no
def putV (f : Nat) (v : V) : List (Nat × V) → List (Nat × V)
  | [] => [(f, v)]
  | (g, x) :: r => if g = f then (g, v) :: r else (g, x) :: putV f v r
def stoF (s : VSto) (j f : Nat) (v : V) : VS := match s[j]? with
  | some (some (.ow, .obj c fs)) => if fs.length < 1000 then .nx (s.set j (some (.ow, .obj c (putV f v fs)))) else .no
  | _ => .no
def tryV (C : VCtx) (c : Nat) (sl : Option Nat) (h : VSto → VS) : VS → VS
  | .ex e s1 => if C.sub e e then (if C.sub e c then handV sl (h (excX sl e s1)) else .ex e s1) else .no
  | r => r
mutual
def exV (C : VCtx) : S → VSto → VS
  | .set i e, s => (evF C e s).toS fun p s1 => .nx (s1.set i (some (kdOf p.1 p.2, p.2)))
  | .unp t e, s => (evF C e s).toSb fun v s1 => optVS (bindTV t v s1) fun s2 => .nx s2
  | .ex e, s => (evF C e s).toSb fun _ s1 => .nx s1
  | .ret e, s => retV e s (evF C e s)
  | .retN, _ => .rt false .non
  | .ifs c a b, s => (evF C c s).toSb fun v s1 => iteVS v (exVs C a s1) (exVs C b s1)
  | .whl c b, s => whLoopV (evF C c) (exVs C b) C.fuel s
  | .frs tg it b, s => ((evIV C it (lockS (lockI it s) s)).toS fun vs s1 => frLoopV tg (exVs C b) vs s1).unlock (lockI it s)
  | .frsI tg i b, s => optVS (ownD s i) fun p => (frLoopV tg (exVs C b) (itemsL p.2) (s.set i (some (.lk, .ldc p.1 p.2)))).ulkI i
  | .brk, s => .bk s
  | .cnt, s => .ct s
  | .pss, s => .nx s
  | .rse c, s => .ex c s
  | .try_ b c sl h, s => tryV C c sl (exVs C h) (exVs C b s)
  | .setI (.var j) i e, s => (evF C e s).toSb fun v s1 => optVS (slotV s1 j) fun _ => (evF C i s1).toSb fun k s2 => stoV s2 j k v
  | .setI _ _ e, s => (evF C e s).toSb fun _ _ => .no
  | .setF (.var j) f e, s => (evF C e s).toSb fun v s1 => stoF s1 j f v
  | .setF _ _ _, _ => .no
  | .ndef i f cs, s => (capV s cs).toS fun vs s1 => .nx (s1.set i (some (.sh, .clo f vs)))
  | .cal b, s => (exVs C b s).cal
def exVs (C : VCtx) : Ss → VSto → VS
  | .nil, s => .nx s
  | .cons x r, s => (exV C x s).seq fun s' => exVs C r s'
end
def finV : VS → CR
  | .nx _ => .ok false .non
  | .rt fr v => .ok fr v
  | .ex c _ => .ex c
  | _ => .no
def CR.calm : CR → CR
  | .ok fr v => .ok fr v
  | _ => .no
structure Ov where
  f : Nat → Nat → List V → Option CR
  c : Nat → Nat → List V → Option CR
  bor : Nat → List Bool
def mkV (P : Prog) (O : Ov) (k : Nat) (call : Nat → List V → CR) (c : Nat) (vs : List V) : CR := match O.c k c vs with
  | some r => r
  | none => match P.cini c with
    | some .bare => if vs.isEmpty then .ok false (.ins c []) else .no
    | some (.imm f) => (call f vs).calm
    | _ => .no
def borC (P : Prog) (O : Ov) (c : Nat) : List Bool := match P.cini c with
  | some (.imm f) => O.bor f
  | some (.chg f) => (O.bor f).tail
  | _ => []
def vctx (P : Prog) (O : Ov) (k : Nat) (c1 c2 : Nat → List V → CR) : VCtx := ⟨c1, mkV P O k c2, O.bor, borC P O, P.mt, P.sub, P.vale, P.flds, P.fuel⟩
def resC : VR (List V) → Nat → CR
  | .ok vs _, c => .ok false (.ins c vs)
  | .ex k _, _ => .ex k
  | .no, _ => .no
def runV (C : VCtx) (bs : List Bool) (F : Fn) (vs : List V) : CR := match F with
  | .fn np nl b => if vs.length = np then finV (exVs C b (startV bs nl vs)) else .no
  | .ini c np nl l => if vs.length = np then resC (evAs C l (none :: startV bs (nl - 1) vs)) c else .no
def bodyV (P : Prog) (O : Ov) (n : Nat) (c1 c2 : Nat → List V → CR) (f : Nat) (vs : List V) : CR := match O.f n f vs with
  | some r => r
  | none => match P.fns f with
    | some F => runV (vctx P O n c1 c2) (O.bor f) F vs
    | none => .no
def callV (P : Prog) (O : Ov) : Nat → Nat → List V → CR
  | 0, _, _ => .no
  | 1, f, vs => bodyV P O 0 (fun _ _ => .no) (fun _ _ => .no) f vs
  | n + 2, f, vs => bodyV P O (n + 1) (callV P O (n + 1)) (callV P O n) f vs
end FV
namespace FV
open FS
mutual
inductive R (B : Nat → Prop) (m : Mem) : V → D → Prop where
  | non : R B m .non .non
  | bl (b : Bool) : R B m (.bl b) (.bl b)
  | int (i : Int) : R B m (.int i) (.int i)
  | str (s : List Nat) : R B m (.str s) (.str s)
  | exc (c : Nat) : R B m (.exc c) (.exc c)
  | tup {vs : List V} {ds : List D} : Rs B m vs ds → R B m (.tup vs) (.tup ds)
  | rol {vs : List V} {ds : List D} : Rs B m vs ds → R B m (.rol vs) (.rol ds)
  | ins {c : Nat} {vs : List V} {ds : List D} : Rs B m vs ds → R B m (.ins c vs) (.ins c ds)
  | clo {f : Nat} {vs : List V} {ds : List D} : Rs B m vs ds → R B m (.clo f vs) (.clo f ds)
  | lst {n : Nat} {vs : List V} {ds : List D} : B n → m[n]? = some (.lst ds) → Rs B m vs ds → R B m (.lst vs) (.ref n)
  | dct {n : Nat} {t : Bool} {kvs : List (D × V)} {kds : List (D × D)} : B n → m[n]? = some (.dct t false kds) → Rk B m kvs kds → R B m (.dct t kvs) (.ref n)
  | ldc {n : Nat} {t : Bool} {kvs : List (D × V)} {kds : List (D × D)} : B n → m[n]? = some (.dct t true kds) → Rk B m kvs kds → R B m (.ldc t kvs) (.ref n)
  | obj {n c : Nat} {fs : List (Nat × V)} {fd : List (Nat × D)} : B n → m[n]? = some (.obj c fd) → Rf B m fs fd → R B m (.obj c fs) (.ref n)
inductive Rs (B : Nat → Prop) (m : Mem) : List V → List D → Prop where
  | nil : Rs B m [] []
  | cons {v : V} {d : D} {vs : List V} {ds : List D} : R B m v d → Rs B m vs ds → Rs B m (v :: vs) (d :: ds)
inductive Rk (B : Nat → Prop) (m : Mem) : List (D × V) → List (D × D) → Prop where
  | nil : Rk B m [] []
  | cons {k : D} {v : V} {d : D} {vs : List (D × V)} {ds : List (D × D)} : R B m v d → Rk B m vs ds → Rk B m ((k, v) :: vs) ((k, d) :: ds)
inductive Rf (B : Nat → Prop) (m : Mem) : List (Nat × V) → List (Nat × D) → Prop where
  | nil : Rf B m [] []
  | cons {k : Nat} {v : V} {d : D} {vs : List (Nat × V)} {ds : List (Nat × D)} : R B m v d → Rf B m vs ds → Rf B m ((k, v) :: vs) ((k, d) :: ds)
end
section
variable {B B' : Nat → Prop} {m m' : Mem} (h : ∀ a o, B a → m[a]? = some o → B' a ∧ m'[a]? = some o)
include h
mutual
theorem R.mono : ∀ {v : V} {d : D}, R B m v d → R B' m' v d
  | _, _, .non => .non
  | _, _, .bl b => .bl b
  | _, _, .int i => .int i
  | _, _, .str s => .str s
  | _, _, .exc c => .exc c
  | _, _, .tup r => .tup (Rs.mono r)
  | _, _, .rol r => .rol (Rs.mono r)
  | _, _, .ins r => .ins (Rs.mono r)
  | _, _, .clo r => .clo (Rs.mono r)
  | _, _, .lst b e r => .lst (h _ _ b e).1 (h _ _ b e).2 (Rs.mono r)
  | _, _, .dct b e r => .dct (h _ _ b e).1 (h _ _ b e).2 (Rk.mono r)
  | _, _, .ldc b e r => .ldc (h _ _ b e).1 (h _ _ b e).2 (Rk.mono r)
  | _, _, .obj b e r => .obj (h _ _ b e).1 (h _ _ b e).2 (Rf.mono r)
theorem Rs.mono : ∀ {v : List V} {d : List D}, Rs B m v d → Rs B' m' v d
  | _, _, .nil => .nil
  | _, _, .cons a r => .cons (R.mono a) (Rs.mono r)
theorem Rk.mono : ∀ {v : List (D × V)} {d : List (D × D)}, Rk B m v d → Rk B' m' v d
  | _, _, .nil => .nil
  | _, _, .cons a r => .cons (R.mono a) (Rk.mono r)
theorem Rf.mono : ∀ {v : List (Nat × V)} {d : List (Nat × D)}, Rf B m v d → Rf B' m' v d
  | _, _, .nil => .nil
  | _, _, .cons a r => .cons (R.mono a) (Rf.mono r)
end
end
inductive RO (B : Nat → Prop) (m : Mem) : V → Nat → Prop where
  | lst {n : Nat} {vs : List V} {ds : List D} : m[n]? = some (.lst ds) → Rs B m vs ds → RO B m (.lst vs) n
  | dct {n : Nat} {t : Bool} {kvs : List (D × V)} {kds : List (D × D)} : m[n]? = some (.dct t false kds) → Rk B m kvs kds → RO B m (.dct t kvs) n
  | ldc {n : Nat} {t : Bool} {kvs : List (D × V)} {kds : List (D × D)} : m[n]? = some (.dct t true kds) → Rk B m kvs kds → RO B m (.ldc t kvs) n
  | obj {n c : Nat} {fs : List (Nat × V)} {fd : List (Nat × D)} : m[n]? = some (.obj c fd) → Rf B m fs fd → RO B m (.obj c fs) n
theorem RO.mono {B B' : Nat → Prop} {m m' : Mem} (h : ∀ a o, B a → m[a]? = some o → B' a ∧ m'[a]? = some o) {v : V} {n : Nat} (e : m'[n]? = m[n]?) : RO B m v n → RO B' m' v n
  | .lst a r => .lst (e.trans a) (Rs.mono h r)
  | .dct a r => .dct (e.trans a) (Rk.mono h r)
  | .ldc a r => .ldc (e.trans a) (Rk.mono h r)
  | .obj a r => .obj (e.trans a) (Rf.mono h r)
theorem RO.r {B : Nat → Prop} {m : Mem} {v : V} {n : Nat} (b : B n) : RO B m v n → R B m v (.ref n)
  | .lst a r => .lst b a r
  | .dct a r => .dct b a r
  | .ldc a r => .ldc b a r
  | .obj a r => .obj b a r
theorem RO.lt {B : Nat → Prop} {m : Mem} {v : V} {n : Nat} : RO B m v n → n < m.length
  | .lst a _ => (List.getElem?_eq_some_iff.mp a).1
  | .dct a _ => (List.getElem?_eq_some_iff.mp a).1
  | .ldc a _ => (List.getElem?_eq_some_iff.mp a).1
  | .obj a _ => (List.getElem?_eq_some_iff.mp a).1
inductive RT (B : Nat → Prop) (m : Mem) (v : V) : D → Prop where
  | sh {d : D} : R B m v d → RT B m v d
  | own {n : Nat} : RO B m v n → RT B m v (.ref n)
def moK : MO → Nat
  | .lst _ => 0
  | .dct true _ _ => 1
  | .dct false _ _ => 2
  | .obj _ _ => 3
structure Sp (Z B : Nat → Prop) (m : Mem) (B' : Nat → Prop) (m' : Mem) : Prop where
  inc : ∀ a, B a → B' a
  sB : ∀ a, B a → m'[a]? = m[a]?
  sZ : ∀ a, Z a → m'[a]? = m[a]?
theorem Sp.refl {Z B : Nat → Prop} {m : Mem} : Sp Z B m B m := ⟨fun _ h => h, fun _ _ => rfl, fun _ _ => rfl⟩
theorem Sp.trans {Z B B1 B2 : Nat → Prop} {m m1 m2 : Mem} (h : Sp Z B m B1 m1) (g : Sp Z B1 m1 B2 m2) : Sp Z B m B2 m2 :=
  ⟨fun a x => g.inc a (h.inc a x), fun a x => (g.sB a (h.inc a x)).trans (h.sB a x), fun a x => (g.sZ a x).trans (h.sZ a x)⟩
theorem Sp.mo {Z B B' : Nat → Prop} {m m' : Mem} (h : Sp Z B m B' m') : ∀ a o, B a → m[a]? = some o → B' a ∧ m'[a]? = some o :=
  fun a o b e => ⟨h.inc a b, (h.sB a b).trans e⟩
theorem R.sp {Z B B' : Nat → Prop} {m m' : Mem} (h : Sp Z B m B' m') {v : V} {d : D} (r : R B m v d) : R B' m' v d := R.mono h.mo r
theorem Rs.sp {Z B B' : Nat → Prop} {m m' : Mem} (h : Sp Z B m B' m') {v : List V} {d : List D} (r : Rs B m v d) : Rs B' m' v d := Rs.mono h.mo r
theorem Rk.sp {Z B B' : Nat → Prop} {m m' : Mem} (h : Sp Z B m B' m') {v : List (D × V)} {d : List (D × D)} (r : Rk B m v d) : Rk B' m' v d := Rk.mono h.mo r
theorem RO.sp {Z B B' : Nat → Prop} {m m' : Mem} (h : Sp Z B m B' m') {v : V} {n : Nat} (z : Z n ∨ B n) (r : RO B m v n) : RO B' m' v n :=
  RO.mono h.mo (z.elim (h.sZ n) (h.sB n)) r
structure Inv (Y : Nat → Nat → Prop) (Z B : Nat → Prop) (s : VSto) (σ : Sto) (m : Mem) : Prop where
  yz : ∀ i a, Y i a → Z a
  val : ∀ a, B a → a < m.length
  zv : ∀ a, Z a → a < m.length ∧ ¬ B a
  len : s.length = σ.length
  sh : ∀ (i : Nat) (v : V), s[i]? = some (some (.sh, v)) → ∃ d, σ[i]? = some (some d) ∧ R B m v d
  bo : ∀ (i : Nat) (v : V), s[i]? = some (some (.bo, v)) → ∃ d, σ[i]? = some (some d) ∧ (R B m v d ∨ ∃ n, d = .ref n ∧ Y i n ∧ RO B m v n)
  lk : ∀ (i : Nat) (v : V), s[i]? = some (some (.lk, v)) → ∃ n, σ[i]? = some (some (.ref n)) ∧ Y i n ∧ RO B m v n
  ow : ∀ (i : Nat) (v : V), s[i]? = some (some (.ow, v)) → ∃ n, σ[i]? = some (some (.ref n)) ∧ ¬ B n ∧ ¬ Z n ∧ RO B m v n
  dis : ∀ (i j : Nat) (v w : V) (n : Nat), s[i]? = some (some (.ow, v)) → s[j]? = some (some (.ow, w)) → σ[i]? = some (some (.ref n)) → σ[j]? = some (some (.ref n)) → i = j
def Free (s : VSto) (σ : Sto) (n : Nat) : Prop := ∀ (i : Nat) (w : V), s[i]? = some (some (.ow, w)) → σ[i]? ≠ some (some (.ref n))
def Own (Z B : Nat → Prop) (s : VSto) (σ : Sto) (m : Mem) (v : V) (d : D) : Prop := ∃ n, d = .ref n ∧ ¬ B n ∧ ¬ Z n ∧ Free s σ n ∧ RO B m v n
def VRel (Z B : Nat → Prop) (s : VSto) (σ : Sto) (m : Mem) : Bool → V → D → Prop
  | false, v, d => R B m v d
  | true, v, d => (v.isRef = false ∧ R B m v d) ∨ Own Z B s σ m v d
section
variable {Y : Nat → Nat → Prop} {Z B B' : Nat → Prop} {s : VSto} {σ : Sto} {m m' : Mem}
theorem Inv.slot (I : Inv Y Z B s σ m) {i : Nat} {v : V} (h : slotV s i = some v) : ∃ d, σ[i]? = some (some d) ∧ RT B m v d := by
  unfold slotV at h
  split at h
  · rename_i k w e
    cases h
    cases k with
    | sh => obtain ⟨d, a, b⟩ := I.sh i _ e; exact ⟨d, a, .sh b⟩
    | bo =>
      obtain ⟨d, a, b⟩ := I.bo i _ e
      rcases b with b | ⟨n, rfl, _, b⟩
      · exact ⟨d, a, .sh b⟩
      · exact ⟨_, a, .own b⟩
    | ow => obtain ⟨n, a, _, _, b⟩ := I.ow i _ e; exact ⟨_, a, .own b⟩
    | lk => obtain ⟨n, a, _, b⟩ := I.lk i _ e; exact ⟨_, a, .own b⟩
  · cases h
theorem app_lt {m : Mem} {u : Mem} {a : Nat} (h : a < m.length) : (m ++ u)[a]? = m[a]? := List.getElem?_append_left h
theorem Inv.step (I : Inv Y Z B s σ m) (p : Sp Z B m B' m') (hv : ∀ a, B' a → a < m'.length) (hz : ∀ a, Z a → a < m'.length ∧ ¬ B' a)
    (ho : ∀ (i : Nat) (v : V) (n : Nat), s[i]? = some (some (.ow, v)) → σ[i]? = some (some (.ref n)) → ¬ B' n ∧ m'[n]? = m[n]?) : Inv Y Z B' s σ m' where
  yz := I.yz
  val := hv
  zv := hz
  len := I.len
  sh i v h := by obtain ⟨d, e, r⟩ := I.sh i v h; exact ⟨d, e, r.sp p⟩
  bo i v h := by
    obtain ⟨d, e, r⟩ := I.bo i v h
    refine ⟨d, e, r.imp (·.sp p) ?_⟩
    rintro ⟨n, a, z, r⟩
    exact ⟨n, a, z, r.sp p (.inl (I.yz i n z))⟩
  lk i v h := by
    obtain ⟨n, e, y, r⟩ := I.lk i v h
    exact ⟨n, e, y, r.sp p (.inl (I.yz i n y))⟩
  ow i v h := by
    obtain ⟨n, e, _, nz, r⟩ := I.ow i v h
    obtain ⟨a, b⟩ := ho i v n h e
    exact ⟨n, e, a, nz, RO.mono p.mo b r⟩
  dis := I.dis
theorem Inv.ext (I : Inv Y Z B s σ m) (u : Mem) : Inv Y Z B s σ (m ++ u) ∧ Sp Z B m B (m ++ u) := by
  have p : Sp Z B m B (m ++ u) := ⟨fun _ h => h, fun a h => app_lt (I.val a h), fun a h => app_lt (I.zv a h).1⟩
  refine ⟨I.step p (fun a h => ?_) (fun a h => ⟨?_, (I.zv a h).2⟩) (fun i v n h e => ?_), p⟩
  · rw [List.length_append]; exact Nat.lt_add_right _ (I.val a h)
  · rw [List.length_append]; exact Nat.lt_add_right _ (I.zv a h).1
  · obtain ⟨n', e', nb, _, r⟩ := I.ow i v h
    rw [e] at e'
    cases e'
    exact ⟨nb, app_lt r.lt⟩
theorem Inv.new (I : Inv Y Z B s σ m) (u : Mem) : ¬ B m.length ∧ ¬ Z m.length ∧ Free s σ m.length :=
  ⟨fun h => Nat.lt_irrefl _ (I.val _ h), fun h => Nat.lt_irrefl _ (I.zv _ h).1, fun i w h e => by
    obtain ⟨n, e2, _, _, r⟩ := I.ow i w h
    rw [e2] at e
    simp only [Option.some.injEq, D.ref.injEq] at e
    exact Nat.lt_irrefl _ (e ▸ r.lt)⟩
theorem Inv.show (I : Inv Y Z B s σ m) {fr : Bool} {v : V} {d : D} (r : VRel Z B s σ m fr v d) : ∃ B', Inv Y Z B' s σ m ∧ Sp Z B m B' m ∧ R B' m v d := by
  cases fr with
  | false => exact ⟨B, I, .refl, r⟩
  | true =>
    rcases r with ⟨_, r⟩ | ⟨n, rfl, nb, nz, nf, r⟩
    · exact ⟨B, I, .refl, r⟩
    · have p : Sp Z B m (fun a => B a ∨ a = n) m := ⟨fun _ h => .inl h, fun _ _ => rfl, fun _ _ => rfl⟩
      refine ⟨_, I.step p (fun a h => h.elim (I.val a) fun e => e ▸ r.lt) (fun a h => ⟨(I.zv a h).1, fun x => x.elim (I.zv a h).2 fun e => nz (e ▸ h)⟩) (fun i v k h e => ⟨fun x => x.elim ?_ fun q => nf i v h (q ▸ e), rfl⟩), p, ?_⟩
      · obtain ⟨n', e', nb', _, _⟩ := I.ow i v h
        rw [e] at e'
        cases e'
        exact nb'
      · exact RO.r (.inr rfl) (RO.mono p.mo rfl r)
theorem put_get {α : Type} {l : List α} {i j : Nat} {x y : α} (h : (l.set i x)[j]? = some y) : (i = j ∧ x = y ∧ i < l.length) ∨ (i ≠ j ∧ l[j]? = some y) := by
  by_cases e : i = j
  · subst e
    rw [List.getElem?_set] at h
    simp only [if_true] at h
    split at h
    · rename_i hl
      exact .inl ⟨rfl, by simpa using h, hl⟩
    · simp at h
  · rw [List.getElem?_set_ne e] at h
    exact .inr ⟨e, h⟩
theorem Inv.put (I : Inv Y Z B s σ m) (i : Nat) {v : V} {d : D} (r : R B m v d) : Inv Y Z B (s.set i (some (.sh, v))) (σ.set i (some d)) m where
  yz := I.yz
  val := I.val
  zv := I.zv
  len := by rw [List.length_set, List.length_set, I.len]
  sh j w h := by
    rcases put_get h with ⟨rfl, e, hl⟩ | ⟨ne, h⟩
    · cases e; exact ⟨d, List.getElem?_set_self (I.len ▸ hl), r⟩
    · rw [List.getElem?_set_ne ne]; exact I.sh j w h
  bo j w h := by
    rcases put_get h with ⟨rfl, e, hl⟩ | ⟨ne, h⟩
    · cases e
    · rw [List.getElem?_set_ne ne]; exact I.bo j w h
  lk j w h := by
    rcases put_get h with ⟨rfl, e, hl⟩ | ⟨ne, h⟩
    · cases e
    · rw [List.getElem?_set_ne ne]; exact I.lk j w h
  ow j w h := by
    rcases put_get h with ⟨rfl, e, hl⟩ | ⟨ne, h⟩
    · cases e
    · rw [List.getElem?_set_ne ne]; exact I.ow j w h
  dis j k v w n h1 h2 h3 h4 := by
    rcases put_get h1 with ⟨rfl, e, hl⟩ | ⟨ne1, h1⟩
    · cases e
    rcases put_get h2 with ⟨rfl, e, hl⟩ | ⟨ne2, h2⟩
    · cases e
    rw [List.getElem?_set_ne ne1] at h3
    rw [List.getElem?_set_ne ne2] at h4
    exact I.dis j k v w n h1 h2 h3 h4
theorem Inv.putV (I : Inv Y Z B s σ m) (i : Nat) {v : V} {d : D} (e : σ[i]? = some (some d)) (r : R B m v d) : Inv Y Z B (s.set i (some (.sh, v))) σ m := by
  have h := I.put i r
  have hi : i < σ.length := (List.getElem?_eq_some_iff.mp e).1
  have : σ.set i (some d) = σ := by
    apply List.ext_getElem?
    intro j
    by_cases q : i = j
    · subst q; rw [List.getElem?_set_self hi, e]
    · rw [List.getElem?_set_ne q]
  rwa [this] at h
theorem Inv.off (I : Inv Y Z B s σ m) (i : Nat) : Inv Y Z B (s.set i none) σ m where
  yz := I.yz
  val := I.val
  zv := I.zv
  len := by rw [List.length_set, I.len]
  sh j w h := by
    rcases put_get h with ⟨rfl, e, hl⟩ | ⟨ne, h⟩
    · cases e
    · exact I.sh j w h
  bo j w h := by
    rcases put_get h with ⟨rfl, e, hl⟩ | ⟨ne, h⟩
    · cases e
    · exact I.bo j w h
  lk j w h := by
    rcases put_get h with ⟨rfl, e, hl⟩ | ⟨ne, h⟩
    · cases e
    · exact I.lk j w h
  ow j w h := by
    rcases put_get h with ⟨rfl, e, hl⟩ | ⟨ne, h⟩
    · cases e
    · exact I.ow j w h
  dis j k v w n h1 h2 h3 h4 := by
    rcases put_get h1 with ⟨rfl, e, hl⟩ | ⟨ne1, h1⟩
    · cases e
    rcases put_get h2 with ⟨rfl, e, hl⟩ | ⟨ne2, h2⟩
    · cases e
    exact I.dis j k v w n h1 h2 h3 h4
theorem Inv.any (I : Inv Y Z B s σ m) (i : Nat) (x : Option D) (h : ∀ y, s[i]? = some y → y = none) : Inv Y Z B s (σ.set i x) m := by
  have ne : ∀ {j k v}, s[j]? = some (some (k, v)) → i ≠ j := fun {j k v} e q => by subst q; cases h _ e
  exact {
    yz := I.yz
    val := I.val
    zv := I.zv
    len := by rw [List.length_set, I.len]
    sh := fun j w e => by rw [List.getElem?_set_ne (ne e)]; exact I.sh j w e
    bo := fun j w e => by rw [List.getElem?_set_ne (ne e)]; exact I.bo j w e
    lk := fun j w e => by rw [List.getElem?_set_ne (ne e)]; exact I.lk j w e
    ow := fun j w e => by rw [List.getElem?_set_ne (ne e)]; exact I.ow j w e
    dis := fun j k v w n h1 h2 h3 h4 => by
      rw [List.getElem?_set_ne (ne h1)] at h3
      rw [List.getElem?_set_ne (ne h2)] at h4
      exact I.dis j k v w n h1 h2 h3 h4 }
theorem Inv.putO (I : Inv Y Z B s σ m) (i : Nat) {v : V} {n : Nat} (nb : ¬ B n) (nz : ¬ Z n) (nf : Free s σ n) (r : RO B m v n) : Inv Y Z B (s.set i (some (.ow, v))) (σ.set i (some (.ref n))) m where
  yz := I.yz
  val := I.val
  zv := I.zv
  len := by rw [List.length_set, List.length_set, I.len]
  sh j w h := by
    rcases put_get h with ⟨rfl, e, hl⟩ | ⟨ne, h⟩
    · cases e
    · rw [List.getElem?_set_ne ne]; exact I.sh j w h
  bo j w h := by
    rcases put_get h with ⟨rfl, e, hl⟩ | ⟨ne, h⟩
    · cases e
    · rw [List.getElem?_set_ne ne]; exact I.bo j w h
  lk j w h := by
    rcases put_get h with ⟨rfl, e, hl⟩ | ⟨ne, h⟩
    · cases e
    · rw [List.getElem?_set_ne ne]; exact I.lk j w h
  ow j w h := by
    rcases put_get h with ⟨rfl, e, hl⟩ | ⟨ne, h⟩
    · cases e; exact ⟨n, List.getElem?_set_self (I.len ▸ hl), nb, nz, r⟩
    · rw [List.getElem?_set_ne ne]; exact I.ow j w h
  dis j k v w n' h1 h2 h3 h4 := by
    rcases put_get h1 with ⟨rfl, e1, hl1⟩ | ⟨ne1, h1⟩ <;> rcases put_get h2 with ⟨rfl, e2, hl2⟩ | ⟨ne2, h2⟩
    · rfl
    · rw [List.getElem?_set_self (I.len ▸ hl1)] at h3
      rw [List.getElem?_set_ne ne2] at h4
      cases h3
      exact absurd h4 (nf k w h2)
    · rw [List.getElem?_set_self (I.len ▸ hl2)] at h4
      rw [List.getElem?_set_ne ne1] at h3
      cases h4
      exact absurd h3 (nf j v h1)
    · rw [List.getElem?_set_ne ne1] at h3
      rw [List.getElem?_set_ne ne2] at h4
      exact I.dis j k v w n' h1 h2 h3 h4
theorem Inv.chg (I : Inv Y Z B s σ m) {i n : Nat} {v v' : V} {o : MO} (h : s[i]? = some (some (.ow, v))) (e : σ[i]? = some (some (.ref n)))
    (r : RO B (m.set n o) v' n) : Inv Y Z B (s.set i (some (.ow, v'))) σ (m.set n o) ∧ Sp Z B m B (m.set n o) := by
  obtain ⟨n', e', nb, nz, r0⟩ := I.ow i v h
  rw [e] at e'
  cases e'
  have hi : i < σ.length := (List.getElem?_eq_some_iff.mp e).1
  have p : Sp Z B m B (m.set n o) := ⟨fun _ h => h, fun a h => List.getElem?_set_ne fun (q : n = a) => nb (q ▸ h), fun a h => List.getElem?_set_ne fun (q : n = a) => nz (q ▸ h)⟩
  refine ⟨?_, p⟩
  have I1 := (I.off i).step p (fun a h => by rw [List.length_set]; exact I.val a h) (fun a h => by rw [List.length_set]; exact I.zv a h) (fun j w k h' e' => by
    rcases put_get h' with ⟨rfl, e, _⟩ | ⟨ne, h'⟩
    · cases e
    · obtain ⟨k', e2, nb', _, _⟩ := I.ow j w h'
      rw [e'] at e2
      cases e2
      exact ⟨nb', List.getElem?_set_ne fun (q : n = k) => ne (I.dis i j v w n h h' e (q ▸ e'))⟩)
  have I2 := I1.putO i (v := v') nb nz (fun j w h' e' => by
    rcases put_get h' with ⟨rfl, e, _⟩ | ⟨ne, h'⟩
    · cases e
    · exact ne (I.dis i j v w n h h' e e')) r
  rw [List.set_set] at I2
  have : σ.set i (some (.ref n)) = σ := by
    apply List.ext_getElem?
    intro j
    by_cases q : i = j
    · subst q; rw [List.getElem?_set_self hi, e]
    · rw [List.getElem?_set_ne q]
  rwa [this] at I2
theorem Inv.owSh (I : Inv Y Z B s σ m) {i : Nat} {v : V} (h : s[i]? = some (some (.ow, v))) : ∃ d B', σ[i]? = some (some d) ∧ Inv Y Z B' (s.set i (some (.sh, v))) σ m ∧ Sp Z B m B' m ∧ R B' m v d := by
  obtain ⟨n, e, nb, nz, r⟩ := I.ow i v h
  obtain ⟨B', I', p, r'⟩ := (I.off i).show (fr := true) (v := v) (d := .ref n) (.inr ⟨n, rfl, nb, nz, fun j w h' e' => by
    rcases put_get h' with ⟨rfl, e, _⟩ | ⟨ne, h'⟩
    · cases e
    · exact ne (I.dis i j v w n h h' e e'), r⟩)
  have := I'.putV i e r'
  rw [List.set_set] at this
  exact ⟨_, B', e, this, p, r'⟩
theorem set_id {l : Sto} {i : Nat} {x : Option D} (e : l[i]? = some x) : l.set i x = l := by
  have hi := (List.getElem?_eq_some_iff.mp e).1
  apply List.ext_getElem?
  intro j
  by_cases q : i = j
  · subst q; rw [List.getElem?_set_self hi, e]
  · rw [List.getElem?_set_ne q]
def Lk (Y : Nat → Nat → Prop) (i n : Nat) : Nat → Nat → Prop := fun j a => (j ≠ i ∧ Y j a) ∨ (j = i ∧ a = n)
theorem Inv.lock (I : Inv Y Z B s σ m) {i n : Nat} {v : V} (h : s[i]? = some (some (.ow, v))) (e : σ[i]? = some (some (.ref n))) : ¬ Z n ∧ Inv (Lk Y i n) (fun a => Z a ∨ a = n) B (s.set i (some (.lk, v))) σ m := by
  obtain ⟨n', e', nb, nz, ro⟩ := I.ow i v h
  rw [e] at e'
  cases e'
  refine ⟨nz, ?_⟩
  exact {
    yz := fun j a y => y.elim (fun y => .inl (I.yz j a y.2)) fun y => .inr y.2
    val := I.val
    zv := fun a z => z.elim (I.zv a) fun q => q ▸ ⟨ro.lt, nb⟩
    len := by rw [List.length_set, I.len]
    sh := fun j w h' => by
      rcases put_get h' with ⟨_, q, _⟩ | ⟨_, h'⟩
      · cases q
      · exact I.sh j w h'
    bo := fun j w h' => by
      rcases put_get h' with ⟨_, q, _⟩ | ⟨ne, h'⟩
      · cases q
      · obtain ⟨d, a, b⟩ := I.bo j w h'
        exact ⟨d, a, b.imp id fun ⟨k, x, y, z⟩ => ⟨k, x, .inl ⟨Ne.symm ne, y⟩, z⟩⟩
    lk := fun j w h' => by
      rcases put_get h' with ⟨rfl, q, _⟩ | ⟨ne, h'⟩
      · cases q; exact ⟨n, e, .inr ⟨rfl, rfl⟩, ro⟩
      · obtain ⟨k, x, y, z⟩ := I.lk j w h'
        exact ⟨k, x, .inl ⟨Ne.symm ne, y⟩, z⟩
    ow := fun j w h' => by
      rcases put_get h' with ⟨_, q, _⟩ | ⟨ne, h'⟩
      · cases q
      · obtain ⟨k, x, y, z, r⟩ := I.ow j w h'
        exact ⟨k, x, y, fun q => q.elim z fun q => ne (I.dis i j v w n h h' e (q ▸ x)), r⟩
    dis := fun j k u w l h1 h2 h3 h4 => by
      rcases put_get h1 with ⟨_, q, _⟩ | ⟨_, h1⟩
      · cases q
      rcases put_get h2 with ⟨_, q, _⟩ | ⟨_, h2⟩
      · cases q
      exact I.dis j k u w l h1 h2 h3 h4 }
theorem Inv.lkRest {i n : Nat} (I : Inv (Lk Y i n) (fun a => Z a ∨ a = n) B s σ m) (hy : ∀ i a, Y i a → Z a) (h : ∀ k v, s[i]? = some (some (k, v)) → k = .sh ∨ k = .ow) : Inv Y Z B s σ m where
  yz := hy
  val := I.val
  zv a z := I.zv a (.inl z)
  len := I.len
  sh := I.sh
  bo j w h' := by
    obtain ⟨d, a, b⟩ := I.bo j w h'
    refine ⟨d, a, b.imp id ?_⟩
    rintro ⟨k, x, y, z⟩
    rcases y with y | y
    · exact ⟨k, x, y.2, z⟩
    · have := y.1; subst this
      rcases h _ _ h' with q | q <;> cases q
  lk j w h' := by
    obtain ⟨k, x, y, z⟩ := I.lk j w h'
    rcases y with y | y
    · exact ⟨k, x, y.2, z⟩
    · have := y.1; subst this
      rcases h _ _ h' with q | q <;> cases q
  ow j w h' := by
    obtain ⟨k, x, y, z, r⟩ := I.ow j w h'
    exact ⟨k, x, y, fun q => z (.inl q), r⟩
  dis := I.dis
theorem Inv.unlock {i n : Nat} (I : Inv (Lk Y i n) (fun a => Z a ∨ a = n) B s σ m) (hy : ∀ i a, Y i a → Z a) (hz : ¬ Z n) : Inv Y Z B (unlockS (some i) s) σ m := by
  unfold unlockS
  simp only
  split
  · rename_i v h
    obtain ⟨k, x, y, ro⟩ := I.lk i v h
    rcases y with y | ⟨_, rfl⟩
    · exact absurd rfl y.1
    · have I1 := (I.off i).lkRest hy fun k v e => by
        rcases put_get e with ⟨_, q, _⟩ | ⟨ne, _⟩
        · cases q
        · exact absurd rfl ne
      have I2 := I1.putO i (v := v) (n := k) (I.zv k (.inr rfl)).2 hz (fun j w e1 e2 => by
        rcases put_get e1 with ⟨_, q, _⟩ | ⟨ne, e1⟩
        · cases q
        · obtain ⟨l, a, _, z, _⟩ := I.ow j w e1
          rw [e2] at a
          cases a
          exact z (.inr rfl)) ro
      rwa [List.set_set, set_id x] at I2
  · exact (I.off i).lkRest hy fun k v e => by
      rcases put_get e with ⟨_, q, _⟩ | ⟨ne, _⟩
      · cases q
      · exact absurd rfl ne
  · rename_i h1 h2
    exact I.lkRest hy fun k v e => by
      cases k with
      | sh => exact .inl rfl
      | ow => exact .inr rfl
      | bo => exact absurd e (h2 v)
      | lk => exact absurd e (h1 v)
end
end FV
namespace FV
open FS
section
variable {B : Nat → Prop} {m : Mem}
theorem Rs.length : ∀ {vs : List V} {ds : List D}, Rs B m vs ds → vs.length = ds.length
  | _, _, .nil => rfl
  | _, _, .cons _ r => by rw [List.length_cons, List.length_cons, Rs.length r]
theorem Rs.get : ∀ {vs : List V} {ds : List D}, Rs B m vs ds → ∀ {i : Nat} {v : V}, vs[i]? = some v → ∃ d, ds[i]? = some d ∧ R B m v d
  | _, _, .nil, i, v, h => by simp at h
  | _, _, .cons a r, 0, v, h => by
    simp only [List.getElem?_cons_zero, Option.some.injEq] at h
    subst h
    exact ⟨_, rfl, a⟩
  | _, _, .cons a r, i + 1, v, h => by
    rw [List.getElem?_cons_succ] at h
    obtain ⟨d, e, q⟩ := Rs.get r h
    exact ⟨d, by rw [List.getElem?_cons_succ, e], q⟩
theorem Rs.of : ∀ {vs : List V} {ds : List D}, vs.length = ds.length → (∀ (i : Nat) (v : V) (d : D), vs[i]? = some v → ds[i]? = some d → R B m v d) → Rs B m vs ds
  | [], [], _, _ => .nil
  | v :: vs, d :: ds, h, g => .cons (g 0 v d rfl rfl) (Rs.of (by simpa using h) fun i v d a b => g (i + 1) v d (by simpa using a) (by simpa using b))
  | [], _ :: _, h, _ => by simp at h
  | _ :: _, [], h, _ => by simp at h
theorem Rs.get2 {vs : List V} {ds : List D} (r : Rs B m vs ds) {i : Nat} {v : V} {d : D} (h : vs[i]? = some v) (e : ds[i]? = some d) : R B m v d := by
  obtain ⟨d', e', q⟩ := r.get h
  rw [e] at e'
  cases e'
  exact q
theorem Rs.append : ∀ {vs : List V} {ds : List D} {ws : List V} {es : List D}, Rs B m vs ds → Rs B m ws es → Rs B m (vs ++ ws) (ds ++ es)
  | _, _, _, _, .nil, q => q
  | _, _, _, _, .cons a r, q => .cons a (Rs.append r q)
theorem Rs.one {v : V} {d : D} (r : R B m v d) : Rs B m [v] [d] := .cons r .nil
theorem Rs.snoc {vs : List V} {ds : List D} {v : V} {d : D} (r : Rs B m vs ds) (q : R B m v d) : Rs B m (vs ++ [v]) (ds ++ [d]) := r.append (.one q)
theorem Rs.reverse : ∀ {vs : List V} {ds : List D}, Rs B m vs ds → Rs B m vs.reverse ds.reverse
  | _, _, .nil => .nil
  | _, _, .cons a r => by rw [List.reverse_cons, List.reverse_cons]; exact (Rs.reverse r).snoc a
theorem Rs.drop {vs : List V} {ds : List D} (r : Rs B m vs ds) (k : Nat) : Rs B m (vs.drop k) (ds.drop k) :=
  Rs.of (by simp [r.length]) fun i v d a b => r.get2 (by rw [List.getElem?_drop] at a; exact a) (by rw [List.getElem?_drop] at b; exact b)
theorem Rs.take {vs : List V} {ds : List D} (r : Rs B m vs ds) (k : Nat) : Rs B m (vs.take k) (ds.take k) :=
  Rs.of (by simp [r.length]) fun i v d a b => by
    rw [List.getElem?_take] at a b
    split at a
    · rw [if_pos (by assumption)] at b
      exact r.get2 a b
    · simp at a
theorem Rs.cut {vs : List V} {ds : List D} (r : Rs B m vs ds) (lo hi : Option Int) : Rs B m (cut vs lo hi) (cut ds lo hi) := by
  unfold FS.cut
  rw [r.length]
  exact (r.drop _).take _
theorem Rs.set {vs : List V} {ds : List D} (r : Rs B m vs ds) (j : Nat) {v : V} {d : D} (q : R B m v d) : Rs B m (vs.set j v) (ds.set j d) :=
  Rs.of (by simp [r.length]) fun i w e a b => by
    rw [List.getElem?_set] at a b
    split at a
    · rename_i h
      rw [if_pos h] at b
      split at a
      · split at b
        · simp only [Option.some.injEq] at a b
          subst a b
          exact q
        · simp at b
      · simp at a
    · rename_i h
      rw [if_neg h] at b
      exact r.get2 a b
theorem Rs.erase {vs : List V} {ds : List D} (r : Rs B m vs ds) (j : Nat) : Rs B m (vs.eraseIdx j) (ds.eraseIdx j) := by
  rw [List.eraseIdx_eq_take_drop_succ, List.eraseIdx_eq_take_drop_succ]
  exact (r.take j).append (r.drop (j + 1))
theorem Rs.flat {vs : List V} {ds : List D} (r : Rs B m vs ds) : ∀ k, Rs B m (List.replicate k vs).flatten (List.replicate k ds).flatten
  | 0 => .nil
  | k + 1 => by
    rw [List.replicate_succ, List.replicate_succ, List.flatten_cons, List.flatten_cons]
    exact r.append (Rs.flat r k)
theorem Rs.dropLast {vs : List V} {ds : List D} (r : Rs B m vs ds) : Rs B m vs.dropLast ds.dropLast := by
  rw [List.dropLast_eq_take, List.dropLast_eq_take, r.length]
  exact r.take _
theorem Rs.last {vs : List V} {ds : List D} (r : Rs B m vs ds) {v : V} (h : vs.getLast? = some v) : ∃ d, ds.getLast? = some d ∧ R B m v d := by
  rw [List.getLast?_eq_getElem?] at h ⊢
  rw [← r.length]
  exact r.get h
theorem sc_R {v : V} {d a : D} (h : v.sc = some a) : R B m v d → d = a
  | .non | .bl _ | .int _ | .str _ => by simp only [V.sc, Option.some.injEq] at h; exact h
  | .exc _ | .tup _ | .rol _ | .ins _ | .clo _ | .lst _ _ _ | .dct _ _ _ | .obj _ _ _ => by simp [V.sc] at h
theorem sc_RT {v : V} {d a : D} (h : v.sc = some a) (p : RT B m v d) : d = a := by
  cases p with
  | sh r => exact sc_R h r
  | own o => cases o <;> simp [V.sc] at h
theorem ofD_R {v : V} {d : D} (h : V.ofD d = some v) : R B m v d ∧ v.isRef = false := by
  cases d <;> simp only [V.ofD, Option.some.injEq, reduceCtorEq] at h <;> subst h
  · exact ⟨.non, rfl⟩
  · exact ⟨.bl _, rfl⟩
  · exact ⟨.int _, rfl⟩
  · exact ⟨.str _, rfl⟩
theorem scs_R : ∀ {vs : List V} {ds as : List D}, V.scs vs = some as → Rs B m vs ds → ds = as
  | [], [], as, h, .nil => by
    simp only [V.scs, List.mapM_nil, Option.pure_def, Option.some.injEq] at h
    exact h
  | v :: vs, d :: ds, as, h, .cons a r => by
    simp only [V.scs, List.mapM_cons, Option.bind_eq_bind, Option.pure_def] at h
    cases hv : v.sc with
    | none => rw [hv] at h; simp at h
    | some x =>
      cases hr : V.scs vs with
      | none => unfold V.scs at hr; rw [hv, hr] at h; simp at h
      | some y =>
        have hr' := hr
        unfold V.scs at hr'
        rw [hv, hr'] at h
        simp only [Option.bind_some, Option.some.injEq] at h
        rw [← h, sc_R hv a, scs_R hr r]
theorem allI_R {vs : List V} {ds : List D} {l : List Int} (h : V.allI vs = some l) (r : Rs B m vs ds) : allI ds = some l := by
  induction vs generalizing ds l with
  | nil => cases r; exact h
  | cons v vs ih =>
    cases r with
    | cons a r =>
      cases a with
      | int i =>
        simp only [V.allI, Option.map_eq_some_iff] at h
        obtain ⟨l', e, rfl⟩ := h
        simp only [allI, ih e r]; rfl
      | _ => simp [V.allI] at h
theorem allB_R {vs : List V} {ds : List D} {l : List Bool} (h : V.allB vs = some l) (r : Rs B m vs ds) : allB ds = some l := by
  induction vs generalizing ds l with
  | nil => cases r; exact h
  | cons v vs ih =>
    cases r with
    | cons a r =>
      cases a with
      | bl i =>
        simp only [V.allB, Option.map_eq_some_iff] at h
        obtain ⟨l', e, rfl⟩ := h
        simp only [allB, ih e r]; rfl
      | _ => simp [V.allB] at h
theorem allS_R {vs : List V} {ds : List D} {l : List (List Nat)} (h : V.allS vs = some l) (r : Rs B m vs ds) : allS ds = some l := by
  induction vs generalizing ds l with
  | nil => cases r; exact h
  | cons v vs ih =>
    cases r with
    | cons a r =>
      cases a with
      | str i =>
        simp only [V.allS, Option.map_eq_some_iff] at h
        obtain ⟨l', e, rfl⟩ := h
        simp only [allS, ih e r]; rfl
      | _ => simp [V.allS] at h
theorem keys_R : ∀ {vs : List V} {ds as : List D}, (vs.mapM fun v => match v with
    | .int i => some (D.int i)
    | .str s => some (D.str s)
    | _ => none) = some as → Rs B m vs ds → ds = as
  | [], [], as, h, .nil => by
    simp only [List.mapM_nil, Option.pure_def, Option.some.injEq] at h
    exact h
  | v :: vs, d :: ds, as, h, .cons a r => by
    simp only [List.mapM_cons, Option.bind_eq_bind, Option.pure_def, Option.bind_eq_some_iff, Option.some.injEq] at h
    obtain ⟨x, hx, y, hy, rfl⟩ := h
    rw [keys_R hy r]
    congr 1
    cases a <;> simp at hx <;> exact hx
theorem toK_R {v : V} {d k : D} (h : v.toK = some k) : R B m v d → d = k
  | .int _ | .str _ => by simp only [V.toK, Option.some.injEq] at h; exact h
  | .tup r => by
    simp only [V.toK, Option.map_eq_some_iff] at h
    obtain ⟨as, h1, rfl⟩ := h
    rw [keys_R h1 r]
  | .non | .bl _ | .exc _ | .rol _ | .ins _ | .clo _ | .lst _ _ _ | .dct _ _ _ | .obj _ _ _ => by simp [V.toK] at h
theorem key_R {t : Bool} {v : V} {d k : D} (h : v.key t = some k) (r : R B m v d) : d = k ∧ keyOk t k = true := by
  simp only [V.key, Option.bind_eq_some_iff] at h
  obtain ⟨a, h1, h2⟩ := h
  split at h2
  · rename_i h3
    cases h2
    exact ⟨toK_R h1 r, h3⟩
  · simp at h2
theorem key_RT {t : Bool} {v : V} {d k : D} (h : v.key t = some k) (p : RT B m v d) : d = k ∧ keyOk t k = true := by
  cases p with
  | sh r => exact key_R h r
  | own o => cases o <;> simp [V.key, V.toK] at h
theorem mapM_R {n : Nat} (ih : ∀ {v : V} {d : D} {x : Dat}, V.dat n v = some x → R B m v d → toDat n m d = some x) : ∀ {vs : List V} {ds : List D} {l : List Dat}, (vs.mapM fun v => V.dat n v) = some l → Rs B m vs ds → (ds.mapM fun d => toDat n m d) = some l
  | [], [], l, h, .nil => by
    simp only [List.mapM_nil, Option.pure_def, Option.some.injEq] at h ⊢
    exact h
  | v :: vs, d :: ds, l, h, .cons a r => by
    simp only [List.mapM_cons, Option.bind_eq_bind, Option.pure_def, Option.bind_eq_some_iff, Option.some.injEq] at h ⊢
    obtain ⟨x, hx, y, hy, rfl⟩ := h
    exact ⟨x, ih hx a, y, mapM_R ih hy r, rfl⟩
theorem dat_R : ∀ {n : Nat} {v : V} {d : D} {x : Dat}, V.dat n v = some x → R B m v d → toDat n m d = some x
  | n, _, _, x, h, .non => by cases n <;> exact h
  | n, _, _, x, h, .bl _ => by cases n <;> exact h
  | n, _, _, x, h, .int _ => by cases n <;> exact h
  | n, _, _, x, h, .str _ => by cases n <;> exact h
  | 0, _, _, x, h, .tup r | 0, _, _, x, h, .rol r => by simp [V.dat] at h
  | 0, _, _, x, h, .lst _ _ _ => by simp [V.dat] at h
  | n, _, _, x, h, .exc _ | n, _, _, x, h, .ins _ | n, _, _, x, h, .clo _ => by cases n <;> simp [V.dat] at h
  | n, _, _, x, h, .dct _ _ _ | n, _, _, x, h, .ldc _ _ _ | n, _, _, x, h, .obj _ _ _ => by cases n <;> simp [V.dat] at h
  | n + 1, _, _, x, h, .tup r => by
    simp only [V.dat, Option.map_eq_some_iff] at h
    obtain ⟨l, h1, rfl⟩ := h
    simp only [toDat, mapM_R dat_R h1 r]; rfl
  | n + 1, _, _, x, h, .rol r => by
    simp only [V.dat, Option.map_eq_some_iff] at h
    obtain ⟨l, h1, rfl⟩ := h
    simp only [toDat, mapM_R dat_R h1 r]; rfl
  | n + 1, _, _, x, h, .lst b e r => by
    simp only [V.dat, Option.map_eq_some_iff] at h
    obtain ⟨l, h1, rfl⟩ := h
    simp only [toDat, rdL, e, Option.bind, mapM_R dat_R h1 r]; rfl
theorem dat_RT {n : Nat} {v : V} {d : D} {x : Dat} (h : V.dat n v = some x) (p : RT B m v d) : toDat n m d = some x := by
  cases p with
  | sh r => exact dat_R h r
  | own o => cases o with
   | lst e r =>
    cases n with
    | zero => simp [V.dat] at h
    | succ n =>
      simp only [V.dat, Option.map_eq_some_iff] at h
      obtain ⟨l, h1, rfl⟩ := h
      simp only [toDat, rdL, e, Option.bind, mapM_R dat_R h1 r]; rfl
   | dct _ _ => cases n <;> simp [V.dat] at h
   | ldc _ _ => cases n <;> simp [V.dat] at h
   | obj _ _ => cases n <;> simp [V.dat] at h
theorem sc_scal {x : V} {d : D} (r : RT B m x d) (h : x.sc = none) : (∀ b, scal d b = false) ∧ ∀ a, scal a d = false := by
  constructor <;> intro b
  · cases r with
    | sh r => cases r <;> simp [V.sc] at h <;> cases b <;> rfl
    | own r => cases b <;> rfl
  · cases r with
    | sh r => cases r <;> simp [V.sc] at h <;> cases b <;> rfl
    | own r => cases b <;> rfl
theorem Rs_len : ∀ {vs : List V} {ds : List D}, Rs B m vs ds → ds.length = vs.length
  | _, _, .nil => rfl
  | _, _, .cons _ r => by rw [List.length_cons, List.length_cons, Rs_len r]
theorem lenL_RT {x : V} {d : D} {i : Nat} (h : V.lenL x = some i) (r : RT B m x d) : FS.lenL m d = some i := by
  cases r with
  | sh r => cases r with
    | rol r => simp only [V.lenL, Option.some.injEq] at h; simp only [FS.lenL, Rs_len r, h]
    | lst b e r => simp only [V.lenL, Option.some.injEq] at h; simp only [FS.lenL, rdL, e, Option.map_some, Rs_len r, h]
    | _ => cases h
  | own o => cases o with
    | lst e r => simp only [V.lenL, Option.some.injEq] at h; simp only [FS.lenL, rdL, e, Option.map_some, Rs_len r, h]
    | dct _ _ => cases h
    | ldc _ _ => cases h
    | obj _ _ => cases h
theorem lenL_dat {d : D} {i n : Nat} {x : Dat} (h : FS.lenL m d = some i) (hx : toDat n m d = some x) : ∃ l, x = .lst l ∧ l.length = i := by
  have hm : ∀ {n : Nat} {ds : List D} {l : List Dat}, ds.mapM (fun d => toDat n m d) = some l → l.length = ds.length := by
    intro n ds
    induction ds with
    | nil => intro l h; simp at h; rw [h]; rfl
    | cons a ds ih =>
      intro l h
      simp only [List.mapM_cons, Option.bind_eq_bind, Option.pure_def, Option.bind_eq_some_iff, Option.some.injEq] at h
      obtain ⟨_, _, y, hy, rfl⟩ := h
      rw [List.length_cons, List.length_cons, ih hy]
  cases d with
  | rol ds =>
    simp only [FS.lenL, Option.some.injEq] at h
    cases n with
    | zero => simp [toDat] at hx
    | succ n =>
      simp only [toDat, Option.map_eq_some_iff] at hx
      obtain ⟨l, hl, rfl⟩ := hx
      exact ⟨l, rfl, by rw [hm hl, h]⟩
  | ref k =>
    simp only [FS.lenL, Option.map_eq_some_iff] at h
    obtain ⟨ds, hd, h⟩ := h
    cases n with
    | zero => simp [toDat] at hx
    | succ n =>
      simp only [toDat, hd, Option.bind_some, Option.map_eq_some_iff] at hx
      obtain ⟨l, hl, rfl⟩ := hx
      exact ⟨l, rfl, by rw [hm hl, h]⟩
  | _ => cases h
theorem eqvs_len : ∀ {l k : List Dat}, l.length ≠ k.length → Dat.eqvs l k = false
  | [], [], h => absurd rfl h
  | [], _ :: _, _ => rfl
  | _ :: _, [], _ => rfl
  | a :: l, b :: k, h => by rw [Dat.eqvs, eqvs_len (l := l) (k := k) fun e => h (by rw [List.length_cons, List.length_cons, e]), Bool.and_false]
theorem neqL_R {x y : V} {d e : D} {b : Bool} (h : V.neqL x y = some b) (hn : scal d e = false) (r : RT B m x d) (q : RT B m y e) : eqD m d e = some b := by
  unfold V.neqL at h
  split at h
  · rename_i i j e1 e2
    split at h
    · cases h
    · rename_i hij
      cases h
      have f1 := lenL_RT e1 r
      have f2 := lenL_RT e2 q
      unfold eqD
      rw [hn]
      simp only [Bool.false_eq_true, if_false]
      split
      · rename_i u w g1 g2
        obtain ⟨l, rfl, hl⟩ := lenL_dat f1 g1
        obtain ⟨k, rfl, hk⟩ := lenL_dat f2 g2
        rw [Dat.eqv, eqvs_len (by rw [hl, hk]; exact hij)]
      · simp only [FS.neqL, f1, f2, if_neg hij]
  · cases h
theorem kV_R : ∀ {k : D}, (keyOk false k || keyOk true k) = true → R B m (kV k) k
  | .int i, _ => .int i
  | .str s, _ => .str s
  | .tup ds, h => by
    have h' : ds.all isKeyT = true := by simpa [keyOk, isKeyT] using h
    clear h
    refine .tup ?_
    induction ds with
    | nil => exact .nil
    | cons a l ih =>
      simp only [List.all_cons, Bool.and_eq_true] at h'
      have ha := h'.1
      refine .cons ?_ (ih h'.2)
      cases a <;> simp only [isKeyT, Bool.false_eq_true] at ha
      · exact .int _
      · exact .str _
  | .non, h | .bl _, h | .rol _, h | .ins _ _, h | .ref _, h | .exc _, h | .clo _ _, h => by simp [keyOk, isKeyT] at h
theorem get_R : ∀ {kvs : List (D × V)} {kds : List (D × D)}, Rk B m kvs kds → ∀ (k : D), (∀ v, V.get kvs k = some v → ∃ d, dGet kds k = some d ∧ R B m v d) ∧ (V.get kvs k = none → dGet kds k = none)
  | _, _, .nil, k => ⟨fun v h => by simp [V.get] at h, fun _ => rfl⟩
  | _, _, .cons (k := k') a r, k => by
    have ih := get_R r k
    by_cases e : D.beq k' k = true
    · constructor
      · intro v h
        simp only [V.get, List.find?_cons, e, Option.map_some, Option.some.injEq] at h
        subst h
        exact ⟨_, by simp [dGet, List.find?_cons, e], a⟩
      · intro h
        simp [V.get, List.find?_cons, e] at h
    · have e' : D.beq k' k = false := by simpa using e
      constructor
      · intro v h
        simp only [V.get, List.find?_cons, e'] at h
        obtain ⟨d, h1, h2⟩ := ih.1 v h
        exact ⟨d, by simpa [dGet, List.find?_cons, e'] using h1, h2⟩
      · intro h
        simp only [V.get, List.find?_cons, e'] at h
        simpa [dGet, List.find?_cons, e'] using ih.2 h
theorem dctV_RT {x : V} {d : D} {t : Bool} {ks : List (D × V)} (h : V.dctV x = some (t, ks)) (r : RT B m x d) : ∃ n kds, d = .ref n ∧ m[n]? = some (.dct t false kds) ∧ Rk B m ks kds := by
  cases x <;> simp only [V.dctV, Option.some.injEq, Prod.mk.injEq, reduceCtorEq] at h
  obtain ⟨rfl, rfl⟩ := h
  cases r with
  | sh r => cases r with | dct b e k => exact ⟨_, _, rfl, e, k⟩
  | own o => cases o with | dct e k => exact ⟨_, _, rfl, e, k⟩
theorem datEq_R {x y : V} {d e : D} {b : Bool} (h : V.datEq x y = some b) (r : R B m x d) (q : R B m y e) : FS.datEq m d e = some b := by
  unfold V.datEq at h
  split at h
  · rename_i u w h1 h2
    unfold FS.datEq
    rw [dat_RT h1 (.sh r), dat_RT h2 (.sh q)]
    exact h
  · cases h
theorem eqKv_R {ls : List (D × V)} {lds : List (D × D)} (rl : Rk B m ls lds) : ∀ {ks : List (D × V)} {kds : List (D × D)} {b : Bool}, Rk B m ks kds → V.eqKv ls ks = some b → FS.eqKv m lds kds = some b
  | _, _, b, .nil, h => h
  | _, _, b, .cons (k := k) (v := v) (d := d) a r, h => by
    unfold V.eqKv at h
    unfold FS.eqKv
    obtain ⟨g1, g2⟩ := get_R rl k
    simp only at h ⊢
    cases hg : V.get ls k with
    | none =>
      rw [hg] at h
      rw [g2 hg]
      exact h
    | some y =>
      rw [hg] at h
      obtain ⟨z, hz, rz⟩ := g1 y hg
      rw [hz]
      simp only at h ⊢
      cases hd : V.datEq v y with
      | none => rw [hd] at h; cases h
      | some c =>
        rw [hd] at h
        cases he : V.eqKv ls _ with
        | none => rw [he] at h; cases h
        | some f =>
          rw [he] at h
          rw [datEq_R hd a rz, eqKv_R rl r he]
          exact h
theorem rk_len : ∀ {ks : List (D × V)} {kds : List (D × D)}, Rk B m ks kds → kds.length = ks.length
  | _, _, .nil => rfl
  | _, _, .cons _ r => by simp [rk_len r]
theorem eqDct_R {x y : V} {d e : D} {b : Bool} (h : V.eqDct x y = some b) (hn : scal d e = false) (r : RT B m x d) (q : RT B m y e) : eqD m d e = some b := by
  unfold V.eqDct at h
  split at h
  · rename_i t ks u ls e1 e2
    obtain ⟨n, kds, rfl, g1, r1⟩ := dctV_RT e1 r
    obtain ⟨k, lds, rfl, g2, r2⟩ := dctV_RT e2 q
    have t1 : toDat 60 m (.ref n) = none := by simp only [toDat, rdL, g1, Option.bind_none]
    unfold eqD
    rw [hn, t1]
    simp only [Bool.false_eq_true, if_false]
    have t2 : FS.neqL m (.ref n) (.ref k) = none := by simp only [FS.neqL, FS.lenL, rdL, g1, Option.map_none]
    rw [t2]
    simp only [FS.eqDct, FS.dctOf, g1, g2]
    have l1 := rk_len r1
    have l2 := rk_len r2
    by_cases hl : ks.length = ls.length
    · rw [if_pos hl] at h
      rw [if_pos (by omega)]
      by_cases h0 : ks.isEmpty = true
      · rw [if_pos h0] at h
        have : kds = [] := by
          have : ks = [] := by simpa using h0
          subst this
          exact List.length_eq_zero_iff.mp l1
        rw [if_pos this]
        exact h
      · rw [if_neg h0] at h
        have : kds ≠ [] := fun z => h0 (by rw [z] at l1; simp at l1; simp [List.length_eq_zero_iff.mp l1.symm])
        rw [if_neg this]
        split at h
        · cases h
        · rename_i htu
          rw [if_neg htu]
          exact eqKv_R r2 r1 h
    · rw [if_neg hl] at h
      rw [if_neg (by omega)]
      exact h
  · cases h
theorem eqv_R {x y : V} {d e : D} {b : Bool} (h : V.eqv x y = some b) (hs : x.sc = none ∨ y.sc = none) (r : RT B m x d) (q : RT B m y e) : eqD m d e = some b := by
  have hn : scal d e = false := hs.elim (fun h => (sc_scal r h).1 e) fun h => (sc_scal q h).2 d
  unfold V.eqv at h
  split at h
  · rename_i u w h1 h2
    simp only [Option.some.injEq] at h
    unfold eqD
    rw [hn, dat_RT h1 r, dat_RT h2 q]
    simp [h]
  · cases hq : V.neqL x y with
    | some r' =>
      rw [hq] at h
      cases h
      exact neqL_R hq hn r q
    | none =>
      rw [hq] at h
      exact eqDct_R h hn r q
theorem isSome_R {kvs : List (D × V)} {kds : List (D × D)} (r : Rk B m kvs kds) (k : D) : (dGet kds k).isSome = (V.get kvs k).isSome := by
  cases h : V.get kvs k with
  | none => rw [(get_R r k).2 h]; rfl
  | some v =>
    obtain ⟨d, e, _⟩ := (get_R r k).1 v h
    rw [e]; rfl
theorem flat_sc {v : V} {a : D} (h : v.sc = some a) : flat a = true := by
  cases v <;> simp only [V.sc, Option.some.injEq, reduceCtorEq] at h <;> subst h <;> rfl
theorem flats_sc : ∀ {vs : List V} {as : List D}, V.scs vs = some as → as.all flat = true
  | [], as, h => by
    simp only [V.scs, List.mapM_nil, Option.pure_def, Option.some.injEq] at h
    subst h; rfl
  | v :: vs, as, h => by
    simp only [V.scs, List.mapM_cons, Option.bind_eq_bind, Option.pure_def, Option.bind_eq_some_iff, Option.some.injEq] at h
    obtain ⟨x, hx, y, hy, rfl⟩ := h
    simp [flat_sc hx]
    simpa using flats_sc hy
theorem inV_lst0 (x : V) (vs : List V) : V.inV x (.lst vs) = (match x.sc.bind fun a => (V.scs vs).map fun ds => ds.any fun y => eqFlat y a with
    | some r => some r
    | none => V.inDat x (.lst vs)) := by cases x <;> rfl
theorem flat_isc {x : V} {d : D} (r : RT B m x d) (h : flat d = true) : ∃ a, x.sc = some a := by
  cases r with
  | sh r => cases r <;> first | exact ⟨_, rfl⟩ | (simp [flat] at h; done)
  | own o => cases o <;> simp [flat] at h
theorem flats_isc : ∀ {vs : List V} {ds : List D}, Rs B m vs ds → ds.all flat = true → ∃ as, V.scs vs = some as
  | _, _, .nil, _ => ⟨[], rfl⟩
  | _, _, .cons a r, h => by
    rw [List.all_cons, Bool.and_eq_true] at h
    obtain ⟨x, hx⟩ := flat_isc (.sh a) h.1
    obtain ⟨as, hs⟩ := flats_isc r h.2
    refine ⟨x :: as, ?_⟩
    unfold V.scs at hs ⊢
    rw [List.mapM_cons, hx, hs]; rfl
theorem inDat_R {x : V} {d : D} {n : Nat} {vs : List V} {b : Bool} (h : V.inDat x (.lst vs) = some b) (r : RT B m x d) (q : RT B m (.lst vs) (.ref n)) : FS.inDat m d (.ref n) = some b := by
  unfold V.inDat at h
  split at h
  · rename_i a l h1 h2
    unfold FS.inDat
    rw [dat_RT h1 r, dat_RT h2 q]
    exact h
  · cases h
theorem inV_tup (x : V) (vs : List V) : V.inV x (.tup vs) = (x.sc.bind fun a => (V.scs vs).map fun ds => ds.any fun y => eqFlat y a) := by cases x <;> rfl
theorem inV_dct (x : V) (t : Bool) (kvs : List (D × V)) : V.inV x (.dct t kvs) = ((x.key t).map fun k => (V.get kvs k).isSome) := by cases x <;> rfl
theorem inV_ldc (x : V) (t : Bool) (kvs : List (D × V)) : V.inV x (.ldc t kvs) = ((x.key t).map fun k => (V.get kvs k).isSome) := by cases x <;> rfl
theorem idx_dct (k : V) (t : Bool) (kvs : List (D × V)) : V.idx (.dct t kvs) k = (k.key t).bind (V.get kvs) := by cases k <;> rfl
theorem idx_ldc (k : V) (t : Bool) (kvs : List (D × V)) : V.idx (.ldc t kvs) k = (k.key t).bind (V.get kvs) := by cases k <;> rfl
theorem inD_tup (m : Mem) (d : D) (ds : List D) : inD m d (.tup ds) = if flat d && ds.all flat then some (ds.any fun y => eqFlat y d) else none := by cases d <;> rfl
theorem inV_R {x y : V} {d e : D} {b : Bool} (h : V.inV x y = some b) (r : RT B m x d) (q : RT B m y e) : inD m d e = some b := by
  have lstC : ∀ {vs : List V} {ds : List D}, (x.sc.bind fun a => (V.scs vs).map fun ds => ds.any fun y => eqFlat y a) = some b → Rs B m vs ds → (flat d && ds.all flat) = true ∧ (ds.any fun y => eqFlat y d) = b := by
    intro vs ds h r'
    simp only [Option.bind_eq_some_iff, Option.map_eq_some_iff] at h
    obtain ⟨a, h1, as, h2, h3⟩ := h
    rw [sc_RT h1 r, scs_R h2 r']
    exact ⟨by rw [flat_sc h1, flats_sc h2]; rfl, h3⟩
  have dctC : ∀ {t : Bool} {kvs : List (D × V)} {kds : List (D × D)}, ((x.key t).map fun k => (V.get kvs k).isSome) = some b → Rk B m kvs kds → keyOk t d = true ∧ (dGet kds d).isSome = b := by
    intro t kvs kds h r'
    simp only [Option.map_eq_some_iff] at h
    obtain ⟨k, h1, h2⟩ := h
    obtain ⟨h3, h4⟩ := key_RT h1 r
    rw [h3, isSome_R r']
    exact ⟨h4, h2⟩
  have lstD : ∀ {vs : List V} {ds : List D} {n : Nat}, V.inV x (.lst vs) = some b → m[n]? = some (.lst ds) → Rs B m vs ds → RT B m (.lst vs) (.ref n) → inD m d (.ref n) = some b := by
    intro vs ds n h e1 r1 q
    rw [inV_lst0] at h
    have key : inD m d (.ref n) = if (flat d && ds.all flat) = true then some (ds.any fun y => eqFlat y d) else FS.inDat m d (.ref n) := by
      cases d <;> simp only [inD, e1]
    rw [key]
    cases hs : x.sc.bind fun a => (V.scs vs).map fun ds => ds.any fun y => eqFlat y a with
    | some z =>
      rw [hs] at h
      cases h
      obtain ⟨h1, h2⟩ := lstC hs r1
      rw [if_pos h1, h2]
    | none =>
      rw [hs] at h
      by_cases hf : (flat d && ds.all flat) = true
      · rw [Bool.and_eq_true] at hf
        obtain ⟨a, ha⟩ := flat_isc r hf.1
        obtain ⟨as, has⟩ := flats_isc r1 hf.2
        rw [ha, has] at hs
        cases hs
      · rw [if_neg hf]
        exact inDat_R h r q
  cases q with
  | own o =>
    cases o with
    | lst e1 r1 => exact lstD h e1 r1 (.own (.lst e1 r1))
    | dct e1 r1 =>
      obtain ⟨h1, h2⟩ := dctC ((inV_dct _ _ _).symm.trans h) r1
      simp only [inD, e1, h1, if_true, h2]
    | ldc e1 r1 =>
      obtain ⟨h1, h2⟩ := dctC ((inV_ldc _ _ _).symm.trans h) r1
      simp only [inD, e1, h1, if_true, h2]
    | obj e1 r1 => cases x <;> simp [V.inV] at h
  | sh q =>
    cases q with
    | lst b1 e1 r1 => exact lstD h e1 r1 (.sh (.lst b1 e1 r1))
    | dct b1 e1 r1 =>
      obtain ⟨h1, h2⟩ := dctC ((inV_dct _ _ _).symm.trans h) r1
      simp only [inD, e1, h1, if_true, h2]
    | ldc b1 e1 r1 =>
      obtain ⟨h1, h2⟩ := dctC ((inV_ldc _ _ _).symm.trans h) r1
      simp only [inD, e1, h1, if_true, h2]
    | tup r1 =>
      obtain ⟨h1, h2⟩ := lstC ((inV_tup _ _).symm.trans h) r1
      rw [inD_tup, if_pos h1, h2]
    | str z =>
      cases x <;> simp only [V.inV, Option.some.injEq, reduceCtorEq] at h
      rename_i t
      have hd : d = .str t := sc_RT rfl r
      subst hd
      simp only [inD, h]
    | non | bl _ | int _ | exc _ | rol _ | ins _ | clo _ | obj _ _ _ => cases x <;> simp [V.inV] at h
theorem non_R {x : V} {d : D} (r : RT B m x d) : decide (d = .non) = x.isNon := by
  cases r with
  | sh r => cases r <;> simp [V.isNon]
  | own r => cases r <;> simp [V.isNon]
theorem cmp2_sc {o : Cm} {x y : V} {a b : D} (hx : x.sc = some a) (hy : y.sc = some b) (m : Mem) : cmp2 o a b m = cmp2 o a b [] := by
  cases x <;> simp only [V.sc, Option.some.injEq, reduceCtorEq] at hx <;> cases y <;> simp only [V.sc, Option.some.injEq, reduceCtorEq] at hy <;> subst hx hy <;> cases o <;> rfl
theorem cmp_R {o : Cm} {x y : V} {d e : D} {b : Bool} (h : V.cmp o x y = some b) (r : RT B m x d) (q : RT B m y e) : cmp2 o d e m = some b := by
  have gen : V.cmpG o x y = some b → cmp2 o d e m = some b := by
    clear h
    intro h
    unfold V.cmpG at h
    cases hx : x.sc with
    | none =>
      rw [hx] at h
      cases o <;> simp only [reduceCtorEq] at h
      · exact eqv_R h (.inl hx) r q
      · simp only [Option.map_eq_some_iff] at h
        obtain ⟨c, h1, h2⟩ := h
        show (eqD m d e).map _ = _
        rw [eqv_R h1 (.inl hx) r q, ← h2]; rfl
    | some a =>
      cases hy : y.sc with
      | none =>
        rw [hx, hy] at h
        cases o <;> simp only [reduceCtorEq] at h
        · exact eqv_R h (.inr hy) r q
        · simp only [Option.map_eq_some_iff] at h
          obtain ⟨c, h1, h2⟩ := h
          show (eqD m d e).map _ = _
          rw [eqv_R h1 (.inr hy) r q, ← h2]; rfl
      | some c =>
        rw [hx, hy] at h
        rw [sc_RT hx r, sc_RT hy q, cmp2_sc hx hy]
        exact h
  have isC : y = .non → o = .is → cmp2 o d e m = some b := by
    intro e1 e2
    subst e1 e2
    have : e = .non := sc_RT rfl q
    subst this
    have h' : some x.isNon = some b := by cases x <;> exact h
    show some (decide (d = .non)) = some b
    rw [non_R r, h']
  have isnC : y = .non → o = .isn → cmp2 o d e m = some b := by
    intro e1 e2
    subst e1 e2
    have : e = .non := sc_RT rfl q
    subst this
    have h' : some (!x.isNon) = some b := by cases x <;> exact h
    show some (!decide (d = .non)) = some b
    rw [non_R r, h']
  cases o with
  | inn => exact inV_R h r q
  | nin =>
    have h' : (V.inV x y).map (!·) = some b := h
    simp only [Option.map_eq_some_iff] at h'
    obtain ⟨c, h1, h2⟩ := h'
    show (inD m d e).map _ = _
    rw [inV_R h1 r q, ← h2]; rfl
  | is => cases y with
    | non => exact isC rfl rfl
    | _ => exact gen h
  | isn => cases y with
    | non => exact isnC rfl rfl
    | _ => exact gen h
  | _ => exact gen h
inductive PR (B : Nat → Prop) (m : Mem) (fr : Bool) : V → Res D → Prop where
  | old {r : V} {d : D} : R B m r d → (fr = true → r.isRef = false) → PR B m fr r (.ok d m)
  | new {vs : List V} {ds : List D} : Rs B m vs ds → PR B m fr (.lst vs) (.ok (.ref m.length) (m ++ [.lst ds]))
theorem op2_sc {o : O2} {x y : V} {a b : D} (hx : x.sc = some a) (hy : y.sc = some b) (m : Mem) : (∃ d, op2 o a b [] = .ok d [] ∧ op2 o a b m = .ok d m) ∨ op2 o a b [] = .no := by
  cases x <;> simp only [V.sc, Option.some.injEq, reduceCtorEq] at hx <;> cases y <;> simp only [V.sc, Option.some.injEq, reduceCtorEq] at hy <;> subst hx hy <;> cases o <;> simp only [op2] <;>
    (repeat' split) <;> first | exact .inr rfl | exact .inl ⟨_, rfl, rfl⟩ | simp_all
theorem op_R {o : O2} {x y r : V} {d e : D} {fr : Bool} (h : V.op o x y = some r) (p : RT B m x d) (q : RT B m y e) : PR B m fr r (op2 o d e m) := by
  have gen : V.opG o x y = some r → PR B m fr r (op2 o d e m) := by
    clear h
    intro h
    unfold V.opG at h
    cases hx : x.sc with
    | none => rw [hx] at h; simp at h
    | some a =>
      cases hy : y.sc with
      | none => rw [hx, hy] at h; simp at h
      | some b =>
        rw [hx, hy] at h
        rw [sc_RT hx p, sc_RT hy q]
        rcases op2_sc (o := o) hx hy m with ⟨d, h1, h2⟩ | h1
        · simp only [h1, V.ofR] at h
          rw [h2]
          obtain ⟨h3, h4⟩ := ofD_R (B := B) (m := m) h
          exact .old h3 fun _ => h4
        · simp [h1, V.ofR] at h
  have lstI : ∀ {vs : List V} {d : D}, RT B m (.lst vs) d → ∃ n ds, d = .ref n ∧ rdL m n = some ds ∧ Rs B m vs ds := by
    intro vs d p
    cases p with
    | sh p => cases p with
      | lst b e r => exact ⟨_, _, rfl, by simp [rdL, e], r⟩
    | own p => cases p with
      | lst e r => exact ⟨_, _, rfl, by simp [rdL, e], r⟩
  cases o with
  | add =>
    cases x with
    | lst a => cases y with
      | lst b =>
        obtain ⟨n, ds, rfl, h1, r1⟩ := lstI p
        obtain ⟨k, es, rfl, h2, r2⟩ := lstI q
        simp only [V.op] at h
        split at h
        · rename_i hl
          cases h
          simp only [op2, h1, h2]
          rw [if_pos (by rw [← r1.length, ← r2.length]; exact hl)]
          exact .new (r1.append r2)
        · simp at h
      | _ => exact gen h
    | tup a => cases y with
      | tup b =>
        have tupI : ∀ {vs : List V} {d : D}, RT B m (.tup vs) d → ∃ ds, d = .tup ds ∧ Rs B m vs ds := by
          intro vs d p
          cases p with
          | sh p => cases p with
            | tup r => exact ⟨_, rfl, r⟩
          | own p => cases p
        obtain ⟨ds, rfl, r1⟩ := tupI p
        obtain ⟨es, rfl, r2⟩ := tupI q
        simp only [V.op] at h
        split at h
        · rename_i hl
          cases h
          simp only [op2]
          rw [if_pos (by rw [← r1.length, ← r2.length]; exact hl)]
          exact .old (.tup (r1.append r2)) fun _ => rfl
        · simp at h
      | _ => exact gen h
    | _ => exact gen h
  | mul =>
    cases x with
    | lst a => cases y with
      | int k =>
        obtain ⟨n, ds, rfl, h1, r1⟩ := lstI p
        have he : e = .int k := sc_RT rfl q
        subst he
        simp only [V.op] at h
        split at h
        · rename_i hl
          cases h
          simp only [op2, h1]
          rw [if_pos (by rw [← r1.length]; exact hl)]
          exact .new (r1.flat _)
        · simp at h
      | _ => exact gen h
    | _ => exact gen h
  | _ => exact gen h
theorem atI_R {vs : List V} {ds : List D} (r : Rs B m vs ds) {i : Int} {v : V} (h : atI vs i = some v) : ∃ d, atI ds i = some d ∧ R B m v d := by
  unfold atI at h ⊢
  rw [← r.length]
  cases hn : ixN vs.length i with
  | none => rw [hn] at h; simp at h
  | some j =>
    rw [hn] at h
    exact r.get h
theorem idx_R {x k r : V} {d e : D} (h : V.idx x k = some r) (p : RT B m x d) (q : RT B m k e) : ∃ z, index d e m = .ok z m ∧ R B m r z := by
  have intC : ∀ {vs : List V}, (∀ (ds : List D) (i : Int), x = x → k = .int i → Rs B m vs ds → atI vs i = some r → ∃ z, opt m (atI ds i) = .ok z m ∧ R B m r z) := by
    intro vs ds i _ _ r1 h
    obtain ⟨z, h1, h2⟩ := atI_R r1 h
    exact ⟨z, by rw [h1]; rfl, h2⟩
  have dctC : ∀ {t : Bool} {kvs : List (D × V)} {kds : List (D × D)}, (k.key t).bind (V.get kvs) = some r → Rk B m kvs kds → keyOk t e = true ∧ ∃ z, opt m (dGet kds e) = .ok z m ∧ R B m r z := by
    intro t kvs kds h r'
    simp only [Option.bind_eq_some_iff] at h
    obtain ⟨k', h1, h2⟩ := h
    obtain ⟨h3, h4⟩ := key_RT h1 q
    obtain ⟨z, h5, h6⟩ := (get_R r' k').1 r h2
    rw [h3]
    exact ⟨h4, z, by rw [h5]; rfl, h6⟩
  cases p with
  | own o =>
    cases o with
    | lst e1 r1 =>
      cases k <;> simp only [V.idx, reduceCtorEq] at h
      have he := sc_RT rfl q
      subst he
      simp only [index, e1]
      exact intC _ _ rfl rfl r1 h
    | dct e1 r1 =>
      obtain ⟨h1, h2⟩ := dctC ((idx_dct _ _ _).symm.trans h) r1
      simp only [index, e1, h1, if_true]
      exact h2
    | ldc e1 r1 =>
      obtain ⟨h1, h2⟩ := dctC ((idx_ldc _ _ _).symm.trans h) r1
      simp only [index, e1, h1, if_true]
      exact h2
    | obj e1 r1 => cases k <;> simp [V.idx] at h
  | sh o =>
    cases o with
    | lst b1 e1 r1 =>
      cases k <;> simp only [V.idx, reduceCtorEq] at h
      have he := sc_RT rfl q
      subst he
      simp only [index, e1]
      exact intC _ _ rfl rfl r1 h
    | dct b1 e1 r1 =>
      obtain ⟨h1, h2⟩ := dctC ((idx_dct _ _ _).symm.trans h) r1
      simp only [index, e1, h1, if_true]
      exact h2
    | ldc b1 e1 r1 =>
      obtain ⟨h1, h2⟩ := dctC ((idx_ldc _ _ _).symm.trans h) r1
      simp only [index, e1, h1, if_true]
      exact h2
    | tup r1 | rol r1 =>
      cases k <;> simp only [V.idx, reduceCtorEq] at h
      have he := sc_RT rfl q
      subst he
      simp only [index]
      exact intC _ _ rfl rfl r1 h
    | str s =>
      cases k <;> simp only [V.idx, reduceCtorEq] at h
      have he := sc_RT rfl q
      subst he
      split at h
      · rename_i hl
        simp only [Option.map_eq_some_iff] at h
        obtain ⟨c, h1, rfl⟩ := h
        simp only [index, hl, if_true, h1]
        exact ⟨_, rfl, .str _⟩
      · simp at h
    | non | bl _ | int _ | exc _ | ins _ | clo _ | obj _ _ _ => cases k <;> simp [V.idx] at h
theorem slc_R {x r : V} {d : D} {lo hi : Option Int} {fr : Bool} (h : V.slc x lo hi = some r) (p : RT B m x d) : PR B m fr r (slice d lo hi m) := by
  have key : ∀ {vs : List V} {ds : List D}, Rs B m vs ds → r = .lst (cut vs lo hi) → PR B m fr r (.ok (.ref m.length) (m ++ [.lst (cut ds lo hi)])) := by
    intro vs ds r1 e
    subst e
    exact .new (r1.cut lo hi)
  cases p with
  | own o =>
    cases o with
    | lst e1 r1 =>
      simp only [V.slc, Option.some.injEq] at h
      simp only [slice, seqL, rdL, e1]
      exact key r1 h.symm
    | dct e1 r1 => simp [V.slc] at h
    | ldc e1 r1 => simp [V.slc] at h
    | obj e1 r1 => simp [V.slc] at h
  | sh o =>
    cases o with
    | lst b1 e1 r1 =>
      simp only [V.slc, Option.some.injEq] at h
      simp only [slice, seqL, rdL, e1]
      exact key r1 h.symm
    | rol r1 =>
      simp only [V.slc, Option.some.injEq] at h
      simp only [slice, seqL]
      exact key r1 h.symm
    | str s =>
      simp only [V.slc] at h
      split at h
      · rename_i hl
        cases h
        simp only [slice, hl, if_true]
        exact .old (.str _) fun _ => rfl
      · simp at h
    | tup r1 =>
      simp only [V.slc, Option.some.injEq] at h
      subst h
      exact .old (.tup (r1.cut lo hi)) fun _ => rfl
    | _ => simp [V.slc] at h
theorem Rs.ev2 : ∀ {vs : List V} {ds : List D}, Rs B m vs ds → Rs B m (FS.ev2 vs) (FS.ev2 ds)
  | [], _, .nil => .nil
  | [_], _, .cons a .nil => .cons a .nil
  | _ :: _ :: _, _, .cons a (.cons _ r) => .cons a (Rs.ev2 r)
theorem ev2_R {x r : V} {d : D} {lo : Option Int} {fr : Bool} (h : V.ev2V x lo = some r) (p : RT B m x d) : PR B m fr r (every2 d lo m) := by
  cases x <;> cases lo <;> simp only [V.ev2V, reduceCtorEq] at h
  split at h
  · rename_i hi
    simp only [Option.some.injEq] at h
    subst h
    cases p with
    | own o => cases o with
      | lst e1 r1 => simp only [every2, hi, if_true, rdL, e1]; exact .new (Rs.ev2 (r1.drop _))
    | sh o => cases o with
      | lst b1 e1 r1 => simp only [every2, hi, if_true, rdL, e1]; exact .new (Rs.ev2 (r1.drop _))
  · cases h
theorem rev_R {x r : V} {d : D} {fr : Bool} (h : V.rev x = some r) (p : RT B m x d) : ∃ n ds, d = .ref n ∧ rdL m n = some ds ∧ PR B m fr r (.ok (.ref m.length) (m ++ [.lst ds.reverse])) := by
  cases x <;> simp only [V.rev, Option.some.injEq, reduceCtorEq] at h
  subst h
  cases p with
  | own o => cases o with
    | lst e1 r1 => exact ⟨_, _, rfl, by simp [rdL, e1], .new r1.reverse⟩
  | sh o => cases o with
    | lst b1 e1 r1 => exact ⟨_, _, rfl, by simp [rdL, e1], .new r1.reverse⟩
theorem lookup_R : ∀ {fs : List (Nat × V)} {fd : List (Nat × D)}, Rf B m fs fd → ∀ {f : Nat} {v : V}, fs.lookup f = some v → ∃ d, fd.lookup f = some d ∧ R B m v d
  | _, _, .nil, f, v, h => by simp at h
  | _, _, .cons (k := k) a r, f, v, h => by
    rw [List.lookup_cons] at h
    by_cases e : f = k
    · subst e
      simp only [beq_self_eq_true] at h
      cases h
      exact ⟨_, by simp [List.lookup_cons], a⟩
    · have e' : (f == k) = false := by simpa using e
      rw [e'] at h
      obtain ⟨d, h1, h2⟩ := lookup_R r h
      exact ⟨d, by rw [List.lookup_cons, e']; exact h1, h2⟩
theorem len_R {x : V} {d : D} {k : Nat} (h : x.len = some k) (p : RT B m x d) : lenD m d = some k := by
  have rkl : ∀ {kvs : List (D × V)} {kds : List (D × D)}, Rk B m kvs kds → kvs.length = kds.length := by
    intro kvs kds r
    induction kvs generalizing kds with
    | nil => cases r; rfl
    | cons a l ih => cases r with | cons a r => rw [List.length_cons, List.length_cons, ih r]
  cases p with
  | own o =>
    cases o with
    | lst e1 r1 => simp only [V.len, Option.some.injEq] at h; simp only [lenD, e1, ← r1.length, h]
    | dct e1 r1 =>
      simp only [V.len, Option.some.injEq] at h
      rename_i t _ _
      cases t <;> simp only [lenD, e1, ← rkl r1, h]
    | ldc e1 r1 => simp [V.len] at h
    | obj e1 r1 => simp [V.len] at h
  | sh o =>
    cases o with
    | lst b1 e1 r1 => simp only [V.len, Option.some.injEq] at h; simp only [lenD, e1, ← r1.length, h]
    | dct b1 e1 r1 =>
      simp only [V.len, Option.some.injEq] at h
      rename_i t _ _
      cases t <;> simp only [lenD, e1, ← rkl r1, h]
    | tup r1 | rol r1 => simp only [V.len, Option.some.injEq] at h; simp only [lenD, ← r1.length, h]
    | str s => exact h
    | _ => simp [V.len] at h
theorem tag_R {x : V} {d : D} {g : Tag} (h : x.tag = some g) (p : RT B m x d) : tagOf m d = some g := by
  cases p with
  | own o => cases o with
    | lst e1 r1 => simp only [tagOf, e1]; exact h
    | dct e1 r1 => simp [V.tag] at h
    | ldc e1 r1 => simp [V.tag] at h
    | obj e1 r1 => simp only [tagOf, e1]; exact h
  | sh o => cases o with
    | lst b1 e1 r1 => simp only [tagOf, e1]; exact h
    | obj b1 e1 r1 => simp only [tagOf, e1]; exact h
    | dct _ _ _ => simp [V.tag] at h
    | ldc _ _ _ => simp [V.tag] at h
    | clo _ => simp [V.tag] at h
    | _ => exact h
end
end FV
namespace FV
open FS
section
variable {B : Nat → Prop} {m : Mem}
inductive RTs (B : Nat → Prop) (m : Mem) : List V → List D → Prop where
  | nil : RTs B m [] []
  | cons {v : V} {d : D} {vs : List V} {ds : List D} : RT B m v d → RTs B m vs ds → RTs B m (v :: vs) (d :: ds)
theorem lst_RT {vs : List V} {d : D} (p : RT B m (.lst vs) d) : ∃ n ds, d = .ref n ∧ m[n]? = some (.lst ds) ∧ Rs B m vs ds := by
  cases p with
  | sh p => cases p with
    | lst b e r => exact ⟨_, _, rfl, e, r⟩
  | own p => cases p with
    | lst e r => exact ⟨_, _, rfl, e, r⟩
theorem rol_RT {vs : List V} {d : D} (p : RT B m (.rol vs) d) : ∃ ds, d = .rol ds ∧ Rs B m vs ds := by
  cases p with
  | sh p => cases p with
    | rol r => exact ⟨_, rfl, r⟩
  | own p => cases p
theorem tup_RT {vs : List V} {d : D} (p : RT B m (.tup vs) d) : ∃ ds, d = .tup ds ∧ Rs B m vs ds := by
  cases p with
  | sh p => cases p with
    | tup r => exact ⟨_, rfl, r⟩
  | own p => cases p
theorem lst_RO {vs : List V} {n : Nat} (p : RO B m (.lst vs) n) : ∃ ds, m[n]? = some (.lst ds) ∧ Rs B m vs ds := by
  cases p with | lst e r => exact ⟨_, e, r⟩
theorem rts1 {v : V} {ds : List D} (p : RTs B m [v] ds) : ∃ d, ds = [d] ∧ RT B m v d := by
  cases p with | cons q t => cases t; exact ⟨_, rfl, q⟩
theorem rts2 {v w : V} {ds : List D} (p : RTs B m [v, w] ds) : ∃ d e, ds = [d, e] ∧ RT B m v d ∧ RT B m w e := by
  cases p with | cons q t => cases t with | cons q2 t => cases t; exact ⟨_, _, rfl, q, q2⟩
theorem rs1 {v : V} {ds : List D} (p : Rs B m [v] ds) : ∃ d, ds = [d] ∧ R B m v d := by
  cases p with | cons q t => cases t; exact ⟨_, rfl, q⟩
theorem rs2 {v w : V} {ds : List D} (p : Rs B m [v, w] ds) : ∃ d e, ds = [d, e] ∧ R B m v d ∧ R B m w e := by
  cases p with | cons q t => cases t with | cons q2 t => cases t; exact ⟨_, _, rfl, q, q2⟩
theorem key3_R : ∀ {vs : List V} {ds : List D} {l : List (Int × Int × Int)}, vs.mapM V.key3 = some l → Rs B m vs ds → ds.mapM FS.key3 = some l
  | [], _, l, h, .nil => by simpa using h
  | v :: vs, _, l, h, .cons (d := d) (ds := ds) a r => by
    rw [List.mapM_cons] at h ⊢
    obtain ⟨x, h1, h⟩ := Option.bind_eq_some_iff.mp h
    obtain ⟨y, h2, h⟩ := Option.bind_eq_some_iff.mp h
    cases h
    have h3 : FS.key3 d = some x := by
      unfold V.key3 at h1
      split at h1
      · cases a with | tup a => cases a with | cons a1 a => cases a with | cons a2 a => cases a with | cons a3 a =>
          cases a; cases a1; cases a2; cases a3
          exact h1
      · cases h1
    rw [h3, Option.bind_eq_bind, Option.bind_some, key3_R h2 r]; rfl
theorem v3_R : ∀ (l : List (Int × Int × Int)), Rs B m (l.map V.v3) (l.map FS.d3)
  | [] => .nil
  | _ :: l => .cons (.tup (.cons (.int _) (.cons (.int _) (.cons (.int _) .nil)))) (v3_R l)
theorem dkeys_R : ∀ {kvs : List (D × V)} {kds : List (D × D)}, Rk B m kvs kds → kvs.all (fun p => keyOk true p.1) = true → Rs B m (kvs.map fun p => kV p.1) (kds.map (·.1))
  | _, _, .nil, _ => .nil
  | _, _, .cons a r, h => by
    simp only [List.all_cons, Bool.and_eq_true] at h
    exact .cons (kV_R (by rw [h.1, Bool.or_true])) (dkeys_R r h.2)
theorem bi_R {b : Bi} {vs : List V} {r : V} {ds : List D} {fr : Bool} (h : V.bi b vs = some r) (p : RTs B m vs ds) : PR B m fr r (bi b ds m) := by
  unfold V.bi at h
  split at h <;> first | contradiction | skip
  case h_1 v =>
    obtain ⟨d, rfl, q⟩ := rts1 p
    simp only [Option.map_eq_some_iff] at h
    obtain ⟨k, h1, rfl⟩ := h
    simp only [bi, len_R h1 q, Option.map, opt]
    exact .old (.int _) fun _ => rfl
  case h_2 ws =>
    obtain ⟨d, rfl, q⟩ := rts1 p
    obtain ⟨n, es, rfl, e, r1⟩ := lst_RT q
    simp only [Option.some.injEq] at h
    subst h
    simp only [bi, e]
    exact .new r1
  case h_3 ws =>
    obtain ⟨d, rfl, q⟩ := rts1 p
    obtain ⟨es, rfl, r1⟩ := rol_RT q
    simp only [Option.some.injEq] at h
    subst h
    exact .new r1
  case h_4 ws =>
    obtain ⟨d, rfl, q⟩ := rts1 p
    obtain ⟨es, rfl, r1⟩ := tup_RT q
    simp only [Option.some.injEq] at h
    subst h
    exact .new r1
  case h_5 ws =>
    obtain ⟨d, rfl, q⟩ := rts1 p
    obtain ⟨n, es, rfl, e, r1⟩ := lst_RT q
    simp only [Option.map_eq_some_iff] at h
    obtain ⟨k, h1, rfl⟩ := h
    simp only [bi, rdL, e, Option.bind, allB_R h1 r1, Option.map, opt]
    exact .old (.bl _) fun _ => rfl
  case h_6 ws =>
    obtain ⟨d, rfl, q⟩ := rts1 p
    obtain ⟨n, es, rfl, e, r1⟩ := lst_RT q
    simp only [Option.map_eq_some_iff] at h
    obtain ⟨k, h1, rfl⟩ := h
    simp only [bi, rdL, e, Option.bind, allB_R h1 r1, Option.map, opt]
    exact .old (.bl _) fun _ => rfl
  case h_7 ws =>
    obtain ⟨d, rfl, q⟩ := rts1 p
    obtain ⟨n, es, rfl, e, r1⟩ := lst_RT q
    simp only [Option.map_eq_some_iff] at h
    obtain ⟨k, h1, rfl⟩ := h
    simp only [bi, rdL, e, Option.bind, allI_R h1 r1, Option.map, opt]
    exact .old (.int _) fun _ => rfl
  case h_8 ws =>
    obtain ⟨d, rfl, q⟩ := rts1 p
    obtain ⟨n, es, rfl, e, r1⟩ := lst_RT q
    simp only [Option.map_eq_some_iff, Option.bind_eq_some_iff] at h
    obtain ⟨k, ⟨l, h1, h2⟩, rfl⟩ := h
    simp only [bi, rdL, e, Option.bind, allI_R h1 r1, h2, Option.map, opt]
    exact .old (.int _) fun _ => rfl
  case h_9 ws =>
    obtain ⟨d, rfl, q⟩ := rts1 p
    obtain ⟨n, es, rfl, e, r1⟩ := lst_RT q
    simp only [Option.map_eq_some_iff, Option.bind_eq_some_iff] at h
    obtain ⟨k, ⟨l, h1, h2⟩, rfl⟩ := h
    simp only [bi, rdL, e, Option.bind, allI_R h1 r1, h2, Option.map, opt]
    exact .old (.int _) fun _ => rfl
  case h_10 i j =>
    obtain ⟨d, d2, rfl, q, q2⟩ := rts2 p
    have e1 := sc_RT rfl q
    have e2 := sc_RT rfl q2
    subst e1 e2
    simp only [Option.some.injEq] at h
    subst h
    exact .old (.int _) fun _ => rfl
  case h_11 i j =>
    obtain ⟨d, d2, rfl, q, q2⟩ := rts2 p
    have e1 := sc_RT rfl q
    have e2 := sc_RT rfl q2
    subst e1 e2
    simp only [Option.some.injEq] at h
    subst h
    exact .old (.int _) fun _ => rfl
  case h_12 i =>
    obtain ⟨d, rfl, q⟩ := rts1 p
    have e1 := sc_RT rfl q
    subst e1
    simp only [Option.some.injEq] at h
    subst h
    exact .old (.int _) fun _ => rfl
  case h_13 i =>
    obtain ⟨d, rfl, q⟩ := rts1 p
    have e1 := sc_RT rfl q
    subst e1
    simp only [Option.some.injEq] at h
    subst h
    exact .old (.int _) fun _ => rfl
  case h_14 i =>
    obtain ⟨d, rfl, q⟩ := rts1 p
    have e1 := sc_RT rfl q
    subst e1
    simp only [Option.some.injEq] at h
    subst h
    exact .old (.int _) fun _ => rfl
  case h_15 i =>
    obtain ⟨d, rfl, q⟩ := rts1 p
    have e1 := sc_RT rfl q
    subst e1
    split at h
    · rename_i hl
      simp only [Option.some.injEq] at h
      subst h
      simp only [bi]
      rw [if_pos hl]
      exact .old (.str _) fun _ => rfl
    · simp at h
  case h_16 i j =>
    obtain ⟨d, d2, rfl, q, q2⟩ := rts2 p
    have e1 := sc_RT rfl q
    have e2 := sc_RT rfl q2
    subst e1 e2
    split at h
    · rename_i hl
      simp only [Option.some.injEq] at h
      subst h
      simp only [bi]
      rw [if_pos hl]
      refine .new ?_
      generalize List.range (j - i).toNat = l
      induction l with
      | nil => exact .nil
      | cons a l ih => exact .cons (.int _) ih
    · simp at h
  case h_17 ws =>
    obtain ⟨d, rfl, q⟩ := rts1 p
    obtain ⟨n, es, rfl, e, r1⟩ := lst_RT q
    obtain ⟨l, h1, rfl⟩ := Option.map_eq_some_iff.mp h
    simp only [bi, rdL, e, Option.bind_some, key3_R h1 r1]
    exact .new (v3_R _)
  case h_18 kvs =>
    obtain ⟨d, rfl, q⟩ := rts1 p
    split at h
    · rename_i hk
      cases h
      obtain ⟨n, kds, rfl, e, r1⟩ := dctV_RT (t := true) (ks := kvs) rfl q
      simp only [bi, e]
      exact .new (dkeys_R r1 hk)
    · cases h
  case h_19 s =>
    obtain ⟨d, rfl, q⟩ := rts1 p
    have e1 := sc_RT rfl q
    subst e1
    have hd : ∀ d', intS s = some d' → ∃ i, d' = .int i := fun d' hd' => by
      unfold intS at hd'
      obtain ⟨k, _, rfl⟩ := Option.map_eq_some_iff.mp hd'
      exact ⟨_, rfl⟩
    cases hi : intS s with
    | none => rw [hi] at h; cases h
    | some d' =>
      obtain ⟨i, rfl⟩ := hd d' hi
      rw [hi] at h
      cases h
      simp only [bi, hi, opt]
      exact .old (.int _) fun _ => rfl
  case h_20 s =>
    obtain ⟨d, rfl, q⟩ := rts1 p
    have e1 := sc_RT rfl q
    subst e1
    split at h
    · rename_i hl
      cases h
      simp only [bi, if_pos hl]
      have rr : ∀ l : List Nat, Rs B m (l.map fun c => V.str [c]) (l.map fun c => D.str [c]) := fun l => by
        induction l with
        | nil => exact .nil
        | cons a l ih => exact .cons (.str _) ih
      exact .new (rr s)
    · cases h
theorem bk_RT {x : V} {d : D} {k : Bk} (h : x.bk = some k) (p : RT B m x d) : bk m d = some k := by
  unfold V.bk at h
  cases p with
  | own o => cases o with
    | lst e r => simp only [Option.some.injEq] at h; subst h; simp only [bk, e]
    | dct e r => simp only [Option.some.injEq] at h; subst h; simp only [bk, e]
    | ldc e r => simp only [Option.some.injEq] at h; subst h; simp only [bk, e]
    | obj e r => simp at h
  | sh o => cases o with
    | lst b e r => simp only [Option.some.injEq] at h; subst h; simp only [bk, e]
    | dct b e r => simp only [Option.some.injEq] at h; subst h; simp only [bk, e]
    | ldc b e r => simp only [Option.some.injEq] at h; subst h; simp only [bk, e]
    | str s => simp only [Option.some.injEq] at h; subst h; rfl
    | _ => simp at h
theorem str_list (l : List (List Nat)) : Rs B m (l.map .str) (l.map .str) := by
  induction l with
  | nil => exact .nil
  | cons a l ih => exact .cons (.str _) ih
theorem bm_R {b : Bm} {x r : V} {d : D} {ws : List V} {es : List D} {fr : Bool} (hf : fr = true → b = .split) (h : V.bm b x ws = some r) (p : RT B m x d) (q : Rs B m ws es) : ∃ k, bk m d = some k ∧ bmK b k = true ∧ PR B m fr r (bm b d es m) := by
  unfold V.bm at h
  split at h <;> first | contradiction | skip
  case h_1 s t =>
    obtain ⟨da, rfl, a⟩ := rs1 q; cases a
    have := sc_RT rfl p
    subst this
    cases h
    exact ⟨.s, rfl, rfl, .old (.int _) fun _ => rfl⟩
  case h_2 s t =>
    obtain ⟨da, rfl, a⟩ := rs1 q; cases a
    have := sc_RT rfl p
    subst this
    simp only [Option.map_eq_some_iff] at h
    obtain ⟨k, h1, rfl⟩ := h
    refine ⟨.s, rfl, rfl, ?_⟩
    simp only [bm]
    rw [h1]
    exact .old (.int _) fun _ => rfl
  case h_3 vs x =>
    obtain ⟨da, rfl, a⟩ := rs1 q
    obtain ⟨n, es, rfl, e, r1⟩ := lst_RT p
    simp only [Option.bind_eq_some_iff, Option.map_eq_some_iff] at h
    obtain ⟨a', h1, as, h2, k, h3, rfl⟩ := h
    have e1 := sc_R h1 a
    have e2 := scs_R h2 r1
    subst e1 e2
    refine ⟨.l, by simp only [bk, e], rfl, ?_⟩
    simp only [bm, rdL, e, flat_sc h1, flats_sc h2, Bool.and_self, if_true]
    rw [h3]
    exact .old (.int _) fun _ => rfl
  case h_4 t kvs k e =>
    obtain ⟨da, da2, rfl, a, a2⟩ := rs2 q
    simp only [Option.map_eq_some_iff] at h
    obtain ⟨k', h1, rfl⟩ := h
    obtain ⟨h2, h3⟩ := key_R h1 a
    subst h2
    have fin : ∀ {n : Nat} {kds : List (D × D)} {d' : D}, m[n]? = some (.dct t false kds) → Rk B m kvs kds → R B m e d' → ∃ kk, bk m (.ref n) = some kk ∧ bmK .get kk = true ∧ PR B m fr ((V.get kvs da).getD e) (bm .get (.ref n) [da, d'] m) := by
      intro n kds d' e1 r1 a2
      refine ⟨.d, by simp only [bk, e1], rfl, ?_⟩
      show PR B m fr _ (match m[n]? with | some (.dct t _ kvs) => if keyOk t da then .ok ((dGet kvs da).getD d') m else .no | _ => .no)
      simp only [e1, h3, if_true]
      cases hg : V.get kvs da with
      | none => rw [(get_R r1 da).2 hg]; exact .old a2 (fun h => absurd (hf h) (by decide))
      | some v =>
        obtain ⟨z, h5, h6⟩ := (get_R r1 da).1 v hg
        rw [h5]
        exact .old h6 (fun h => absurd (hf h) (by decide))
    cases p with
    | own p => cases p with | dct e1 r1 => exact fin e1 r1 a2
    | sh p => cases p with | dct _ e1 r1 => exact fin e1 r1 a2
  case h_5 t kvs k e =>
    obtain ⟨da, da2, rfl, a, a2⟩ := rs2 q
    simp only [Option.map_eq_some_iff] at h
    obtain ⟨k', h1, rfl⟩ := h
    obtain ⟨h2, h3⟩ := key_R h1 a
    subst h2
    have fin : ∀ {n : Nat} {kds : List (D × D)} {d' : D}, m[n]? = some (.dct t true kds) → Rk B m kvs kds → R B m e d' → ∃ kk, bk m (.ref n) = some kk ∧ bmK .get kk = true ∧ PR B m fr ((V.get kvs da).getD e) (bm .get (.ref n) [da, d'] m) := by
      intro n kds d' e1 r1 a2
      refine ⟨.d, by simp only [bk, e1], rfl, ?_⟩
      show PR B m fr _ (match m[n]? with | some (.dct t _ kvs) => if keyOk t da then .ok ((dGet kvs da).getD d') m else .no | _ => .no)
      simp only [e1, h3, if_true]
      cases hg : V.get kvs da with
      | none => rw [(get_R r1 da).2 hg]; exact .old a2 (fun h => absurd (hf h) (by decide))
      | some v =>
        obtain ⟨z, h5, h6⟩ := (get_R r1 da).1 v hg
        rw [h5]
        exact .old h6 (fun h => absurd (hf h) (by decide))
    cases p with
    | own p => cases p with | ldc e1 r1 => exact fin e1 r1 a2
    | sh p => cases p with | ldc _ e1 r1 => exact fin e1 r1 a2
  case h_6 s t =>
    obtain ⟨da, rfl, a⟩ := rs1 q; cases a
    have := sc_RT rfl p
    subst this
    split at h
    · rename_i hl
      cases h
      refine ⟨.s, rfl, rfl, ?_⟩
      simp only [bm]
      rw [if_pos hl]
      exact .new (str_list _)
    · simp at h
  case h_7 s t =>
    obtain ⟨da, rfl, a⟩ := rs1 q; cases a
    have := sc_RT rfl p
    subst this
    split at h
    · rename_i hl
      cases h
      refine ⟨.s, rfl, rfl, ?_⟩
      simp only [bm]
      rw [if_pos hl]
      exact .old (.tup (.cons (.str _) (.cons (.str _) (.cons (.str _) .nil)))) fun _ => rfl
    · simp at h
  case h_8 s vs =>
    obtain ⟨da, rfl, a⟩ := rs1 q
    have := sc_RT rfl p
    subst this
    obtain ⟨n, es, rfl, e, r1⟩ := lst_RT (.sh a)
    simp only [Option.bind_eq_some_iff] at h
    obtain ⟨wl, h1, h2⟩ := h
    split at h2
    · rename_i hl
      cases h2
      refine ⟨.s, rfl, rfl, ?_⟩
      simp only [bm, rdL, e, Option.bind, allS_R h1 r1]
      rw [if_pos hl]
      exact .old (.str _) fun _ => rfl
    · simp at h2
  case h_9 s t =>
    obtain ⟨da, rfl, a⟩ := rs1 q; cases a
    have := sc_RT rfl p
    subst this
    cases h
    exact ⟨.s, rfl, rfl, .old (.bl _) fun _ => rfl⟩
  case h_10 s c d t =>
    obtain ⟨da, rfl, a⟩ := rs1 q; cases a
    have := sc_RT rfl p
    subst this
    split at h
    · rename_i hl
      cases h
      refine ⟨.s, rfl, rfl, ?_⟩
      simp only [bm]
      rw [if_pos hl]
      exact .new (str_list _)
    · simp at h
theorem put_R : ∀ {kvs : List (D × V)} {kds : List (D × D)}, Rk B m kvs kds → ∀ (k : D) {v : V} {d : D}, R B m v d → Rk B m (kvs.map (fun p => if D.beq p.1 k then (p.1, v) else p)) (kds.map (fun p => if D.beq p.1 k then (p.1, d) else p)) ∧ kds.any (fun p => D.beq p.1 k) = kvs.any (fun p => D.beq p.1 k)
  | [], [], .nil, k, v, d, q => ⟨.nil, rfl⟩
  | (k', w) :: kvs, (_, e) :: kds, .cons a r, k, v, d, q => by
    obtain ⟨h1, h2⟩ := put_R r k q
    constructor
    · simp only [List.map_cons]
      by_cases hk : D.beq k' k = true
      · simp only [hk, if_true]; exact .cons q h1
      · simp only [hk, if_false]; exact .cons a h1
    · simp only [List.any_cons, h2]
theorem Rk.snoc : ∀ {kvs : List (D × V)} {kds : List (D × D)}, Rk B m kvs kds → ∀ {k : D} {v : V} {d : D}, R B m v d → Rk B m (kvs ++ [(k, v)]) (kds ++ [(k, d)])
  | _, _, .nil, _, _, _, q => .cons q .nil
  | _, _, .cons a r, _, _, _, q => .cons a (Rk.snoc r q)
theorem dPut_R {kvs : List (D × V)} {kds : List (D × D)} (r : Rk B m kvs kds) (k : D) {v : V} {d : D} (q : R B m v d) : Rk B m (V.put kvs k v) (dPut kds k d) := by
  obtain ⟨h1, h2⟩ := put_R r k q
  unfold V.put dPut
  rw [h2]
  by_cases hk : kvs.any (fun p => D.beq p.1 k) = true
  · rw [if_pos hk, if_pos hk]; exact h1
  · rw [if_neg hk, if_neg hk]; exact r.snoc q
theorem Rk.len {kvs : List (D × V)} {kds : List (D × D)} (r : Rk B m kvs kds) : kvs.length = kds.length := by
  induction kvs generalizing kds with
  | nil => cases r; rfl
  | cons a l ih => cases r with | cons a r => rw [List.length_cons, List.length_cons, ih r]
inductive MOR (B : Nat → Prop) (m : Mem) : V → MO → Prop where
  | lst {vs : List V} {ds : List D} : Rs B m vs ds → MOR B m (.lst vs) (.lst ds)
  | dct {t : Bool} {kvs : List (D × V)} {kds : List (D × D)} : Rk B m kvs kds → MOR B m (.dct t kvs) (.dct t false kds)
theorem bmO_R {b : Bm} {x r x' : V} {n : Nat} {ws : List V} {es : List D} (h : V.bmO b x ws = some (r, x')) (p : RO B m x n) (q : Rs B m ws es) : ∃ k d o o', bk m (.ref n) = some k ∧ bmK b k = true ∧ bm b (.ref n) es m = .ok d (m.set n o') ∧ R B m r d ∧ MOR B m x' o' ∧ m[n]? = some o ∧ moK o' = moK o := by
  unfold V.bmO at h
  split at h <;> first | contradiction | skip
  case h_1 vs e =>
    obtain ⟨da, rfl, a⟩ := rs1 q
    obtain ⟨ds, e1, r1⟩ := lst_RO p
    split at h
    · rename_i hl
      simp only [Option.some.injEq, Prod.mk.injEq] at h
      obtain ⟨rfl, rfl⟩ := h
      refine ⟨.l, _, _, _, by simp only [bk, e1], rfl, ?_, .non, .lst (r1.snoc a), e1, rfl⟩
      simp only [bm, e1]
      rw [if_pos (by rw [← r1.length]; exact hl)]
    · simp at h
  case h_2 vs =>
    cases q
    obtain ⟨ds, e1, r1⟩ := lst_RO p
    simp only [Option.map_eq_some_iff, Prod.mk.injEq] at h
    obtain ⟨v, h1, rfl, rfl⟩ := h
    obtain ⟨d, h2, h3⟩ := r1.last h1
    refine ⟨.l, _, _, _, by simp only [bk, e1], rfl, ?_, h3, .lst r1.dropLast, e1, rfl⟩
    simp only [bm, e1, h2]
  case h_3 vs i =>
    obtain ⟨da, rfl, a⟩ := rs1 q; cases a
    obtain ⟨ds, e1, r1⟩ := lst_RO p
    split at h
    · rename_i hl
      simp only [Option.bind_eq_some_iff, Option.map_eq_some_iff, Prod.mk.injEq] at h
      obtain ⟨j, h1, v, h2, rfl, rfl⟩ := h
      obtain ⟨d, h3, h4⟩ := r1.get h2
      refine ⟨.l, _, _, _, by simp only [bk, e1], rfl, ?_, h4, .lst (r1.erase j), e1, rfl⟩
      simp only [bm, e1]
      rw [if_pos hl, ← r1.length, h1]
      simp only [h3]
    · simp at h
  case h_4 vs =>
    cases q
    obtain ⟨ds, e1, r1⟩ := lst_RO p
    simp only [Option.some.injEq, Prod.mk.injEq] at h
    obtain ⟨rfl, rfl⟩ := h
    refine ⟨.l, _, _, _, by simp only [bk, e1], rfl, ?_, .non, .lst .nil, e1, rfl⟩
    simp only [bm, e1]
theorem storeI_R {x k e x' : V} {n : Nat} {dk de : D} (h : V.storeI x k e = some x') (p : RO B m x n) (a : R B m k dk) (q : R B m e de) : ∃ o o', storeI (.ref n) dk de m = some (m.set n o') ∧ MOR B m x' o' ∧ m[n]? = some o ∧ moK o' = moK o := by
  cases p with
  | lst e1 r1 =>
    cases k <;> simp only [V.storeI, reduceCtorEq] at h
    cases a
    simp only [Option.map_eq_some_iff] at h
    obtain ⟨j, h1, rfl⟩ := h
    refine ⟨_, _, ?_, .lst (r1.set j q), e1, rfl⟩
    simp only [storeI, e1]
    rw [← r1.length, h1]; rfl
  | ldc e1 r1 => cases k <;> simp [V.storeI] at h
  | obj e1 r1 => cases k <;> simp [V.storeI] at h
  | dct e1 r1 =>
    simp only [V.storeI, Option.bind_eq_some_iff] at h
    obtain ⟨k', h1, h2⟩ := h
    obtain ⟨h3, h4⟩ := key_R h1 a
    subst h3
    split at h2
    · rename_i hl
      cases h2
      refine ⟨_, _, ?_, .dct (dPut_R r1 _ q), e1, ?_⟩
      · simp only [storeI, e1, h4, Bool.true_and]
        rw [if_pos (by rw [← r1.len]; exact decide_eq_true hl)]
      · rename_i t _ _
        cases t <;> rfl
    · simp at h2
end
end FV
namespace FV
open FS
def Ok {α β : Type} (Y : Nat → Nat → Prop) (Z B : Nat → Prop) (σ : Sto) (m : Mem) (r : VR α) (h : Res β) (Q : (Nat → Prop) → VSto → Mem → α → β → Prop) : Prop := match r with
  | .ok a s' => ∃ b m' B', h = .ok b m' ∧ Inv Y Z B' s' σ m' ∧ Sp Z B m B' m' ∧ Q B' s' m' a b
  | .ex c s' => ∃ m' B', h = .ex c m' ∧ Inv Y Z B' s' σ m' ∧ Sp Z B m B' m'
  | .no => True
def OkF (Y : Nat → Nat → Prop) (Z B : Nat → Prop) (σ : Sto) (m : Mem) (r : VR (Bool × V)) (h : Res D) : Prop := Ok Y Z B σ m r h fun B' s' m' p d => VRel Z B' s' σ m' p.1 p.2 d
section
variable {Y : Nat → Nat → Prop} {Z B B' : Nat → Prop} {σ : Sto} {s : VSto} {m m' : Mem}
theorem Ok.mk {α β : Type} {a : α} {b : β} {h : Res β} {Q : (Nat → Prop) → VSto → Mem → α → β → Prop} (e : h = .ok b m') (I : Inv Y Z B' s σ m') (p : Sp Z B m B' m') (q : Q B' s m' a b) : Ok Y Z B σ m (.ok a s) h Q := ⟨b, m', B', e, I, p, q⟩
theorem Ok.mk0 {α β : Type} {a : α} {b : β} {Q : (Nat → Prop) → VSto → Mem → α → β → Prop} (I : Inv Y Z B s σ m) (q : Q B s m a b) : Ok Y Z B σ m (.ok a s) (.ok b m) Q := ⟨b, m, B, rfl, I, .refl, q⟩
theorem Ok.pre {α β : Type} {r : VR α} {h : Res β} {Q : (Nat → Prop) → VSto → Mem → α → β → Prop} (p : Sp Z B m B' m') (o : Ok Y Z B' σ m' r h Q) : Ok Y Z B σ m r h Q := by
  cases r with
  | ok a s => obtain ⟨b, m2, B2, e, I, p2, q⟩ := o; exact ⟨b, m2, B2, e, I, p.trans p2, q⟩
  | ex c s => obtain ⟨m2, B2, e, I, p2⟩ := o; exact ⟨m2, B2, e, I, p.trans p2⟩
  | no => trivial
theorem Ok.bind {α β γ δ : Type} {r : VR α} {h : Res β} {Q : (Nat → Prop) → VSto → Mem → α → β → Prop} {f : α → VSto → VR γ} {g : β → Mem → Res δ} {Q' : (Nat → Prop) → VSto → Mem → γ → δ → Prop}
    (o : Ok Y Z B σ m r h Q) (k : ∀ a s' b m' B', Inv Y Z B' s' σ m' → Sp Z B m B' m' → Q B' s' m' a b → Ok Y Z B' σ m' (f a s') (g b m') Q') : Ok Y Z B σ m (r.bind f) (h.bind g) Q' := by
  cases r with
  | ok a s => obtain ⟨b, m2, B2, e, I, p2, q⟩ := o; rw [e]; exact (k a s b m2 B2 I p2 q).pre p2
  | ex c s => obtain ⟨m2, B2, e, I, p2⟩ := o; exact ⟨m2, B2, by rw [e]; rfl, I, p2⟩
  | no => trivial
theorem OkF.bnd {γ δ : Type} {r : VR (Bool × V)} {h : Res D} {f : V → VSto → VR γ} {g : D → Mem → Res δ} {Q' : (Nat → Prop) → VSto → Mem → γ → δ → Prop}
    (o : OkF Y Z B σ m r h) (k : ∀ v s' d m' B', Inv Y Z B' s' σ m' → Sp Z B m B' m' → R B' m' v d → Ok Y Z B' σ m' (f v s') (g d m') Q') : Ok Y Z B σ m (r.bnd f) (h.bind g) Q' := by
  cases r with
  | ok a s =>
    obtain ⟨b, m2, B2, e, I, p2, q⟩ := o
    obtain ⟨B3, I3, p3, r3⟩ := I.show q
    rw [e]
    exact (k a.2 s b m2 B3 I3 (p2.trans p3) r3).pre (p2.trans p3)
  | ex c s => obtain ⟨m2, B2, e, I, p2⟩ := o; exact ⟨m2, B2, by rw [e]; rfl, I, p2⟩
  | no => trivial
theorem Ok.calm {α β : Type} {r : VR α} {h : Res β} {Q : (Nat → Prop) → VSto → Mem → α → β → Prop} (o : Ok Y Z B σ m r h Q) : Ok Y Z B σ m r.calm h.calm Q := by
  cases r with
  | ok a s => obtain ⟨b, m2, B2, e, I, p2, q⟩ := o; exact ⟨b, m2, B2, by rw [e]; rfl, I, p2, q⟩
  | ex c s => trivial
  | no => trivial
theorem Ok.optV {α β γ : Type} {o : Option γ} {k : γ → VR α} {h : Res β} {Q : (Nat → Prop) → VSto → Mem → α → β → Prop} (f : ∀ a, o = some a → Ok Y Z B σ m (k a) h Q) : Ok Y Z B σ m (optV o k) h Q := by
  cases o with
  | some a => exact f a rfl
  | none => trivial
theorem Ok.imp {α β : Type} {r : VR α} {h : Res β} {Q Q' : (Nat → Prop) → VSto → Mem → α → β → Prop} (o : Ok Y Z B σ m r h Q) (f : ∀ B' s' m' a b, Q B' s' m' a b → Q' B' s' m' a b) : Ok Y Z B σ m r h Q' := by
  cases r with
  | ok a s => obtain ⟨b, m2, B2, e, I, p2, q⟩ := o; exact ⟨b, m2, B2, e, I, p2, f _ _ _ _ _ q⟩
  | ex c s => exact o
  | no => trivial
theorem Ok.new (I : Inv Y Z B s σ m) {v : V} {o : MO} (r : RO B (m ++ [o]) v m.length) : OkF Y Z B σ m (.ok (true, v) s) (.ok (.ref m.length) (m ++ [o])) := by
  obtain ⟨I', p⟩ := I.ext [o]
  obtain ⟨nb, nz, nf⟩ := I.new []
  exact Ok.mk rfl I' p (.inr ⟨_, rfl, nb, nz, nf, r⟩)
theorem Rs.ext (I : Inv Y Z B s σ m) {vs : List V} {ds : List D} (r : Rs B m vs ds) (u : Mem) : Rs B (m ++ u) vs ds := r.sp (I.ext u).2
theorem at_len (m : Mem) (o : MO) : (m ++ [o])[m.length]? = some o := by simp
theorem Ok.pr (I : Inv Y Z B s σ m) {fr : Bool} {v : V} {h : Res D} (p : PR B m fr v h) : OkF Y Z B σ m (.ok (fr, v) s) h := by
  cases p with
  | old r hf =>
    refine Ok.mk0 I ?_
    cases fr with
    | false => exact r
    | true => exact .inl ⟨hf rfl, r⟩
  | new r =>
    cases fr with
    | true => exact Ok.new I (.lst (at_len _ _) (r.ext I _))
    | false =>
      obtain ⟨b, m2, B2, e, I2, p2, q2⟩ := Ok.new I (o := .lst _) (.lst (at_len _ _) (r.ext I _))
      obtain ⟨B3, I3, p3, r3⟩ := I2.show q2
      exact ⟨b, m2, B3, e, I3, p2.trans p3, r3⟩
def OpR (σ : Sto) (B : Nat → Prop) (m : Mem) : Opd → D → Prop
  | .sl i, d => σ[i]? = some (some d)
  | .v v, d => R B m v d
theorem OpR.sp {x : Opd} {d : D} (r : OpR σ B m x d) (p : Sp Z B m B' m') : OpR σ B' m' x d := by
  cases x with
  | sl i => exact r
  | v v => exact R.sp p r
theorem Inv.rd (I : Inv Y Z B s σ m) {x : Opd} {d : D} {v : V} (r : OpR σ B m x d) (h : rdO s x = some v) : RT B m v d := by
  cases x with
  | sl i =>
    obtain ⟨d', e, q⟩ := I.slot h
    have r' : σ[i]? = some (some d) := r
    rw [r'] at e
    cases e
    exact q
  | v w => cases h; exact .sh r
theorem Ok.opd {C : VCtx} {D' : Ctx} {e : E} (I : Inv Y Z B s σ m) (o : OkF Y Z B σ m (evF C e s) (evalE D' e σ m)) : Ok Y Z B σ m (opdV e s (evF C e s)) (evalE D' e σ m) fun B' _ m' x d => OpR σ B' m' x d := by
  have gen : ∀ r, OkF Y Z B σ m r (evalE D' e σ m) → Ok Y Z B σ m (r.bnd fun v s1 => .ok (Opd.v v) s1) (evalE D' e σ m) fun B' _ m' x d => OpR σ B' m' x d := fun r o => by
    have e1 : evalE D' e σ m = (evalE D' e σ m).bind fun d m => .ok d m := by cases evalE D' e σ m <;> rfl
    rw [e1]
    exact o.bnd fun v s' d m' B' I' p' r' => Ok.mk0 I' r'
  cases e with
  | var i =>
    refine Ok.optV fun v hv => ?_
    obtain ⟨d, e, _⟩ := I.slot hv
    exact Ok.mk (m' := m) (B' := B) (b := d) (by rw [evalE, e]) I .refl e
  | _ => exact gen _ o
theorem OkF.shown {C : VCtx} {D' : Ctx} {e : E} {r : VR (Bool × V)} (o : OkF Y Z B σ m r (evalE D' e σ m)) : Ok Y Z B σ m (r.bnd fun v s1 => .ok v s1) (evalE D' e σ m) fun B' _ m' v d => R B' m' v d := by
  have e1 : evalE D' e σ m = (evalE D' e σ m).bind fun d m => .ok d m := by cases evalE D' e σ m <;> rfl
  rw [e1]
  exact o.bnd fun v s' d m' B' I' p' r' => Ok.mk0 I' r'
theorem Ok.itr {C : VCtx} {D' : Ctx} {e : E} (I : Inv Y Z B s σ m) (o : OkF Y Z B σ m (evF C e s) (evalE D' e σ m)) : Ok Y Z B σ m (itV e s (evF C e s)) (evalE D' e σ m) fun B' _ m' v d => R B' m' v d ∨ ∃ n, d = .ref n ∧ Z n ∧ RO B' m' v n := by
  have gen : Ok Y Z B σ m ((evF C e s).bnd fun v s1 => .ok v s1) (evalE D' e σ m) fun B' _ m' v d => R B' m' v d ∨ ∃ n, d = .ref n ∧ Z n ∧ RO B' m' v n :=
    (OkF.shown (C := C) o).imp fun _ _ _ _ _ r => .inl r
  unfold itV
  cases e with
  | var i =>
    simp only
    split
    · rename_i v hv
      obtain ⟨d, e, r⟩ := I.bo i v hv
      exact Ok.mk (m' := m) (B' := B) (b := d) (by rw [evalE, e]) I .refl (r.imp id fun ⟨n, a, z, r⟩ => ⟨n, a, I.yz i n z, r⟩)
    · rename_i v hv
      obtain ⟨n, e, y, r⟩ := I.lk i v hv
      exact Ok.mk (m' := m) (B' := B) (b := .ref n) (by rw [evalE, e]) I .refl (.inr ⟨n, rfl, I.yz i n y, r⟩)
    · exact gen
  | _ => exact gen
structure Cx (B : Nat → Prop) (m : Mem) (B' : Nat → Prop) (m' : Mem) : Prop where
  inc : ∀ a, B a → B' a
  old : ∀ a, a < m.length → m'[a]? = m[a]?
  nb : ∀ a, a < m.length → B' a → B a
  val : ∀ a, B' a → a < m'.length
def VRc (B' : Nat → Prop) (m m' : Mem) : Bool → V → D → Prop
  | false, v, d => R B' m' v d
  | true, v, d => (v.isRef = false ∧ R B' m' v d) ∨ ∃ n, d = .ref n ∧ ¬ B' n ∧ m.length ≤ n ∧ RO B' m' v n
def COk (B : Nat → Prop) (m : Mem) (r : CR) (h : Res D) : Prop := match r with
  | .ok fr v => ∃ d m' B', h = .ok d m' ∧ Cx B m B' m' ∧ VRc B' m m' fr v d
  | .ex c => ∃ m' B', h = .ex c m' ∧ Cx B m B' m'
  | .no => True
def RAs (B : Nat → Prop) (m : Mem) : List Bool → List V → List D → Prop
  | _, [], [] => True
  | bs, v :: vs, d :: ds => (if bs.headD false then RT B m v d else R B m v d) ∧ RAs B m bs.tail vs ds
  | _, _, _ => False
theorem RAs.ofRs : ∀ {bs : List Bool} {vs : List V} {ds : List D}, Rs B m vs ds → RAs B m bs vs ds
  | _, [], [], .nil => trivial
  | bs, v :: vs, d :: ds, .cons a r => by
    refine ⟨?_, RAs.ofRs r⟩
    split
    · exact .sh a
    · exact a
def CallOk (cv : List V → CR) (ch : List D → Mem → Res D) (bs : List Bool) : Prop :=
  ∀ (vs : List V) (ds : List D) (m : Mem) (B : Nat → Prop), (∀ a, B a → a < m.length) → RAs B m bs vs ds → COk B m (cv vs) (ch ds m)
theorem lt_of_get {m m' : Mem} {a : Nat} (h : a < m.length) (e : m'[a]? = m[a]?) : a < m'.length := by
  rw [List.getElem?_eq_getElem h] at e
  exact (List.getElem?_eq_some_iff.mp e).1
theorem Inv.cx (I : Inv Y Z B s σ m) (c : Cx B m B' m') : Inv Y Z B' s σ m' ∧ Sp Z B m B' m' := by
  have p : Sp Z B m B' m' := ⟨c.inc, fun a h => c.old a (I.val a h), fun a h => c.old a (I.zv a h).1⟩
  refine ⟨I.step p c.val (fun a h => ⟨lt_of_get (I.zv a h).1 (c.old a (I.zv a h).1), fun x => (I.zv a h).2 (c.nb a (I.zv a h).1 x)⟩) (fun i v n h e => ?_), p⟩
  obtain ⟨n', e', nb', _, r⟩ := I.ow i v h
  rw [e] at e'
  cases e'
  exact ⟨fun x => nb' (c.nb n r.lt x), c.old n r.lt⟩
theorem Ok.call (I : Inv Y Z B s σ m) {cr : CR} {h : Res D} (o : COk B m cr h) : OkF Y Z B σ m (cr.to s) h := by
  cases cr with
  | ok fr v =>
    obtain ⟨d, m', B', e, c, r⟩ := o
    obtain ⟨I', p⟩ := I.cx c
    refine Ok.mk e I' p ?_
    cases fr with
    | false => exact r
    | true =>
      refine r.imp id ?_
      rintro ⟨n, e, nb, l, r⟩
      refine ⟨n, e, nb, fun z => ?_, fun i w h1 h2 => ?_, r⟩
      · have := (I.zv n z).1; omega
      · obtain ⟨n', e', _, _, r'⟩ := I.ow i w h1
        rw [h2] at e'
        cases e'
        have := r'.lt; omega
  | ex c =>
    obtain ⟨m', B', e, c⟩ := o
    obtain ⟨I', p⟩ := I.cx c
    exact ⟨m', B', e, I', p⟩
  | no => trivial
structure CtxOk (C : VCtx) (D' : Ctx) : Prop where
  call : ∀ f, CallOk (C.call f) (D'.call f) (C.bor f)
  make : ∀ c, CallOk (C.make c) (D'.make c) (C.borC c)
  mt : C.mt = D'.mt
  sub : C.sub = D'.sub
  vale : C.vale = D'.vale
  flds : C.flds = D'.flds
  fuel : C.fuel = D'.fuel
theorem Inv.swap {σ' : Sto} (I : Inv Y Z B s σ m) (hl : σ.length = σ'.length) (h : ∀ (i : Nat) (y : Kd × V), s[i]? = some (some y) → σ'[i]? = σ[i]?) : Inv Y Z B s σ' m where
  yz := I.yz
  val := I.val
  zv := I.zv
  len := I.len.trans hl
  sh i v e := by rw [h i _ e]; exact I.sh i v e
  bo i v e := by rw [h i _ e]; exact I.bo i v e
  lk i v e := by rw [h i _ e]; exact I.lk i v e
  ow i v e := by rw [h i _ e]; exact I.ow i v e
  dis i j v w n h1 h2 h3 h4 := I.dis i j v w n h1 h2 (by rwa [h i _ h1] at h3) (by rwa [h j _ h2] at h4)
mutual
theorem bind_ok : ∀ (t : Tg) {v : V} {d : D} {s s' : VSto} {σ : Sto}, bindTV t v s = some s' → R B m v d → Inv Y Z B s σ m → ∃ σ', bindT m t d σ = some σ' ∧ Inv Y Z B s' σ' m ∧ (∀ i, i ∉ tgN t → σ'[i]? = σ[i]?) ∧ σ.length = σ'.length
  | .nm i, v, d, s, s', σ, h, r, I => by
    cases h
    exact ⟨_, rfl, I.put i r, fun j hj => List.getElem?_set_ne fun e => hj (by simp [tgN, e]), by simp⟩
  | .tp l, v, d, s, s', σ, h, r, I => by
    cases v <;> simp only [bindTV, reduceCtorEq] at h
    · cases r with
      | tup r => exact binds_ok l h r I
    · cases r with
      | lst b e r =>
        obtain ⟨σ', e1, q⟩ := binds_ok l h r I
        exact ⟨σ', by simp only [bindT, rdL, e]; exact e1, q⟩
theorem binds_ok : ∀ (l : List Tg) {vs : List V} {ds : List D} {s s' : VSto} {σ : Sto}, bindTsV l vs s = some s' → Rs B m vs ds → Inv Y Z B s σ m → ∃ σ', bindTs m l ds σ = some σ' ∧ Inv Y Z B s' σ' m ∧ (∀ i, i ∉ tgNs l → σ'[i]? = σ[i]?) ∧ σ.length = σ'.length
  | [], [], [], s, s', σ, h, r, I => by cases h; exact ⟨σ, rfl, I, fun _ _ => rfl, rfl⟩
  | t :: l, v :: vs, d :: ds, s, s', σ, h, .cons a r, I => by
    simp only [bindTsV, Option.bind_eq_some_iff] at h
    obtain ⟨s1, h1, h2⟩ := h
    obtain ⟨σ1, e1, I1, k1, l1⟩ := bind_ok t h1 a I
    obtain ⟨σ2, e2, I2, k2, l2⟩ := binds_ok l h2 r I1
    refine ⟨σ2, by simp only [bindTs, e1]; exact e2, I2, fun i hi => ?_, l1.trans l2⟩
    simp only [tgNs, List.mem_append, not_or] at hi
    rw [k2 i hi.2, k1 i hi.1]
  | [], _ :: _, _, _, _, _, h, _, _ => by simp [bindTsV] at h
  | _ :: _, [], _, _, _, _, h, _, _ => by simp [bindTsV] at h
end
theorem wipeD_len (s : Sto) : ∀ W, (wipeD s W).length = s.length
  | [] => rfl
  | i :: r => by rw [wipeD, List.length_set, wipeD_len s r]
theorem wipeD_get (s : Sto) : ∀ (W : List Nat) (i : Nat), i ∉ W → (wipeD s W)[i]? = s[i]?
  | [], _, _ => rfl
  | j :: r, i, h => by
    simp only [List.mem_cons, not_or] at h
    rw [wipeD, List.getElem?_set_ne (Ne.symm h.1), wipeD_get s r i h.2]
theorem wipeV_none (s : VSto) : ∀ (W : List Nat) (i : Nat), i ∈ W → ∀ y, (wipeV s W)[i]? = some y → y = none
  | j :: r, i, h, y, e => by
    rw [wipeV] at e
    rcases put_get e with ⟨_, e, _⟩ | ⟨ne, e⟩
    · exact e.symm
    · exact wipeV_none s r i ((List.mem_cons.mp h).resolve_left (Ne.symm ne)) y e
theorem Inv.wipe (I : Inv Y Z B s σ m) : ∀ W, Inv Y Z B (wipeV s W) σ m
  | [] => I
  | i :: r => (I.wipe r).off i
theorem Inv.free {σ' : Sto} {W : List Nat} (I : Inv Y Z B s σ m) (hW : ∀ i, i ∈ W → ∀ y, s[i]? = some y → y = none) (hl : σ.length = σ'.length) (h : ∀ i, i ∉ W → σ'[i]? = σ[i]?) : Inv Y Z B s σ' m :=
  I.swap hl fun i y e => h i fun hi => by cases hW i hi _ e
theorem Inv.rest {s0 s1 : VSto} {B0 : Nat → Prop} {m0 : Mem} (I0 : Inv Y Z B0 s0 σ m0) (p : Sp Z B0 m0 B m) (I : Inv Y Z B s1 σ m) : ∀ W, Inv Y Z B (restV s0 s1 W) σ m
  | [] => I
  | i :: r => by
    have ih := Inv.rest I0 p I r
    unfold restV
    split
    · rename_i v e
      obtain ⟨d, a, q⟩ := I0.sh i v e
      exact ih.putV i a (q.sp p)
    · exact ih
theorem Inv.take {n : Nat} (I : Inv Y (fun a => Z a ∨ a = n) B s σ m) (h : ∀ i a, Y i a → Z a) : Inv Y Z B s σ m where
  yz := h
  val := I.val
  zv a x := I.zv a (.inl x)
  len := I.len
  sh := I.sh
  bo := I.bo
  lk := I.lk
  ow i v e := by
    obtain ⟨n, a, b, c, r⟩ := I.ow i v e
    exact ⟨n, a, b, fun z => c (.inl z), r⟩
  dis := I.dis
theorem Inv.give {n : Nat} (I : Inv Y Z B s σ m) (l : n < m.length) (nb : ¬ B n) (nf : Free s σ n) : Inv Y (fun a => Z a ∨ a = n) B s σ m where
  yz i a h := .inl (I.yz i a h)
  val := I.val
  zv a x := x.elim (I.zv a) fun e => e ▸ ⟨l, nb⟩
  len := I.len
  sh := I.sh
  bo := I.bo
  lk := I.lk
  ow i v e := by
    obtain ⟨k, a, b, c, r⟩ := I.ow i v e
    exact ⟨k, a, b, fun z => z.elim c fun q => nf i v e (q ▸ a), r⟩
  dis := I.dis
theorem Inv.freeOf {n : Nat} (I : Inv Y (fun a => Z a ∨ a = n) B s σ m) : Free s σ n := fun i w h e => by
  obtain ⟨k, a, _, c, _⟩ := I.ow i w h
  rw [e] at a
  cases a
  exact c (.inr rfl)
theorem Inv.setZ {n : Nat} (I : Inv Y (fun a => Z a ∨ a = n) B s σ m) (hz : ¬ Z n) (hy : ∀ i a, Y i a → Z a) (o : MO) : Inv Y (fun a => Z a ∨ a = n) B s σ (m.set n o) ∧ Sp Z B m B (m.set n o) := by
  have nb := (I.zv n (.inr rfl)).2
  have p : Sp Z B m B (m.set n o) := ⟨fun _ h => h, fun a h => List.getElem?_set_ne fun (q : n = a) => nb (q ▸ h), fun a h => List.getElem?_set_ne fun (q : n = a) => hz (q ▸ h)⟩
  have I1 := (I.take hy).step p (fun a h => by rw [List.length_set]; exact I.val a h) (fun a h => by rw [List.length_set]; exact I.zv a (.inl h)) (fun i v k h e => ⟨fun x => by
    obtain ⟨k', a, b, _, _⟩ := I.ow i v h
    rw [e] at a; cases a; exact b x, List.getElem?_set_ne fun (q : n = k) => I.freeOf i v h (q ▸ e)⟩)
  exact ⟨I1.give (by rw [List.length_set]; exact (I.zv n (.inr rfl)).1) nb I.freeOf, p⟩
theorem sp_take {n : Nat} (p : Sp (fun a => Z a ∨ a = n) B m B' m') : Sp Z B m B' m' := ⟨p.inc, p.sB, fun a h => p.sZ a (.inl h)⟩
theorem OkF.unlock {i n : Nat} {r : VR (Bool × V)} {h : Res D} (hy : ∀ i a, Y i a → Z a) (hz : ¬ Z n) (o : OkF (Lk Y i n) (fun a => Z a ∨ a = n) B σ m r h) : OkF Y Z B σ m (r.unlock (some i)) h := by
  cases r with
  | ok p s' =>
    obtain ⟨d, m2, B2, e, I, p2, q⟩ := o
    obtain ⟨fr, v⟩ := p
    refine Ok.mk e (I.unlock hy hz) (sp_take p2) ?_
    cases fr with
    | false => exact q
    | true =>
      refine q.imp id ?_
      rintro ⟨k, a, nb, nz, nf, ro⟩
      refine ⟨k, a, nb, fun z => nz (.inl z), fun j w h1 h2 => ?_, ro⟩
      have key : ∀ (j : Nat) (w : V), (s'.set i none)[j]? = some (some (Kd.ow, w)) → s'[j]? = some (some (Kd.ow, w)) := fun j w h => by
        rcases put_get h with ⟨_, q, _⟩ | ⟨_, h⟩
        · cases q
        · exact h
      unfold unlockS at h1
      simp only at h1
      split at h1
      · rename_i u hu
        rcases put_get h1 with ⟨rfl, q, _⟩ | ⟨_, h1⟩
        · obtain ⟨l, x, y, _⟩ := I.lk i u hu
          rw [h2] at x
          cases x
          exact nz (I.yz i _ y)
        · exact nf j w h1 h2
      · exact nf j w (key j w h1) h2
      · exact nf j w h1 h2
  | ex c s' =>
    obtain ⟨m2, B2, e, I, p2⟩ := o
    exact ⟨m2, B2, e, I.unlock hy hz, sp_take p2⟩
  | no => trivial
theorem lockI_some {it : It} {i : Nat} (h : lockI it s = some i) : ∃ v, s[i]? = some (some (.ow, v)) := by
  unfold lockI at h
  split at h
  · split at h
    · rename_i e; cases h; exact ⟨_, e⟩
    · cases h
  · cases h
theorem OkF.locked {it : It} {f : VSto → VR (Bool × V)} {h : Res D} (I : Inv Y Z B s σ m) (o : ∀ {Y : Nat → Nat → Prop} {Z : Nat → Prop} {s : VSto}, Inv Y Z B s σ m → OkF Y Z B σ m (f s) h) :
    OkF Y Z B σ m ((f (lockS (lockI it s) s)).unlock (lockI it s)) h := by
  cases hl : lockI it s with
  | none =>
    have e : ∀ r : VR (Bool × V), r.unlock none = r := fun r => by cases r <;> rfl
    rw [e]
    exact o I
  | some i =>
    obtain ⟨v, hv⟩ := lockI_some hl
    obtain ⟨n, e, _, _, _⟩ := I.ow i v hv
    obtain ⟨nz, I'⟩ := I.lock hv e
    have e1 : lockS (some i) s = s.set i (some (.lk, v)) := by unfold lockS; simp only [hv]
    rw [e1]
    exact OkF.unlock I.yz nz (o I')
end
end FV
namespace FV
open FS
section
variable {Y : Nat → Nat → Prop} {Z B B' : Nat → Prop} {σ : Sto} {s : VSto} {m m' : Mem}
theorem iteV_ok {v : V} {d : D} {a b : VR (Bool × V)} {ha hb hn : Res D} : R B m v d → (v = .bl true → OkF Y Z B σ m a ha) → (v = .bl false → OkF Y Z B σ m b hb) →
    OkF Y Z B σ m (iteV v a b) (match d with | .bl true => ha | .bl false => hb | _ => hn) := by
  intro r ta tb
  cases r with
  | bl k => cases k with
    | true => exact ta rfl
    | false => exact tb rfl
  | _ => trivial
theorem bl_ok {k : Bool} (I : Inv Y Z B s σ m) {fr : Bool} : OkF Y Z B σ m (.ok (fr, .bl k) s) (.ok (.bl k) m) :=
  Ok.pr I (.old (.bl k) fun _ => rfl)
def OpsR (σ : Sto) (B : Nat → Prop) (m : Mem) : List Bool → List Opd → List D → Prop
  | _, [], [] => True
  | bs, x :: xs, d :: ds => (if bs.headD false then OpR σ B m x d else ∃ v, x = .v v ∧ R B m v d) ∧ OpsR σ B m bs.tail xs ds
  | _, _, _ => False
theorem OpsR.sp : ∀ {bs : List Bool} {xs : List Opd} {ds : List D}, OpsR σ B m bs xs ds → Sp Z B m B' m' → OpsR σ B' m' bs xs ds
  | _, [], [], _, _ => trivial
  | bs, x :: xs, d :: ds, ⟨a, r⟩, p => by
    refine ⟨?_, r.sp p⟩
    split
    · rename_i h
      rw [if_pos h] at a
      exact a.sp p
    · rename_i h
      rw [if_neg h] at a
      obtain ⟨v, e, q⟩ := a
      exact ⟨v, e, q.sp p⟩
theorem OpsR.rd (I : Inv Y Z B s σ m) : ∀ {bs : List Bool} {xs : List Opd} {ds : List D} {vs : List V}, OpsR σ B m bs xs ds → rdOs s xs = some vs → RAs B m bs vs ds
  | _, [], [], vs, _, h => by cases h; trivial
  | bs, x :: xs, d :: ds, vs, ⟨a, r⟩, h => by
    simp only [rdOs, Option.bind_eq_some_iff, Option.map_eq_some_iff] at h
    obtain ⟨v, h1, l, h2, rfl⟩ := h
    refine ⟨?_, r.rd I h2⟩
    split
    · rename_i hb
      rw [if_pos hb] at a
      exact I.rd a h1
    · rename_i hb
      rw [if_neg hb] at a
      obtain ⟨w, rfl, q⟩ := a
      cases h1
      exact q
def OpsB (σ : Sto) (B : Nat → Prop) (m : Mem) : List Opd → List D → Prop
  | [], [] => True
  | x :: xs, d :: ds => OpR σ B m x d ∧ OpsB σ B m xs ds
  | _, _ => False
theorem OpsB.rd (I : Inv Y Z B s σ m) : ∀ {xs : List Opd} {ds : List D} {vs : List V}, OpsB σ B m xs ds → rdOs s xs = some vs → RTs B m vs ds
  | [], [], vs, _, h => by cases h; exact .nil
  | x :: xs, d :: ds, vs, ⟨a, r⟩, h => by
    simp only [rdOs, Option.bind_eq_some_iff, Option.map_eq_some_iff] at h
    obtain ⟨v, h1, l, h2, rfl⟩ := h
    exact .cons (I.rd a h1) (OpsB.rd I r h2)
def KvR (B : Nat → Prop) (m : Mem) (t : Bool) (kvs : List (D × V)) (kds : List (D × D)) : Prop := Rk B m kvs kds ∧ kds.all (fun p => keyOk t p.1) = true
theorem foldPut : ∀ {kvs : List (D × V)} {kds : List (D × D)} {bs : List (D × V)} {bds : List (D × D)}, Rk B m kvs kds → Rk B m bs bds → Rk B m (kvs.foldl (fun a p => V.put a p.1 p.2) bs) (kds.foldl (fun a p => dPut a p.1 p.2) bds)
  | [], [], _, _, .nil, q => q
  | (k, v) :: kvs, (_, d) :: kds, _, _, .cons a r, q => foldPut (kvs := kvs) (kds := kds) r (dPut_R q k a)
theorem MOR.ro {v : V} {o : MO} {n : Nat} (r : MOR B m v o) (l : n < m.length) (nb : ¬ B n) : RO B (m.set n o) v n := by
  have mo : ∀ a x, B a → m[a]? = some x → B a ∧ (m.set n o)[a]? = some x := fun a x b e => ⟨b, by rw [List.getElem?_set_ne fun (q : n = a) => nb (q ▸ b), e]⟩
  cases r with
  | lst r => exact .lst (List.getElem?_set_self l) (Rs.mono mo r)
  | dct r => exact .dct (List.getElem?_set_self l) (Rk.mono mo r)
def GR (B Z : Nat → Prop) (m : Mem) (g : Guard) : Prop := ∀ p ∈ g, (B p.1 ∨ Z p.1) ∧ m[p.1]? = some p.2
theorem GR.ok {g : Guard} (h : GR B Z m g) : gOk g m = true := by
  unfold gOk
  rw [List.all_eq_true]
  exact fun p hp => decide_eq_true (h p hp).2
theorem GR.sp {g : Guard} (h : GR B Z m g) (p : Sp Z B m B' m') : GR B' Z m' g := fun q hq => by
  obtain ⟨a, e⟩ := h q hq
  exact ⟨a.imp (p.inc _) id, (a.elim (p.sB _) (p.sZ _)).trans e⟩
theorem lc_ok {n : Nat} {g : Guard} {W : List Nat} {tg : Tg} {cv : VSto → VR V} {ev : VSto → VR (Bool × V)} {cd ed : Sto → Mem → Res D} (hz : ¬ Z n) (hy : ∀ i a, Y i a → Z a) (hW : ∀ i ∈ tgN tg, i ∈ W)
    (hc : ∀ {B : Nat → Prop} {s : VSto} {σ : Sto} {m : Mem}, Inv Y (fun a => Z a ∨ a = n) B s σ m → Ok Y (fun a => Z a ∨ a = n) B σ m (cv s) (cd σ m) fun B' _ m' v d => R B' m' v d)
    (he : ∀ {B : Nat → Prop} {s : VSto} {σ : Sto} {m : Mem}, Inv Y (fun a => Z a ∨ a = n) B s σ m → OkF Y (fun a => Z a ∨ a = n) B σ m (ev s) (ed σ m)) :
    ∀ {vs : List V} {ds : List D} {acc : List V} {s : VSto} {m : Mem} {B : Nat → Prop}, Rs B m vs ds → GR B Z m g → Inv Y (fun a => Z a ∨ a = n) B s σ m → (∀ i ∈ W, ∀ y, s[i]? = some y → y = none) →
    (∃ ads, m[n]? = some (.lst ads) ∧ Rs B m acc ads) →
    match lcLoopV W tg cv ev vs acc s with
    | .ok acc' s' => ∃ m' B' ads, lcLoop g n tg cd ed σ ds m = .ok (.ref n) m' ∧ Inv Y (fun a => Z a ∨ a = n) B' s' σ m' ∧ (∀ i ∈ W, ∀ y, s'[i]? = some y → y = none) ∧ Sp Z B m B' m' ∧ m'[n]? = some (.lst ads) ∧ Rs B' m' acc' ads
    | .ex _ _ => False
    | .no => True
  | [], [], acc, s, m, B, .nil, hg, I, hs, ⟨ads, e, r⟩ => ⟨m, B, ads, by rw [lcLoop, if_pos hg.ok], I, hs, .refl, e, r⟩
  | v :: vs, d :: ds, acc, s, m, B, .cons a r, hg, I, hs, ⟨ads, ea, ra⟩ => by
    have hsp : ∀ {B1 : Nat → Prop} {m1 : Mem}, Sp (fun a => Z a ∨ a = n) B m B1 m1 → Sp Z B m B1 m1 := fun p => ⟨p.inc, p.sB, fun a h => p.sZ a (.inl h)⟩
    rw [lcLoopV]
    cases hb : bindTV tg v s with
    | none => trivial
    | some s1 =>
      obtain ⟨σ1, e1, I1, k1, l1⟩ := bind_ok tg hb a I
      rw [lcLoop, if_pos hg.ok, e1]
      simp only [optV]
      have oc := hc I1
      cases hcv : cv s1 with
      | no => trivial
      | ex _ _ => trivial
      | ok b s2 =>
        rw [hcv] at oc
        obtain ⟨db, m2, B2, e2, I2, p2, r2⟩ := oc
        rw [e2]
        simp only [VR.calm, VR.bind, Res.calm, Res.bind]
        have hg2 := hg.sp (hsp p2)
        have rs2 := r.sp p2
        have ra2 := ra.sp p2
        have ea2 : m2[n]? = some (.lst ads) := (p2.sZ n (.inr rfl)).trans ea
        cases r2 with
        | bl kb =>
          cases kb with
          | false =>
            simp only [iteV]
            have I3 : Inv Y (fun a => Z a ∨ a = n) B2 (wipeV s2 W) σ m2 := (I2.wipe W).free (wipeV_none s2 W) l1.symm fun i hi => (k1 i fun h => hi (hW i h)).symm
            have ih := lc_ok hz hy hW hc he rs2 hg2 I3 (wipeV_none s2 W) ⟨ads, ea2, ra2⟩
            split at ih
            · obtain ⟨m', B', ads', x1, x2, x3, x4, x5, x6⟩ := ih
              exact ⟨m', B', ads', x1, x2, x3, (hsp p2).trans x4, x5, x6⟩
            · exact ih.elim
            · trivial
          | true =>
            simp only [iteV]
            have oe := he I2
            cases hev : ev s2 with
            | no => trivial
            | ex _ _ => trivial
            | ok w s3 =>
              rw [hev] at oe
              obtain ⟨dw, m3, B3, e3, I3, p3, r3⟩ := oe
              obtain ⟨B4, I4, p4, r4⟩ := I3.show r3
              rw [e3]
              simp only [VR.bnd, Res.calm, Res.bind]
              have p34 := p3.trans p4
              have ea3 : m3[n]? = some (.lst ads) := (p34.sZ n (.inr rfl)).trans ea2
              have ra3 := ra2.sp p34
              rw [ea3]
              simp only
              rw [ra3.length]
              by_cases hl : ads.length < LIM
              · rw [if_pos hl, if_pos hl]
                have I5 : Inv Y (fun a => Z a ∨ a = n) B4 (wipeV s3 W) σ m3 := (I4.wipe W).free (wipeV_none s3 W) l1.symm fun i hi => (k1 i fun h => hi (hW i h)).symm
                obtain ⟨I6, p6⟩ := I5.setZ hz hy (.lst (ads ++ [dw]))
                have pt := (hsp p2).trans (⟨p34.inc, p34.sB, fun a h => p34.sZ a (.inl h)⟩ : Sp Z B2 m2 B4 m3)
                have ih := lc_ok hz hy hW hc he ((rs2.sp p34).sp p6) ((hg.sp pt).sp p6) I6 (wipeV_none s3 W) ⟨ads ++ [dw], List.getElem?_set_self (I5.zv n (.inr rfl)).1, (ra3.snoc r4).sp p6⟩
                split at ih
                · obtain ⟨m', B', ads', x1, x2, x3, x4, x5, x6⟩ := ih
                  exact ⟨m', B', ads', x1, x2, x3, (pt.trans p6).trans x4, x5, x6⟩
                · exact ih.elim
                · trivial
              · rw [if_neg hl, if_neg hl]; trivial
        | _ => trivial
theorem seq_ok {v : V} {d : D} {l : List V} (h : seqV v = some l) (r : R B m v d ∨ ∃ n, d = .ref n ∧ Z n ∧ RO B m v n) : ∃ ds g, seqOf m d = some (ds, g) ∧ Rs B m l ds ∧ GR B Z m g := by
  rcases r with r | ⟨n, rfl, z, r⟩
  · cases r <;> simp only [seqV, reduceCtorEq, Option.some.injEq] at h
    · subst h
      refine ⟨_, [], rfl, ?_, fun _ h => by cases h⟩
      rename_i l
      induction l with
      | nil => exact .nil
      | cons c l ih => exact .cons (.str _) ih
    · subst h; rename_i r; exact ⟨_, [], rfl, r, fun _ h => by cases h⟩
    · subst h; rename_i r; exact ⟨_, [], rfl, r, fun _ h => by cases h⟩
    · subst h
      rename_i n xs ds b e r
      exact ⟨ds, [(n, .lst ds)], by simp only [seqOf, e], r, fun p hp => by rw [List.mem_singleton.mp hp]; exact ⟨.inl b, e⟩⟩
  · cases r with
    | lst e r =>
      cases h
      rename_i ds
      exact ⟨ds, [(n, .lst ds)], by simp only [seqOf, e], r, fun p hp => by rw [List.mem_singleton.mp hp]; exact ⟨.inr z, e⟩⟩
    | dct e r => simp [seqV] at h
    | ldc e r => simp [seqV] at h
    | obj e r => simp [seqV] at h
theorem lst_ok {v : V} {d : D} {l : List V} (h : lstV v = some l) (r : R B m v d ∨ ∃ n, d = .ref n ∧ Z n ∧ RO B m v n) : ∃ ds g, lstOf m d = some (ds, g) ∧ Rs B m l ds ∧ GR B Z m g := by
  rcases r with r | ⟨n, rfl, z, r⟩
  · cases r <;> simp only [lstV, reduceCtorEq, Option.some.injEq] at h
    · subst h; rename_i r; exact ⟨_, [], rfl, r, fun _ h => by cases h⟩
    · subst h
      rename_i n xs ds b e r
      exact ⟨ds, [(n, .lst ds)], by simp only [lstOf, e], r, fun p hp => by rw [List.mem_singleton.mp hp]; exact ⟨.inl b, e⟩⟩
  · cases r with
    | lst e r =>
      cases h
      rename_i ds
      exact ⟨ds, [(n, .lst ds)], by simp only [lstOf, e], r, fun p hp => by rw [List.mem_singleton.mp hp]; exact ⟨.inr z, e⟩⟩
    | dct e r => simp [lstV] at h
    | ldc e r => simp [lstV] at h
    | obj e r => simp [lstV] at h
theorem zip_ok {v : V} {d : D} {l : List V} (h : zipV v = some l) (r : R B m v d ∨ ∃ n, d = .ref n ∧ Z n ∧ RO B m v n) : ∃ ds g, zipOf m d = some (ds, g) ∧ Rs B m l ds ∧ GR B Z m g := by
  have h0 := h
  unfold zipV at h
  split at h
  · cases h
    rcases r with r | ⟨n, rfl, z, r⟩
    · cases r
      refine ⟨_, [], rfl, ?_, fun _ h => by cases h⟩
      rename_i l
      induction l with
      | nil => exact .nil
      | cons c l ih => exact .cons (.str _) (ih rfl)
    · cases r
  · rename_i hs
    obtain ⟨ds, g, e, a, b⟩ := lst_ok h r
    refine ⟨ds, g, ?_, a, b⟩
    rcases r with r | ⟨n, rfl, z, r⟩
    · cases r <;> first | exact e | (exact absurd rfl (hs _))
    · exact e
theorem zipR : ∀ {vs ws : List V} {ds es : List D}, Rs B m vs ds → Rs B m ws es → Rs B m ((vs.zip ws).map fun z => .tup [z.1, z.2]) ((ds.zip es).map fun z => .tup [z.1, z.2])
  | _, _, _, _, .nil, _ => .nil
  | _, _, _, _, .cons _ _, .nil => .nil
  | _, _, _, _, .cons a r, .cons b q => .cons (.tup (.cons a (.cons b .nil))) (zipR r q)
theorem zipR3 : ∀ {vs ws us : List V} {ds es fs : List D}, Rs B m vs ds → Rs B m ws es → Rs B m us fs → Rs B m ((vs.zip (ws.zip us)).map fun z => .tup [z.1, z.2.1, z.2.2]) ((ds.zip (es.zip fs)).map fun z => .tup [z.1, z.2.1, z.2.2])
  | _, _, _, _, _, _, .nil, _, _ => .nil
  | _, _, _, _, _, _, .cons _ _, .nil, _ => .nil
  | _, _, _, _, _, _, .cons _ _, .cons _ _, .nil => .nil
  | _, _, _, _, _, _, .cons a r, .cons b q, .cons c t => .cons (.tup (.cons a (.cons b (.cons c .nil)))) (zipR3 r q t)
theorem itemsR : ∀ {kvs : List (D × V)} {kds : List (D × D)}, Rk B m kvs kds → kvs.all (fun p => keyOk false p.1 || keyOk true p.1) = true → Rs B m (kvs.map fun p => .tup [kV p.1, p.2]) (kds.map fun p => .tup [p.1, p.2])
  | _, _, .nil, _ => .nil
  | _, _, .cons a r, h => by
    simp only [List.all_cons, Bool.and_eq_true] at h
    exact .cons (.tup (.cons (kV_R h.1) (.cons a .nil))) (itemsR r h.2)
theorem items_ok {v : V} {d : D} {l : List V} (h : itemsV v = some l) (r : R B m v d ∨ ∃ n, d = .ref n ∧ Z n ∧ RO B m v n) : ∃ n t kds, d = .ref n ∧ m[n]? = some (.dct t false kds) ∧ (B n ∨ Z n) ∧ Rs B m l (kds.map fun p => .tup [p.1, p.2]) := by
  unfold itemsV at h
  split at h
  · split at h
    · rename_i t kvs hk
      cases h
      rcases r with r | ⟨n, rfl, z, r⟩
      · cases r with
        | dct b e r => exact ⟨_, _, _, rfl, e, .inl b, itemsR r hk⟩
      · cases r with
        | dct e r => exact ⟨_, _, _, rfl, e, .inr z, itemsR r hk⟩
    · cases h
  · cases h
theorem itR_sp {v : V} {d : D} (r : R B m v d ∨ ∃ n, d = .ref n ∧ Z n ∧ RO B m v n) (p : Sp Z B m B' m') : R B' m' v d ∨ ∃ n, d = .ref n ∧ Z n ∧ RO B' m' v n :=
  r.imp (·.sp p) fun ⟨n, a, z, r⟩ => ⟨n, a, z, r.sp p (.inl z)⟩
theorem restV_ow {s0 s : VSto} : ∀ (W : List Nat) {i : Nat} {w : V}, (restV s0 s W)[i]? = some (some (.ow, w)) → s[i]? = some (some (.ow, w))
  | [], _, _, h => h
  | j :: r, i, w, h => by
    unfold restV at h
    split at h
    · rcases put_get h with ⟨_, e, _⟩ | ⟨_, h⟩
      · cases e
      · exact restV_ow r h
    · exact restV_ow r h
theorem rngR_ok (i j : Int) : Rs B m (rngV i j) (rngL i j) := by
  unfold rngV rngL
  generalize List.range (j - i).toNat = l
  induction l with
  | nil => exact .nil
  | cons a l ih => exact .cons (.int _) ih
theorem ownD_some {s : VSto} {i : Nat} {p : Bool × List (D × V)} (h : ownD s i = some p) : s[i]? = some (some (.ow, .dct p.1 p.2)) ∧ p.2.all (fun p => keyOk false p.1 || keyOk true p.1) = true := by
  unfold ownD at h
  split at h
  · rename_i t kvs e
    split at h
    · rename_i hk
      cases h
      exact ⟨e, hk⟩
    · cases h
  · cases h
theorem Inv.lockD (I : Inv Y Z B s σ m) {i : Nat} {t : Bool} {kvs : List (D × V)} (h : s[i]? = some (some (.ow, .dct t kvs))) : ∃ n kds, σ[i]? = some (some (.ref n)) ∧ m[n]? = some (.dct t false kds) ∧ Rk B m kvs kds ∧ ¬ Z n ∧ ¬ B n ∧
    Inv (Lk Y i n) (fun a => Z a ∨ a = n) B (s.set i (some (.lk, .ldc t kvs))) σ (m.set n (.dct t true kds)) ∧ Sp Z B m B (m.set n (.dct t true kds)) ∧ (m.set n (.dct t true kds))[n]? = some (.dct t true kds) := by
  obtain ⟨n, e, nb, nz, ro⟩ := I.ow i _ h
  cases ro with
  | dct hm r =>
    rename_i kds
    have hl : n < m.length := (List.getElem?_eq_some_iff.mp hm).1
    have hs : (m.set n (.dct t true kds))[n]? = some (.dct t true kds) := List.getElem?_set_self hl
    have p0 : Sp Z B m B (m.set n (.dct t true kds)) := ⟨fun _ h => h, fun a h => List.getElem?_set_ne fun (q : n = a) => nb (q ▸ h), fun a h => List.getElem?_set_ne fun (q : n = a) => nz (q ▸ h)⟩
    obtain ⟨I1, p⟩ := I.chg (v' := .ldc t kvs) h e (.ldc hs (r.sp p0))
    have hi : i < s.length := (List.getElem?_eq_some_iff.mp h).1
    obtain ⟨_, I2⟩ := I1.lock (i := i) (n := n) (v := .ldc t kvs) (List.getElem?_set_self hi) e
    rw [List.set_set] at I2
    exact ⟨n, kds, e, hm, r, nz, nb, I2, p, hs⟩
theorem Inv.unlockD {i n : Nat} {t : Bool} {kds : List (D × D)} (I : Inv (Lk Y i n) (fun a => Z a ∨ a = n) B s σ m) (hy : ∀ i a, Y i a → Z a) (hz : ¬ Z n) (hm : m[n]? = some (.dct t true kds)) :
    Inv Y Z B (ulkI i s) σ (m.set n (.dct t false kds)) ∧ Sp Z B m B (m.set n (.dct t false kds)) := by
  have nb : ¬ B n := (I.zv n (.inr rfl)).2
  have p0 : Sp Z B m B (m.set n (.dct t false kds)) := ⟨fun _ h => h, fun a h => List.getElem?_set_ne fun (q : n = a) => nb (q ▸ h), fun a h => List.getElem?_set_ne fun (q : n = a) => hz (q ▸ h)⟩
  refine ⟨?_, p0⟩
  have hl : n < m.length := (List.getElem?_eq_some_iff.mp hm).1
  have I0 := I.unlock hy hz
  by_cases hk : ∃ v, s[i]? = some (some (.lk, v))
  · obtain ⟨v, h⟩ := hk
    obtain ⟨k, x, y, ro⟩ := I.lk i v h
    have hi : i < s.length := (List.getElem?_eq_some_iff.mp h).1
    rcases y with y | ⟨_, rfl⟩
    · exact absurd rfl y.1
    · have e0 : unlockS (some i) s = s.set i (some (.ow, v)) := by unfold unlockS; simp only [h]
      rw [e0] at I0
      cases ro with
      | lst a _ => rw [hm] at a; cases a
      | dct a _ => rw [hm] at a; cases a
      | obj a _ => rw [hm] at a; cases a
      | ldc a r =>
        rename_i t' kvs kds'
        rw [hm] at a
        cases a
        have e1 : ulkI i s = s.set i (some (.ow, .dct t kvs)) := by unfold ulkI; simp only [h]
        obtain ⟨I1, _⟩ := I0.chg (i := i) (n := k) (v := .ldc t kvs) (v' := .dct t kvs) (o := .dct t false kds) (List.getElem?_set_self hi) x (.dct (List.getElem?_set_self hl) (r.sp p0))
        rw [List.set_set] at I1
        rw [e1]
        exact I1
  · have e1 : ulkI i s = unlockS (some i) s := by
      unfold ulkI unlockS
      simp only
      cases h : s[i]? with
      | none => rfl
      | some o =>
        cases o with
        | none => rfl
        | some q =>
          obtain ⟨k, v⟩ := q
          cases k with
          | lk => exact absurd ⟨v, h⟩ hk
          | sh => cases v <;> rfl
          | ow => cases v <;> rfl
          | bo => cases v <;> rfl
    rw [e1]
    have hsub : ∀ (j : Nat) (w : V), (unlockS (some i) s)[j]? = some (some (Kd.ow, w)) → s[j]? = some (some (Kd.ow, w)) := by
      intro j w hj
      unfold unlockS at hj
      simp only at hj
      split at hj
      · rename_i v h; exact absurd ⟨v, h⟩ hk
      · rcases put_get hj with ⟨_, q, _⟩ | ⟨_, q⟩
        · cases q
        · exact q
      · exact hj
    refine I0.step p0 (fun a h => by rw [List.length_set]; exact I.val a h) (fun a h => ⟨by rw [List.length_set]; exact (I.zv a (.inl h)).1, (I.zv a (.inl h)).2⟩) fun j w k hj ek => ?_
    obtain ⟨k', e2, nb', nz', _⟩ := I.ow j w (hsub j w hj)
    rw [ek] at e2
    cases e2
    exact ⟨nb', List.getElem?_set_ne fun (q : n = k) => nz' (.inr q.symm)⟩
section
variable {Y : Nat → Nat → Prop} {Z : Nat → Prop} {σ : Sto} {m : Mem}
theorem cap_ok : ∀ (cs : List Nat) {s : VSto} {B : Nat → Prop}, Inv Y Z B s σ m → match capV s cs with
    | .ok vs s' => ∃ ds B', (cs.mapM fun j => (σ[j]?).join) = some ds ∧ Inv Y Z B' s' σ m ∧ Sp Z B m B' m ∧ Rs B' m vs ds
    | .ex _ _ => False
    | .no => True
  | [], s, B, I => ⟨[], B, rfl, I, .refl, .nil⟩
  | j :: r, s, B, I => by
    rw [capV, varV]
    cases h : s[j]? with
    | none => trivial
    | some o =>
      cases o with
      | none => trivial
      | some p =>
        obtain ⟨k, v⟩ := p
        have key : ∀ {s1 : VSto} {B1 : Nat → Prop} {d : D}, σ[j]? = some (some d) → Inv Y Z B1 s1 σ m → Sp Z B m B1 m → R B1 m v d → match (capV s1 r).bind fun vs s2 => VR.ok (v :: vs) s2 with
            | .ok vs s' => ∃ ds B', ((j :: r).mapM fun j => (σ[j]?).join) = some ds ∧ Inv Y Z B' s' σ m ∧ Sp Z B m B' m ∧ Rs B' m vs ds
            | .ex _ _ => False
            | .no => True := by
          intro s1 B1 d e I1 p1 r1
          have ih := cap_ok r I1
          split at ih
          · rename_i vs s2 heq
            obtain ⟨ds, B2, e2, I2, p2, r2⟩ := ih
            rw [heq]
            exact ⟨d :: ds, B2, by rw [List.mapM_cons, e, e2]; rfl, I2, p1.trans p2, .cons (r1.sp p2) r2⟩
          · exact ih.elim
          · rename_i heq; rw [heq]; trivial
        cases k with
        | sh =>
          obtain ⟨d, e, r1⟩ := I.sh j v h
          exact key e I .refl r1
        | ow =>
          obtain ⟨d, B', e, I', p, r1⟩ := I.owSh h
          exact key e I' p r1
        | bo => trivial
        | lk => trivial
end
mutual
theorem evF_ok {C : VCtx} {D' : Ctx} (H : CtxOk C D') : ∀ (e : E) {Y : Nat → Nat → Prop} {Z B : Nat → Prop} {s : VSto} {σ : Sto} {m : Mem}, Inv Y Z B s σ m → OkF Y Z B σ m (evF C e s) (evalE D' e σ m)
  | .var i, Y, Z, B, s, σ, m, I => by
    rw [evF, evalE, varV]
    cases h : s[i]? with
    | none => trivial
    | some o =>
      cases o with
      | none => trivial
      | some p =>
        obtain ⟨k, v⟩ := p
        cases k with
        | sh =>
          obtain ⟨d, e, r⟩ := I.sh i v h
          rw [e]
          exact Ok.mk0 I r
        | ow =>
          obtain ⟨d, B', e, I', p, r⟩ := I.owSh h
          rw [e]
          exact Ok.mk rfl I' p r
        | bo => trivial
        | lk => trivial
  | .cst d, Y, Z, B, s, σ, m, I => by
    rw [evF, evalE]
    exact Ok.optV fun v hv => Ok.mk0 I (ofD_R hv).1
  | .op o a b, Y, Z, B, s, σ, m, I => by
    rw [evF, evalE]
    refine (Ok.opd I (evF_ok H a I)).bind fun x s1 d m1 B1 I1 p1 q1 => ?_
    refine (Ok.opd I1 (evF_ok H b I1)).bind fun y s2 e m2 B2 I2 p2 q2 => ?_
    exact Ok.optV fun v hv => Ok.optV fun w hw => Ok.optV fun r hr => Ok.pr I2 (op_R hr (I2.rd (q1.sp p2) hv) (I2.rd q2 hw))
  | .cmp o a b, Y, Z, B, s, σ, m, I => by
    rw [evF, evalE]
    refine (Ok.opd I (evF_ok H a I)).bind fun x s1 d m1 B1 I1 p1 q1 => ?_
    refine (Ok.opd I1 (evF_ok H b I1)).bind fun y s2 e m2 B2 I2 p2 q2 => ?_
    refine Ok.optV fun v hv => Ok.optV fun w hw => Ok.optV fun r hr => ?_
    rw [cmp_R hr (I2.rd (q1.sp p2) hv) (I2.rd q2 hw)]
    exact bl_ok I2
  | .chn o o' a b c, Y, Z, B, s, σ, m, I => by
    rw [evF, evalE]
    refine (Ok.opd I (evF_ok H a I)).bind fun x s1 d m1 B1 I1 p1 q1 => ?_
    refine (evF_ok H b I1).bnd fun w s2 e m2 B2 I2 p2 r2 => ?_
    refine Ok.optV fun v hv => ?_
    unfold chnV
    cases hc : V.cmp o v w with
    | none => trivial
    | some k =>
      rw [cmp_R hc (I2.rd (q1.sp p2) hv) (.sh r2)]
      cases k with
      | false => exact bl_ok I2
      | true =>
        refine (evF_ok H c I2).bnd fun z s3 f m3 B3 I3 p3 r3 => Ok.optV fun k hk => ?_
        rw [cmp_R hk (.sh (r2.sp p3)) (.sh r3)]
        exact bl_ok I3
  | .not a, Y, Z, B, s, σ, m, I => by
    rw [evF, evalE]
    refine (evF_ok H a I).bnd fun v s1 d m1 B1 I1 p1 r1 => ?_
    cases r1 <;> first | trivial | exact bl_ok I1
  | .and a b, Y, Z, B, s, σ, m, I => by
    rw [evF, evalE]
    exact (evF_ok H a I).bnd fun v s1 d m1 B1 I1 p1 r1 => iteV_ok r1 (fun _ => evF_ok H b I1) fun _ => bl_ok I1
  | .or a b, Y, Z, B, s, σ, m, I => by
    rw [evF, evalE]
    exact (evF_ok H a I).bnd fun v s1 d m1 B1 I1 p1 r1 => iteV_ok r1 (fun _ => bl_ok I1) fun _ => evF_ok H b I1
  | .ife c a b, Y, Z, B, s, σ, m, I => by
    rw [evF, evalE]
    exact (evF_ok H c I).bnd fun v s1 d m1 B1 I1 p1 r1 => iteV_ok r1 (fun _ => evF_ok H a I1) fun _ => evF_ok H b I1
  | .neg a, Y, Z, B, s, σ, m, I => by
    rw [evF, evalE]
    refine (evF_ok H a I).bnd fun v s1 d m1 B1 I1 p1 r1 => ?_
    cases r1 <;> first | trivial | exact Ok.pr I1 (.old (.int _) fun _ => rfl)
  | .inv a, Y, Z, B, s, σ, m, I => by
    rw [evF, evalE]
    refine (evF_ok H a I).bnd fun v s1 d m1 B1 I1 p1 r1 => ?_
    cases r1 <;> first | trivial | exact Ok.pr I1 (.old (.int _) fun _ => rfl)
  | .tup l, Y, Z, B, s, σ, m, I => by
    rw [evF, evalE]
    refine (evAs_ok H l I).bind fun vs s1 ds m1 B1 I1 p1 r1 => ?_
    rw [r1.length]
    split
    · exact Ok.pr I1 (.old (.tup r1) fun _ => rfl)
    · trivial
  | .lst l, Y, Z, B, s, σ, m, I => by
    rw [evF, evalE]
    refine (evAs_ok H l I).bind fun vs s1 ds m1 B1 I1 p1 r1 => ?_
    rw [r1.length]
    split
    · exact Ok.pr I1 (.new r1)
    · trivial
  | .dct0 t, Y, Z, B, s, σ, m, I => by
    rw [evF, evalE]
    exact Ok.new I (.dct (at_len _ _) .nil)
  | .dct t l, Y, Z, B, s, σ, m, I => by
    rw [evF, evalE]
    obtain ⟨I0, p0⟩ := I.ext [.dct t false []]
    obtain ⟨nb, nz, nf⟩ := I.new []
    have I1 := I0.give (n := m.length) (by simp) nb nf
    have o := evKVV_ok H t l I1
    cases hv : evKVV C t l s with
    | no => trivial
    | ex c s' =>
      rw [hv] at o
      obtain ⟨m', B', e, I', p⟩ := o
      rw [e]
      exact ⟨m', B', rfl, I'.take I.yz, p0.trans ⟨p.inc, p.sB, fun a h => p.sZ a (.inl h)⟩⟩
    | ok kvs s' =>
      rw [hv] at o
      obtain ⟨kds, m', B', e, I', p, r⟩ := o
      rw [e]
      simp only [VR.bind, Res.bind]
      split
      · rename_i hl
        have e1 : m'[m.length]? = some (.dct t false []) := (p.sZ _ (.inr rfl)).trans (at_len _ _)
        rw [if_pos (by rw [r.2, ← r.1.len, e1]; simp [hl])]
        obtain ⟨I2, p2⟩ := I'.setZ nz I.yz (.dct t false (kds.foldl (fun a p => dPut a p.1 p.2) []))
        have hz := I'.zv m.length (.inr rfl)
        exact Ok.mk rfl (I2.take I.yz) ((p0.trans ⟨p.inc, p.sB, fun a h => p.sZ a (.inl h)⟩).trans p2) (.inr ⟨_, rfl, hz.2, nz, I2.freeOf, MOR.ro (.dct (foldPut r.1 .nil)) hz.1 hz.2⟩)
      · trivial
  | .idx a b, Y, Z, B, s, σ, m, I => by
    rw [evF, evalE]
    refine (Ok.opd I (evF_ok H a I)).bind fun x s1 d m1 B1 I1 p1 q1 => ?_
    refine (Ok.opd I1 (evF_ok H b I1)).bind fun y s2 e m2 B2 I2 p2 q2 => ?_
    refine Ok.optV fun v hv => Ok.optV fun w hw => Ok.optV fun r hr => ?_
    obtain ⟨z, e, q⟩ := idx_R hr (I2.rd (q1.sp p2) hv) (I2.rd q2 hw)
    rw [e]
    exact Ok.mk0 I2 q
  | .slc a lo hi, Y, Z, B, s, σ, m, I => by
    rw [evF, evalE]
    refine (Ok.opd I (evF_ok H a I)).bind fun x s1 d m1 B1 I1 p1 q1 => ?_
    refine (evOV_ok H lo I1).bind fun l s2 l' m2 B2 I2 p2 e2 => ?_
    refine (evOV_ok H hi I2).bind fun h s3 h' m3 B3 I3 p3 e3 => ?_
    subst e2 e3
    exact Ok.optV fun v hv => Ok.optV fun r hr => Ok.pr I3 (slc_R hr (I3.rd ((q1.sp p2).sp p3) hv))
  | .ev2 a lo, Y, Z, B, s, σ, m, I => by
    rw [evF, evalE]
    refine (Ok.opd I (evF_ok H a I)).bind fun x s1 d m1 B1 I1 p1 q1 => ?_
    refine (evOV_ok H lo I1).bind fun l s2 l' m2 B2 I2 p2 e2 => ?_
    subst e2
    exact Ok.optV fun v hv => Ok.optV fun r hr => Ok.pr I2 (ev2_R hr (I2.rd (q1.sp p2) hv))
  | .rev a, Y, Z, B, s, σ, m, I => by
    rw [evF, evalE]
    refine (Ok.opd I (evF_ok H a I)).bind fun x s1 d m1 B1 I1 p1 q1 => ?_
    refine Ok.optV fun v hv => Ok.optV fun r hr => ?_
    obtain ⟨n, ds, rfl, e, q⟩ := rev_R (fr := true) hr (I1.rd q1 hv)
    simp only [e]
    exact Ok.pr I1 q
  | .fld a f, Y, Z, B, s, σ, m, I => by
    rw [evF, evalE]
    refine (Ok.opd I (evF_ok H a I)).bind fun x s1 d m1 B1 I1 p1 q1 => ?_
    refine Ok.optV fun v hv => Ok.optV fun r hr => ?_
    have q := I1.rd q1 hv
    cases q with
    | own q =>
      cases q <;> simp only [V.fld, reduceCtorEq] at hr
      rename_i n c fs fd rf e
      obtain ⟨z, h3, h4⟩ := lookup_R rf hr
      simp only [e, h3, opt]
      exact Ok.mk0 I1 h4
    | sh q =>
      cases q <;> simp only [V.fld, reduceCtorEq] at hr
      · rename_i c vs ds rs
        rw [H.flds] at hr
        simp only [Option.bind_eq_some_iff] at hr
        obtain ⟨k, h1, h2⟩ := hr
        obtain ⟨z, h3, h4⟩ := rs.get h2
        simp only [h1, h3, opt]
        exact Ok.mk0 I1 h4
      · rename_i n c fs fd b e rf
        obtain ⟨z, h3, h4⟩ := lookup_R rf hr
        simp only [e, h3, opt]
        exact Ok.mk0 I1 h4
  | .call f l, Y, Z, B, s, σ, m, I => by
    rw [evF, evalE]
    refine (evLs_ok H (C.bor f) l I).bind fun os s1 ds m1 B1 I1 p1 r1 => ?_
    exact Ok.optV fun vs hv => Ok.call I1 (H.call f vs ds m1 B1 I1.val (r1.rd I1 hv))
  | .make c l, Y, Z, B, s, σ, m, I => by
    rw [evF, evalE]
    refine (evLs_ok H (C.borC c) l I).bind fun os s1 ds m1 B1 I1 p1 r1 => ?_
    exact Ok.optV fun vs hv => Ok.call I1 (H.make c vs ds m1 B1 I1.val (r1.rd I1 hv))
  | .meth a n l, Y, Z, B, s, σ, m, I => by
    rw [evF, evalE]
    refine (evF_ok H a I).bnd fun v s1 d m1 B1 I1 p1 r1 => ?_
    refine Ok.optV fun g hg => ?_
    simp only [Option.bind_eq_some_iff, H.mt] at hg
    obtain ⟨c, h1, h2⟩ := hg
    have key : Ok Y Z B1 σ m1 ((evLs C (C.bor g).tail l s1).bind fun os s2 => optV (rdOs s2 os) fun vs => (C.call g (v :: vs)).to s2) ((evalEs D' l σ m1).bind fun ds m2 => D'.call g (d :: ds) m2) fun B' s' m' p d => VRel Z B' s' σ m' p.1 p.2 d := by
      refine (evLs_ok H (C.bor g).tail l I1).bind fun os s2 ds m2 B2 I2 p2 r2 => ?_
      refine Ok.optV fun vs hv => Ok.call I2 (H.call g (v :: vs) (d :: ds) m2 B2 I2.val ⟨?_, r2.rd I2 hv⟩)
      split
      · exact .sh (r1.sp p2)
      · exact r1.sp p2
    cases r1 <;> simp only [clsV, reduceCtorEq, Option.some.injEq] at h1
    · subst h1; simp only [h2]; exact key
    · rename_i e _; subst h1; simp only [e, h2]; exact key
  | .clo i l, Y, Z, B, s, σ, m, I => by
    rw [evF, evalE]
    unfold cloV
    split
    · rename_i k f cs h
      obtain ⟨d, e, r⟩ := I.slot (i := i) (v := .clo f cs) (by simp [slotV, h])
      have : ∃ ds, d = .clo f ds ∧ Rs B m cs ds := by
        cases r with
        | sh r => cases r with | clo r => exact ⟨_, rfl, r⟩
        | own r => cases r
      obtain ⟨ds, rfl, rc⟩ := this
      rw [e]
      refine (evAs_ok H l I).bind fun vs s1 es m1 B1 I1 p1 r1 => ?_
      exact Ok.call I1 (H.call f _ _ m1 B1 I1.val (RAs.ofRs (r1.append (rc.sp p1))))
    · trivial
  | .lam f cs, Y, Z, B, s, σ, m, I => by
    rw [evF, evalE]
    have o := cap_ok (σ := σ) cs I
    cases hr : capV s cs with
    | ok vs s1 =>
      rw [hr] at o
      obtain ⟨ds, B1, e1, I1, p1, r1⟩ := o
      rw [e1]
      exact ⟨_, m, B1, rfl, I1, p1, .clo r1⟩
    | ex c s1 => rw [hr] at o; exact o.elim
    | no => trivial
  | .bi b l, Y, Z, B, s, σ, m, I => by
    rw [evF, evalE]
    refine (evBs_ok H l I).bind fun os s1 ds m1 B1 I1 p1 r1 => ?_
    exact Ok.optV fun vs hv => Ok.optV fun r hr => Ok.pr I1 (bi_R hr (r1.rd I1 hv))
  | .bm a b l, Y, Z, B, s, σ, m, I => by
    rw [evF, evalE]
    refine (Ok.opd I (evF_ok H a I)).bind fun x s1 d m1 B1 I1 p1 q1 => ?_
    refine Ok.optV fun k hk => ?_
    simp only [Option.bind_eq_some_iff] at hk
    obtain ⟨v1, h1, h2⟩ := hk
    rw [bk_RT h2 (I1.rd q1 h1)]
    simp only
    cases hb : bmK b k with
    | false => trivial
    | true =>
      simp only [if_true]
      refine (evAs_ok H l I1).bind fun ws s2 es m2 B2 I2 p2 r2 => ?_
      split
      · rename_i hk
        simp only [Option.bind_eq_some_iff] at hk
        obtain ⟨v2, h3, h4⟩ := hk
        have rt := I2.rd (q1.sp p2) h3
        rw [if_pos (bk_RT h4 rt)]
        have plain : ∀ {r : V}, V.bm b v2 ws = some r → OkF Y Z B2 σ m2 (.ok (decide (b = .split), r) s2) (bm b d es m2) := fun h => by
          obtain ⟨_, _, _, pr⟩ := bm_R (fr := decide (b = .split)) (fun h => by simpa using h) h rt r2
          exact Ok.pr I2 pr
        cases x with
        | v w =>
          cases h3
          exact Ok.optV fun r hr => plain hr
        | sl i =>
          have h3' : slotV s2 i = some v2 := h3
          unfold bmOp bmSl
          simp only
          split
          · rename_i k2 x2 hs
            have : v2 = x2 := by simp only [slotV, hs, Option.some.injEq] at h3'; exact h3'.symm
            subst this
            split
            · rename_i r hr
              exact plain hr
            · split
              · rename_i hk
                subst hk
                split
                · rename_i r x' hr
                  obtain ⟨n, e, nb, nz, ro⟩ := I2.ow i _ hs
                  have eq1 : σ[i]? = some (some d) := q1
                  rw [e] at eq1
                  cases eq1
                  obtain ⟨k', d', o, o', _, _, e1, e2, mo, e3, _⟩ := bmO_R hr ro r2
                  rw [e1]
                  obtain ⟨I3, p3⟩ := I2.chg hs e (MOR.ro mo ro.lt nb)
                  exact Ok.mk rfl I3 p3 (e2.sp p3)
                · trivial
              · trivial
          · trivial
      · trivial
  | .isi a ts, Y, Z, B, s, σ, m, I => by
    rw [evF, evalE]
    refine (Ok.opd I (evF_ok H a I)).bind fun x s1 d m1 B1 I1 p1 q1 => ?_
    refine Ok.optV fun v hv => Ok.optV fun g hg => ?_
    rw [tag_R hg (I1.rd q1 hv), H.sub, H.vale]
    exact bl_ok I1
  | .lc own it tg c e, Y, Z, B, s, σ, m, I => by
    rw [evF, evalE]
    refine OkF.locked (f := fun s => (evIV C it s).bind fun vs s1 => (lcLoopV (own ++ tgN tg) tg (evCV C c) (evF C e) vs [] (wipeV s1 (own ++ tgN tg))).bind fun acc s2 => .ok (true, .lst acc) (restV s1 s2 (own ++ tgN tg))) I fun {Y Z s} I => ?_
    refine (evIV_ok H it I).bind fun vs s1 p m1 B1 I1 p1 r1 => ?_
    obtain ⟨I2, p2⟩ := I1.ext [.lst []]
    obtain ⟨nb, nz, nf⟩ := I1.new []
    have I3 := (I2.give (n := m1.length) (by simp) nb nf).wipe (own ++ tgN tg)
    have I4 : Inv Y (fun a => Z a ∨ a = m1.length) B1 (wipeV s1 (own ++ tgN tg)) (wipeD σ own) (m1 ++ [.lst []]) :=
      I3.free (wipeV_none s1 _) (wipeD_len σ own).symm fun i hi => wipeD_get σ own i fun h => hi (List.mem_append_left _ h)
    have o := lc_ok (σ := wipeD σ own) (g := p.2) (W := own ++ tgN tg) (tg := tg) (cv := evCV C c) (ev := evF C e) (cd := evalC D' c) (ed := evalE D' e) nz I1.yz (fun i h => List.mem_append_right _ h) (fun I => evCV_ok H c I) (fun I => evF_ok H e I)
      (r1.1.sp p2) (r1.2.sp p2) I4 (wipeV_none s1 _) ⟨[], at_len _ _, .nil⟩
    cases hv : lcLoopV (own ++ tgN tg) tg (evCV C c) (evF C e) vs [] (wipeV s1 (own ++ tgN tg)) with
    | no => trivial
    | ex _ _ => rw [hv] at o; exact o.elim
    | ok acc s2 =>
      rw [hv] at o
      obtain ⟨m', B', ads, e1, I5, hn, p5, e2, ra⟩ := o
      simp only [VR.bind]
      rw [e1]
      have I6 : Inv Y (fun a => Z a ∨ a = m1.length) B' s2 σ m' := I5.free hn (wipeD_len σ own) fun i hi => (wipeD_get σ own i fun h => hi (List.mem_append_left _ h)).symm
      have pp := p2.trans p5
      have I7 := Inv.rest I1 pp (I6.take I1.yz) (own ++ tgN tg)
      have hz := I5.zv m1.length (.inr rfl)
      have I8 : Free (restV s1 s2 (own ++ tgN tg)) σ m1.length := fun i w h => I6.freeOf i w (restV_ow _ h)
      exact Ok.mk rfl I7 pp (.inr ⟨_, rfl, hz.2, nz, I8, .lst e2 ra⟩)
  | .pur _, Y, Z, B, s, σ, m, I => by
    rw [evF]; trivial
  | .lcI own i tg c e, Y, Z, B, s, σ, m, I => by
    rw [evF, evalE]
    refine Ok.optV fun p hp => ?_
    obtain ⟨t, kvs⟩ := p
    obtain ⟨hv, hk⟩ := ownD_some hp
    simp only at hv hk ⊢
    obtain ⟨n, kds, en, hm, rk, nz0, nb0, I1, p1, hs⟩ := I.lockD hv
    rw [en]
    simp only [hm]
    obtain ⟨I2, p2⟩ := I1.ext [.lst []]
    obtain ⟨nb, nz, nf⟩ := I1.new []
    have I3 := (I2.give (n := (m.set n (.dct t true kds)).length) (by simp) nb nf).wipe (own ++ tgN tg)
    have I4 : Inv (Lk Y i n) (fun a => (Z a ∨ a = n) ∨ a = (m.set n (.dct t true kds)).length) B (wipeV (s.set i (some (.lk, .ldc t kvs))) (own ++ tgN tg)) (wipeD σ own) (m.set n (.dct t true kds) ++ [.lst []]) :=
      I3.free (wipeV_none _ _) (wipeD_len σ own).symm fun j hj => wipeD_get σ own j fun h => hj (List.mem_append_left _ h)
    have rit : Rs B (m.set n (.dct t true kds)) (itemsL kvs) (itemsD kds) := itemsR (rk.sp p1) hk
    have gg : GR B (fun a => Z a ∨ a = n) (m.set n (.dct t true kds)) [(n, .dct t true kds)] := fun p hp => by rw [List.mem_singleton.mp hp]; exact ⟨.inr (.inr rfl), hs⟩
    have o := lc_ok (σ := wipeD σ own) (g := [(n, .dct t true kds)]) (W := own ++ tgN tg) (tg := tg) (cv := evCV C c) (ev := evF C e) (cd := evalC D' c) (ed := evalE D' e) nz I1.yz (fun i h => List.mem_append_right _ h) (fun I => evCV_ok H c I) (fun I => evF_ok H e I)
      (rit.sp p2) (gg.sp p2) I4 (wipeV_none _ _) ⟨[], at_len _ _, .nil⟩
    have hl : (m.set n (.dct t true kds)).length = m.length := List.length_set
    rw [hl] at o nz nf nb
    cases hv2 : lcLoopV (own ++ tgN tg) tg (evCV C c) (evF C e) (itemsL kvs) [] (wipeV (s.set i (some (.lk, .ldc t kvs))) (own ++ tgN tg)) with
    | no => trivial
    | ex _ _ => trivial
    | ok acc s2 =>
      rw [hv2] at o
      obtain ⟨m', B', ads, e1, I5, hn, p5, e2, ra⟩ := o
      simp only [VR.bind, VR.ulkI]
      rw [e1]
      have I6 : Inv (Lk Y i n) (fun a => (Z a ∨ a = n) ∨ a = m.length) B' s2 σ m' := I5.free hn (wipeD_len σ own) fun i hi => (wipeD_get σ own i fun h => hi (List.mem_append_left _ h)).symm
      have pp := p2.trans p5
      have I7 := Inv.rest I1 pp (I6.take I1.yz) (own ++ tgN tg)
      have hz := I5.zv m.length (.inr rfl)
      have I8 : Free (restV (s.set i (some (.lk, .ldc t kvs))) s2 (own ++ tgN tg)) σ m.length := fun i w h => I6.freeOf i w (restV_ow _ h)
      have hmn : m'[n]? = some (.dct t true kds) := (pp.sZ n (.inr rfl)).trans hs
      obtain ⟨I9, p9⟩ := I7.unlockD I.yz nz0 hmn
      have hnm : n ≠ m.length := Nat.ne_of_lt (List.getElem?_eq_some_iff.mp hm).1
      refine Ok.mk rfl I9 ((p1.trans (sp_take pp)).trans p9) (.inr ⟨_, rfl, hz.2, fun h => nz (.inl h), fun j w h e => ?_, .lst (by rw [List.getElem?_set_ne hnm]; exact e2) (ra.sp p9)⟩)
      unfold ulkI at h
      split at h
      · rename_i t' kvs' hsi
        rcases put_get h with ⟨rfl, _, _⟩ | ⟨_, h⟩
        · obtain ⟨k, x, y, _⟩ := I7.lk _ _ hsi
          rcases y with y | ⟨_, y⟩
          · exact y.1 rfl
          · subst y
            rw [x] at e
            cases e
            exact hnm rfl
        · exact I8 j w h e
      · rcases put_get h with ⟨_, q, _⟩ | ⟨_, h⟩
        · cases q
        · exact I8 j w h e
      · rcases put_get h with ⟨_, q, _⟩ | ⟨_, h⟩
        · cases q
        · exact I8 j w h e
      · exact I8 j w h e
theorem evCV_ok {C : VCtx} {D' : Ctx} (H : CtxOk C D') : ∀ (e : Oe) {Y : Nat → Nat → Prop} {Z B : Nat → Prop} {s : VSto} {σ : Sto} {m : Mem}, Inv Y Z B s σ m → Ok Y Z B σ m (evCV C e s) (evalC D' e σ m) fun B' _ m' v d => R B' m' v d
  | .none, Y, Z, B, s, σ, m, I => by rw [evCV, evalC]; exact Ok.mk0 I (.bl _)
  | .some e, Y, Z, B, s, σ, m, I => by
    rw [evCV, evalC]
    exact (OkF.shown (C := C) (evF_ok H e I))
theorem evOV_ok {C : VCtx} {D' : Ctx} (H : CtxOk C D') : ∀ (e : Oe) {Y : Nat → Nat → Prop} {Z B : Nat → Prop} {s : VSto} {σ : Sto} {m : Mem}, Inv Y Z B s σ m → Ok Y Z B σ m (evOV C e s) (evalO D' e σ m) fun B' _ m' v d => v = d
  | .none, Y, Z, B, s, σ, m, I => by rw [evOV, evalO]; exact Ok.mk0 I rfl
  | .some e, Y, Z, B, s, σ, m, I => by
    rw [evOV, evalO]
    refine (evF_ok H e I).bnd fun v s1 d m1 B1 I1 p1 r1 => ?_
    cases r1 <;> first | trivial | exact Ok.mk0 I1 rfl
theorem evAs_ok {C : VCtx} {D' : Ctx} (H : CtxOk C D') : ∀ (l : Es) {Y : Nat → Nat → Prop} {Z B : Nat → Prop} {s : VSto} {σ : Sto} {m : Mem}, Inv Y Z B s σ m → Ok Y Z B σ m (evAs C l s) (evalEs D' l σ m) fun B' _ m' vs ds => Rs B' m' vs ds
  | .nil, Y, Z, B, s, σ, m, I => by rw [evAs, evalEs]; exact Ok.mk0 I .nil
  | .cons e l, Y, Z, B, s, σ, m, I => by
    rw [evAs, evalEs]
    refine (evF_ok H e I).bnd fun v s1 d m1 B1 I1 p1 r1 => ?_
    refine (evAs_ok H l I1).bind fun vs s2 ds m2 B2 I2 p2 r2 => ?_
    exact Ok.mk0 I2 (.cons (r1.sp p2) r2)
theorem evLs_ok {C : VCtx} {D' : Ctx} (H : CtxOk C D') (bs : List Bool) : ∀ (l : Es) {Y : Nat → Nat → Prop} {Z B : Nat → Prop} {s : VSto} {σ : Sto} {m : Mem}, Inv Y Z B s σ m → Ok Y Z B σ m (evLs C bs l s) (evalEs D' l σ m) fun B' _ m' xs ds => OpsR σ B' m' bs xs ds
  | .nil, Y, Z, B, s, σ, m, I => by rw [evLs, evalEs]; exact Ok.mk0 I trivial
  | .cons e l, Y, Z, B, s, σ, m, I => by
    rw [evLs, evalEs]
    have h1 : Ok Y Z B σ m (argV (bs.headD false) e s (evF C e s)) (evalE D' e σ m) fun B' _ m' x d => if bs.headD false then OpR σ B' m' x d else ∃ v, x = .v v ∧ R B' m' v d := by
      unfold argV
      split
      · rename_i hb
        exact (Ok.opd I (evF_ok H e I)).imp fun _ _ _ _ _ q => q
      · rename_i hb
        have e1 : evalE D' e σ m = (evalE D' e σ m).bind fun d m => .ok d m := by cases evalE D' e σ m <;> rfl
        rw [e1]
        exact (evF_ok H e I).bnd fun v s' d m' B' I' p' r' => Ok.mk0 I' (⟨v, rfl, r'⟩)
    refine h1.bind fun x s1 d m1 B1 I1 p1 r1 => ?_
    refine (evLs_ok H bs.tail l I1).bind fun xs s2 ds m2 B2 I2 p2 r2 => ?_
    refine Ok.mk0 I2 ⟨?_, r2⟩
    split
    · rename_i hb
      rw [if_pos hb] at r1
      exact r1.sp p2
    · rename_i hb
      rw [if_neg hb] at r1
      obtain ⟨v, e, q⟩ := r1
      exact ⟨v, e, q.sp p2⟩
theorem evBs_ok {C : VCtx} {D' : Ctx} (H : CtxOk C D') : ∀ (l : Es) {Y : Nat → Nat → Prop} {Z B : Nat → Prop} {s : VSto} {σ : Sto} {m : Mem}, Inv Y Z B s σ m → Ok Y Z B σ m (evBs C l s) (evalEs D' l σ m) fun B' _ m' xs ds => OpsB σ B' m' xs ds
  | .nil, Y, Z, B, s, σ, m, I => by rw [evBs, evalEs]; exact Ok.mk0 I trivial
  | .cons e l, Y, Z, B, s, σ, m, I => by
    rw [evBs, evalEs]
    refine (Ok.opd I (evF_ok H e I)).bind fun x s1 d m1 B1 I1 p1 r1 => ?_
    refine (evBs_ok H l I1).bind fun xs s2 ds m2 B2 I2 p2 r2 => ?_
    exact Ok.mk0 I2 ⟨r1.sp p2, r2⟩
theorem evKVV_ok {C : VCtx} {D' : Ctx} (H : CtxOk C D') (t : Bool) : ∀ (l : Kv) {Y : Nat → Nat → Prop} {Z B : Nat → Prop} {s : VSto} {σ : Sto} {m : Mem}, Inv Y Z B s σ m → Ok Y Z B σ m (evKVV C t l s) (evalKV D' l σ m) fun B' _ m' xs ds => KvR B' m' t xs ds
  | .nil, Y, Z, B, s, σ, m, I => by rw [evKVV, evalKV]; exact Ok.mk0 I ⟨.nil, rfl⟩
  | .cons k v l, Y, Z, B, s, σ, m, I => by
    rw [evKVV, evalKV]
    refine (evF_ok H k I).bnd fun x s1 d m1 B1 I1 p1 r1 => ?_
    refine (evF_ok H v I1).bnd fun y s2 e m2 B2 I2 p2 r2 => ?_
    refine (evKVV_ok H t l I2).bind fun r s3 rd m3 B3 I3 p3 r3 => ?_
    refine Ok.optV fun dk hk => ?_
    obtain ⟨h1, h2⟩ := key_R hk r1
    subst h1
    exact Ok.mk0 I3 ⟨.cons (r2.sp p3) r3.1, by rw [List.all_cons, r3.2]; simp [h2]⟩
theorem evIV_ok {C : VCtx} {D' : Ctx} (H : CtxOk C D') : ∀ (it : It) {Y : Nat → Nat → Prop} {Z B : Nat → Prop} {s : VSto} {σ : Sto} {m : Mem}, Inv Y Z B s σ m → Ok Y Z B σ m (evIV C it s) (evalI D' it σ m) fun B' _ m' vs p => Rs B' m' vs p.1 ∧ GR B' Z m' p.2
  | .seq e, Y, Z, B, s, σ, m, I => by
    rw [evIV, evalI]
    refine (Ok.itr I (evF_ok H e I)).bind fun v s1 d m1 B1 I1 p1 r1 => ?_
    refine Ok.optV fun l hl => ?_
    obtain ⟨ds, g, e, a, b⟩ := seq_ok hl r1
    rw [e]
    exact Ok.mk0 I1 ⟨a, b⟩
  | .rng lo hi, Y, Z, B, s, σ, m, I => by
    rw [evIV, evalI]
    refine (evF_ok H lo I).bnd fun v s1 d m1 B1 I1 p1 r1 => ?_
    refine (evF_ok H hi I1).bnd fun w s2 e m2 B2 I2 p2 r2 => ?_
    cases r1 <;> cases r2 <;> first | trivial | skip
    simp only [rngR]
    split
    · exact Ok.mk0 I2 ⟨rngR_ok _ _, fun _ h => by cases h⟩
    · trivial
  | .zip2 a b, Y, Z, B, s, σ, m, I => by
    rw [evIV, evalI]
    refine (Ok.itr I (evF_ok H a I)).bind fun v s1 d m1 B1 I1 p1 r1 => ?_
    refine (Ok.itr I1 (evF_ok H b I1)).bind fun w s2 e m2 B2 I2 p2 r2 => ?_
    refine Ok.optV fun x hx => Ok.optV fun y hy => ?_
    obtain ⟨ds, g, e1, a1, b1⟩ := zip_ok hx (itR_sp r1 p2)
    obtain ⟨es, g2, e2, a2, b2⟩ := zip_ok hy r2
    rw [e1, e2]
    exact Ok.mk0 I2 ⟨zipR a1 a2, fun p hp => (List.mem_append.mp hp).elim (b1 p) (b2 p)⟩
  | .zip3 a b c, Y, Z, B, s, σ, m, I => by
    rw [evIV, evalI]
    refine (Ok.itr I (evF_ok H a I)).bind fun v s1 d m1 B1 I1 p1 r1 => ?_
    refine (Ok.itr I1 (evF_ok H b I1)).bind fun w s2 e m2 B2 I2 p2 r2 => ?_
    refine (Ok.itr I2 (evF_ok H c I2)).bind fun u s3 f m3 B3 I3 p3 r3 => ?_
    refine Ok.optV fun x hx => Ok.optV fun y hy => Ok.optV fun z hz => ?_
    obtain ⟨ds, g, e1, a1, b1⟩ := zip_ok hx (itR_sp (itR_sp r1 p2) p3)
    obtain ⟨es, g2, e2, a2, b2⟩ := zip_ok hy (itR_sp r2 p3)
    obtain ⟨fs, g3, e3, a3, b3⟩ := zip_ok hz r3
    rw [e1, e2, e3]
    exact Ok.mk0 I3 ⟨zipR3 a1 a2 a3, fun p hp => (List.mem_append.mp hp).elim (fun h => (List.mem_append.mp h).elim (b1 p) (b2 p)) (b3 p)⟩
  | .items e, Y, Z, B, s, σ, m, I => by
    rw [evIV, evalI]
    refine (Ok.itr I (evF_ok H e I)).bind fun v s1 d m1 B1 I1 p1 r1 => ?_
    refine Ok.optV fun l hl => ?_
    obtain ⟨n, t, kds, rfl, e, b, r⟩ := items_ok hl r1
    simp only [e]
    exact Ok.mk0 I1 ⟨r, fun p hp => by rw [List.mem_singleton.mp hp]; exact ⟨b, e⟩⟩
  | .rvs e, Y, Z, B, s, σ, m, I => by
    rw [evIV, evalI]
    refine (Ok.itr I (evF_ok H e I)).bind fun v s1 d m1 B1 I1 p1 r1 => ?_
    refine Ok.optV fun l hl => ?_
    obtain ⟨ds, g, e, a, b⟩ := lst_ok hl r1
    rw [e]
    exact Ok.mk0 I1 ⟨a.reverse, b⟩
end
end
end FV
namespace FV
open FS
def VRr (Z B' : Nat → Prop) (m' : Mem) : Bool → V → D → Prop
  | false, v, d => R B' m' v d
  | true, v, d => (v.isRef = false ∧ R B' m' v d) ∨ ∃ n, d = .ref n ∧ ¬ B' n ∧ ¬ Z n ∧ RO B' m' v n
def OkS (Y : Nat → Nat → Prop) (Z B : Nat → Prop) (m : Mem) (r : VS) (h : SR) : Prop := match r with
  | .nx s' => ∃ σ' m' B', h = .nx σ' m' ∧ Inv Y Z B' s' σ' m' ∧ Sp Z B m B' m'
  | .bk s' => ∃ σ' m' B', h = .bk σ' m' ∧ Inv Y Z B' s' σ' m' ∧ Sp Z B m B' m'
  | .ct s' => ∃ σ' m' B', h = .ct σ' m' ∧ Inv Y Z B' s' σ' m' ∧ Sp Z B m B' m'
  | .ex c s' => ∃ σ' m' B', h = .ex c σ' m' ∧ Inv Y Z B' s' σ' m' ∧ Sp Z B m B' m'
  | .rt fr v => ∃ d m' B', h = .rt d m' ∧ (∀ a, B' a → a < m'.length) ∧ (∀ a, Z a → a < m'.length ∧ ¬ B' a) ∧ Sp Z B m B' m' ∧ VRr Z B' m' fr v d
  | .no => True
section
variable {Y : Nat → Nat → Prop} {Z B B' : Nat → Prop} {σ : Sto} {s : VSto} {m m' : Mem}
theorem OkS.pre {r : VS} {h : SR} (p : Sp Z B m B' m') (o : OkS Y Z B' m' r h) : OkS Y Z B m r h := by
  cases r with
  | nx s => obtain ⟨σ', m2, B2, e, I, p2⟩ := o; exact ⟨σ', m2, B2, e, I, p.trans p2⟩
  | bk s => obtain ⟨σ', m2, B2, e, I, p2⟩ := o; exact ⟨σ', m2, B2, e, I, p.trans p2⟩
  | ct s => obtain ⟨σ', m2, B2, e, I, p2⟩ := o; exact ⟨σ', m2, B2, e, I, p.trans p2⟩
  | ex c s => obtain ⟨σ', m2, B2, e, I, p2⟩ := o; exact ⟨σ', m2, B2, e, I, p.trans p2⟩
  | rt fr v => obtain ⟨d, m2, B2, e, a, b, p2, q⟩ := o; exact ⟨d, m2, B2, e, a, b, p.trans p2, q⟩
  | no => trivial
theorem OkS.nx0 (I : Inv Y Z B s σ m) : OkS Y Z B m (.nx s) (.nx σ m) := ⟨σ, m, B, rfl, I, .refl⟩
theorem OkS.seq {r : VS} {h : SR} {f : VSto → VS} {g : Sto → Mem → SR} (o : OkS Y Z B m r h) (k : ∀ s' σ' m' B', Inv Y Z B' s' σ' m' → OkS Y Z B' m' (f s') (g σ' m')) : OkS Y Z B m (r.seq f) (h.seq g) := by
  cases r with
  | nx s => obtain ⟨σ', m2, B2, e, I, p2⟩ := o; rw [e]; exact (k s σ' m2 B2 I).pre p2
  | bk s => obtain ⟨σ', m2, B2, e, I, p2⟩ := o; rw [e]; exact ⟨σ', m2, B2, rfl, I, p2⟩
  | ct s => obtain ⟨σ', m2, B2, e, I, p2⟩ := o; rw [e]; exact ⟨σ', m2, B2, rfl, I, p2⟩
  | ex c s => obtain ⟨σ', m2, B2, e, I, p2⟩ := o; rw [e]; exact ⟨σ', m2, B2, rfl, I, p2⟩
  | rt fr v => obtain ⟨d, m2, B2, e, a, b, p2, q⟩ := o; rw [e]; exact ⟨d, m2, B2, rfl, a, b, p2, q⟩
  | no => trivial
theorem OkS.toS {α β : Type} {r : VR α} {h : Res β} {Q : (Nat → Prop) → VSto → Mem → α → β → Prop} {f : α → VSto → VS} {g : β → Mem → SR}
    (o : Ok Y Z B σ m r h Q) (k : ∀ a s' b m' B', Inv Y Z B' s' σ m' → Sp Z B m B' m' → Q B' s' m' a b → OkS Y Z B' m' (f a s') (g b m')) : OkS Y Z B m (r.toS f) (h.toS σ g) := by
  cases r with
  | ok a s => obtain ⟨b, m2, B2, e, I, p2, q⟩ := o; rw [e]; exact (k a s b m2 B2 I p2 q).pre p2
  | ex c s => obtain ⟨m2, B2, e, I, p2⟩ := o; exact ⟨σ, m2, B2, by rw [e]; rfl, I, p2⟩
  | no => trivial
theorem OkS.toSb {r : VR (Bool × V)} {h : Res D} {f : V → VSto → VS} {g : D → Mem → SR}
    (o : OkF Y Z B σ m r h) (k : ∀ v s' d m' B', Inv Y Z B' s' σ m' → Sp Z B m B' m' → R B' m' v d → OkS Y Z B' m' (f v s') (g d m')) : OkS Y Z B m (r.toSb f) (h.toS σ g) := by
  cases r with
  | ok a s =>
    obtain ⟨b, m2, B2, e, I, p2, q⟩ := o
    obtain ⟨B3, I3, p3, r3⟩ := I.show q
    rw [e]
    exact (k a.2 s b m2 B3 I3 (p2.trans p3) r3).pre (p2.trans p3)
  | ex c s => obtain ⟨m2, B2, e, I, p2⟩ := o; exact ⟨σ, m2, B2, by rw [e]; rfl, I, p2⟩
  | no => trivial
theorem OkS.optVS {γ : Type} {o : Option γ} {k : γ → VS} {h : SR} (f : ∀ a, o = some a → OkS Y Z B m (k a) h) : OkS Y Z B m (optVS o k) h := by
  cases o with
  | some a => exact f a rfl
  | none => trivial
theorem iteVS_ok {v : V} {d : D} {a b : VS} {ha hb : SR} : R B m v d → OkS Y Z B m a ha → OkS Y Z B m b hb →
    OkS Y Z B m (iteVS v a b) (match d with | .bl true => ha | .bl false => hb | _ => .no) := by
  intro r ta tb
  cases r with
  | bl k => cases k with
    | true => exact ta
    | false => exact tb
  | _ => trivial
theorem loopK_ok {r : VS} {h : SR} {k : VSto → VS} {g : Sto → Mem → SR} : OkS Y Z B m r h → (∀ s' σ' m' B', Inv Y Z B' s' σ' m' → Sp Z B m B' m' → OkS Y Z B' m' (k s') (g σ' m')) →
    OkS Y Z B m (loopKV r k) (match h with | .nx σ2 m2 => g σ2 m2 | .ct σ2 m2 => g σ2 m2 | .bk σ2 m2 => .nx σ2 m2 | r => r) := by
  intro o f
  cases r with
  | nx s => obtain ⟨σ', m2, B2, e, I, p2⟩ := o; rw [e]; exact (f s σ' m2 B2 I p2).pre p2
  | bk s => obtain ⟨σ', m2, B2, e, I, p2⟩ := o; rw [e]; exact ⟨σ', m2, B2, rfl, I, p2⟩
  | ct s => obtain ⟨σ', m2, B2, e, I, p2⟩ := o; rw [e]; exact (f s σ' m2 B2 I p2).pre p2
  | ex c s => obtain ⟨σ', m2, B2, e, I, p2⟩ := o; rw [e]; exact ⟨σ', m2, B2, rfl, I, p2⟩
  | rt fr v => obtain ⟨d, m2, B2, e, a, b, p2, q⟩ := o; rw [e]; exact ⟨d, m2, B2, rfl, a, b, p2, q⟩
  | no => trivial
theorem fr_ok {g : Guard} {tg : Tg} {bv : VSto → VS} {bd : Sto → Mem → SR} (hb : ∀ {B : Nat → Prop} {s : VSto} {σ : Sto} {m : Mem}, Inv Y Z B s σ m → OkS Y Z B m (bv s) (bd σ m)) :
    ∀ {vs : List V} {ds : List D} {s : VSto} {σ : Sto} {m : Mem} {B : Nat → Prop}, Rs B m vs ds → GR B Z m g → Inv Y Z B s σ m → OkS Y Z B m (frLoopV tg bv vs s) (frLoop g tg bd ds σ m)
  | [], [], s, σ, m, B, .nil, hg, I => by rw [frLoopV, frLoop, if_pos hg.ok]; exact .nx0 I
  | v :: vs, d :: ds, s, σ, m, B, .cons a r, hg, I => by
    rw [frLoopV, frLoop, if_pos hg.ok]
    refine OkS.optVS fun s1 h1 => ?_
    obtain ⟨σ1, e1, I1, _, _⟩ := bind_ok tg h1 a I
    rw [e1]
    exact loopK_ok (hb I1) fun s2 σ2 m2 B2 I2 p2 => fr_ok hb (r.sp p2) (hg.sp p2) I2
theorem wh_ok {cv : VSto → VR (Bool × V)} {cd : Sto → Mem → Res D} {bv : VSto → VS} {bd : Sto → Mem → SR} (hc : ∀ {B : Nat → Prop} {s : VSto} {σ : Sto} {m : Mem}, Inv Y Z B s σ m → OkF Y Z B σ m (cv s) (cd σ m))
    (hb : ∀ {B : Nat → Prop} {s : VSto} {σ : Sto} {m : Mem}, Inv Y Z B s σ m → OkS Y Z B m (bv s) (bd σ m)) :
    ∀ (k : Nat) {s : VSto} {σ : Sto} {m : Mem} {B : Nat → Prop}, Inv Y Z B s σ m → OkS Y Z B m (whLoopV cv bv k s) (whLoop cd bd k σ m)
  | 0, s, σ, m, B, I => trivial
  | k + 1, s, σ, m, B, I => by
    rw [whLoopV, whLoop]
    refine OkS.toSb (hc I) fun v s1 d m1 B1 I1 p1 r1 => ?_
    exact iteVS_ok r1 (loopK_ok (hb I1) fun s2 σ2 m2 B2 I2 p2 => wh_ok hc hb k I2) (.nx0 I1)
theorem OkS.unlock {i n : Nat} {r : VS} {h : SR} (hy : ∀ i a, Y i a → Z a) (hz : ¬ Z n) (o : OkS (Lk Y i n) (fun a => Z a ∨ a = n) B m r h) : OkS Y Z B m (r.unlock (some i)) h := by
  cases r with
  | nx s => obtain ⟨σ', m2, B2, e, I, p2⟩ := o; exact ⟨σ', m2, B2, e, I.unlock hy hz, sp_take p2⟩
  | bk s => obtain ⟨σ', m2, B2, e, I, p2⟩ := o; exact ⟨σ', m2, B2, e, I.unlock hy hz, sp_take p2⟩
  | ct s => obtain ⟨σ', m2, B2, e, I, p2⟩ := o; exact ⟨σ', m2, B2, e, I.unlock hy hz, sp_take p2⟩
  | ex c s => obtain ⟨σ', m2, B2, e, I, p2⟩ := o; exact ⟨σ', m2, B2, e, I.unlock hy hz, sp_take p2⟩
  | rt fr v =>
    obtain ⟨d, m2, B2, e, a, b, p2, q⟩ := o
    refine ⟨d, m2, B2, e, a, fun x hx => b x (.inl hx), sp_take p2, ?_⟩
    cases fr with
    | false => exact q
    | true => exact q.imp id fun ⟨k, x, y, z, w⟩ => ⟨k, x, y, fun h => z (.inl h), w⟩
  | no => trivial
theorem OkS.ulkI {i n : Nat} {t : Bool} {kds : List (D × D)} {r : VS} {h : SR} (hy : ∀ i a, Y i a → Z a) (hz : ¬ Z n) (hm : m[n]? = some (.dct t true kds)) (o : OkS (Lk Y i n) (fun a => Z a ∨ a = n) B m r h) : OkS Y Z B m (r.ulkI i) (h.ulk n (.dct t false kds)) := by
  cases r with
  | nx s => obtain ⟨σ', m2, B2, e, I, p2⟩ := o; obtain ⟨I3, p3⟩ := I.unlockD hy hz ((p2.sZ n (.inr rfl)).trans hm); rw [e]; exact ⟨σ', _, B2, rfl, I3, (sp_take p2).trans p3⟩
  | bk s => obtain ⟨σ', m2, B2, e, I, p2⟩ := o; obtain ⟨I3, p3⟩ := I.unlockD hy hz ((p2.sZ n (.inr rfl)).trans hm); rw [e]; exact ⟨σ', _, B2, rfl, I3, (sp_take p2).trans p3⟩
  | ct s => obtain ⟨σ', m2, B2, e, I, p2⟩ := o; obtain ⟨I3, p3⟩ := I.unlockD hy hz ((p2.sZ n (.inr rfl)).trans hm); rw [e]; exact ⟨σ', _, B2, rfl, I3, (sp_take p2).trans p3⟩
  | ex c s => trivial
  | rt fr v =>
    obtain ⟨d, m2, B2, e, a, b, p2, q⟩ := o
    rw [e]
    have nb : ¬ B2 n := (b n (.inr rfl)).2
    have p3 : Sp Z B2 m2 B2 (m2.set n (.dct t false kds)) := ⟨fun _ h => h, fun a h => List.getElem?_set_ne fun (q : n = a) => nb (q ▸ h), fun a h => List.getElem?_set_ne fun (q : n = a) => hz (q ▸ h)⟩
    refine ⟨d, _, B2, rfl, fun x hx => by rw [List.length_set]; exact a x hx, fun x hx => ⟨by rw [List.length_set]; exact (b x (.inl hx)).1, (b x (.inl hx)).2⟩, (sp_take p2).trans p3, ?_⟩
    cases fr with
    | false => exact R.sp p3 q
    | true =>
      refine q.imp (fun ⟨x, y⟩ => ⟨x, y.sp p3⟩) fun ⟨k, x, y, z, w⟩ => ⟨k, x, y, fun h => z (.inl h), RO.mono p3.mo (List.getElem?_set_ne fun (q : n = k) => z (.inr q.symm)) w⟩
  | no => trivial
theorem OkS.locked {it : It} {f : VSto → VS} {h : SR} (I : Inv Y Z B s σ m) (o : ∀ {Y : Nat → Nat → Prop} {Z : Nat → Prop} {s : VSto}, Inv Y Z B s σ m → OkS Y Z B m (f s) h) :
    OkS Y Z B m ((f (lockS (lockI it s) s)).unlock (lockI it s)) h := by
  cases hl : lockI it s with
  | none =>
    have e : ∀ r : VS, r.unlock none = r := fun r => by cases r <;> rfl
    rw [e]
    exact o I
  | some i =>
    obtain ⟨v, hv⟩ := lockI_some hl
    obtain ⟨n, e, _, _, _⟩ := I.ow i v hv
    obtain ⟨nz, I'⟩ := I.lock hv e
    have e1 : lockS (some i) s = s.set i (some (.lk, v)) := by unfold lockS; simp only [hv]
    rw [e1]
    exact OkS.unlock I.yz nz (o I')
theorem Rf.len : ∀ {fs : List (Nat × V)} {fd : List (Nat × D)}, Rf B m fs fd → fs.length = fd.length
  | _, _, .nil => rfl
  | _, _, .cons _ r => by rw [List.length_cons, List.length_cons, Rf.len r]
theorem Rf.put {f : Nat} {v : V} {d : D} (q : R B m v d) : ∀ {fs : List (Nat × V)} {fd : List (Nat × D)}, Rf B m fs fd → Rf B m (putV f v fs) (putA f d fd)
  | _, _, .nil => .cons q .nil
  | _, _, .cons (k := k) a r => by
    unfold putV putA
    by_cases e : k = f
    · rw [if_pos e, if_pos e]; exact .cons q r
    · rw [if_neg e, if_neg e]; exact .cons a (Rf.put q r)
theorem Rf.sp {fs : List (Nat × V)} {fd : List (Nat × D)} (h : Sp Z B m B' m') (r : Rf B m fs fd) : Rf B' m' fs fd := Rf.mono h.mo r
mutual
theorem exV_ok {C : VCtx} {D' : Ctx} (H : CtxOk C D') : ∀ (x : S) {Y : Nat → Nat → Prop} {Z B : Nat → Prop} {s : VSto} {σ : Sto} {m : Mem}, Inv Y Z B s σ m → OkS Y Z B m (exV C x s) (execS D' x σ m)
  | .set i e, Y, Z, B, s, σ, m, I => by
    rw [exV, execS]
    refine OkS.toS (evF_ok H e I) fun p s1 d m1 B1 I1 p1 r1 => ?_
    obtain ⟨fr, v⟩ := p
    have sh : R B1 m1 v d → OkS Y Z B1 m1 (.nx (s1.set i (some (.sh, v)))) (.nx (σ.set i (some d)) m1) := fun r => ⟨_, _, B1, rfl, I1.put i r, .refl⟩
    cases fr with
    | false => exact sh r1
    | true =>
      rcases r1 with ⟨hr, r1⟩ | ⟨n, rfl, nb, nz, nf, ro⟩
      · have : kdOf true v = .sh := by unfold kdOf; have : v.isRef = false := hr; rw [this]; rfl
        simp only [this]
        exact sh r1
      · have : kdOf true v = .ow := by cases ro <;> rfl
        simp only [this]
        exact ⟨_, _, B1, rfl, I1.putO i nb nz nf ro, .refl⟩
  | .unp t e, Y, Z, B, s, σ, m, I => by
    rw [exV, execS]
    refine OkS.toSb (evF_ok H e I) fun v s1 d m1 B1 I1 p1 r1 => ?_
    refine OkS.optVS fun s2 h2 => ?_
    obtain ⟨σ2, e2, I2, _, _⟩ := bind_ok t h2 r1 I1
    rw [e2]
    exact .nx0 I2
  | .ex e, Y, Z, B, s, σ, m, I => by
    rw [exV, execS]
    exact OkS.toSb (evF_ok H e I) fun v s1 d m1 B1 I1 p1 r1 => .nx0 I1
  | .ret e, Y, Z, B, s, σ, m, I => by
    rw [exV, execS]
    have gen : OkS Y Z B m ((evF C e s).toS fun p _ => .rt (p.1 && p.2.isRef) p.2) ((evalE D' e σ m).toS σ fun d m1 => .rt d m1) := by
      refine OkS.toS (evF_ok H e I) fun p s1 d m1 B1 I1 p1 r1 => ⟨d, m1, B1, rfl, I1.val, I1.zv, .refl, ?_⟩
      obtain ⟨fr, v⟩ := p
      cases fr with
      | false => exact r1
      | true =>
        simp only [Bool.true_and]
        rcases r1 with ⟨h, r1⟩ | ⟨n, a, b, c, _, e⟩
        · have h : v.isRef = false := h
          rw [h]; exact r1
        · have h : v.isRef = true := by cases e <;> rfl
          rw [h]; exact .inr ⟨n, a, b, c, e⟩
    unfold retV
    split
    · rename_i i
      split
      · rename_i v hv
        obtain ⟨n, e, nb, nz, ro⟩ := I.ow _ v hv
        rw [evalE, e]
        exact ⟨_, m, B, rfl, I.val, I.zv, .refl, .inr ⟨n, rfl, nb, nz, ro⟩⟩
      · exact gen
    · exact gen
  | .retN, Y, Z, B, s, σ, m, I => by
    rw [exV, execS]
    exact ⟨_, m, B, rfl, I.val, I.zv, .refl, .non⟩
  | .ifs c a b, Y, Z, B, s, σ, m, I => by
    rw [exV, execS]
    exact OkS.toSb (evF_ok H c I) fun v s1 d m1 B1 I1 p1 r1 => iteVS_ok r1 (exVs_ok H a I1) (exVs_ok H b I1)
  | .whl c b, Y, Z, B, s, σ, m, I => by
    rw [exV, execS, H.fuel]
    exact wh_ok (fun I => evF_ok H c I) (fun I => exVs_ok H b I) _ I
  | .frs tg it b, Y, Z, B, s, σ, m, I => by
    rw [exV, execS]
    exact OkS.locked (f := fun s => (evIV C it s).toS fun vs s1 => frLoopV tg (exVs C b) vs s1) I fun I => OkS.toS (evIV_ok H it I) fun vs s1 p m1 B1 I1 p1 r1 => fr_ok (fun I => exVs_ok H b I) r1.1 r1.2 I1
  | .frsI tg i b, Y, Z, B, s, σ, m, I => by
    rw [exV, execS]
    refine OkS.optVS fun p hp => ?_
    obtain ⟨t, kvs⟩ := p
    obtain ⟨hv, hk⟩ := ownD_some hp
    simp only at hv hk ⊢
    obtain ⟨n, kds, en, hm, rk, nz0, nb0, I1, p1, hs⟩ := I.lockD hv
    rw [en]
    simp only [hm]
    refine OkS.pre p1 (OkS.ulkI I.yz nz0 hs (fr_ok (fun I => exVs_ok H b I) (itemsR (rk.sp p1) hk) (fun p hp => by rw [List.mem_singleton.mp hp]; exact ⟨.inr (.inr rfl), hs⟩) I1))
  | .brk, Y, Z, B, s, σ, m, I => by rw [exV, execS]; exact ⟨σ, m, B, rfl, I, .refl⟩
  | .cnt, Y, Z, B, s, σ, m, I => by rw [exV, execS]; exact ⟨σ, m, B, rfl, I, .refl⟩
  | .pss, Y, Z, B, s, σ, m, I => by rw [exV, execS]; exact .nx0 I
  | .rse c, Y, Z, B, s, σ, m, I => by rw [exV, execS]; exact ⟨σ, m, B, rfl, I, .refl⟩
  | .try_ b c sl h, Y, Z, B, s, σ, m, I => by
    rw [exV, execS]
    have o := exVs_ok H b I
    cases hr : exVs C b s with
    | ex e s1 =>
      rw [hr] at o
      obtain ⟨σ1, m1, B1, e1, I1, p1⟩ := o
      rw [e1]
      simp only [tryV, H.sub]
      split
      rotate_left
      · trivial
      split
      · refine OkS.pre p1 ?_
        cases sl with
        | none =>
          have oh := exVs_ok H h I1
          simp only [excX]
          have e0 : ∀ r, handV none r = r := fun r => by cases r <;> rfl
          rw [e0]; exact oh
        | some i =>
          have oh := exVs_ok H h (I1.put i (.exc e))
          simp only [excX]
          have fin : ∀ {s2 : VSto} {σ2 : Sto} {m2 : Mem} {B2 : Nat → Prop}, Inv Y Z B2 s2 σ2 m2 → Inv Y Z B2 (s2.set i none) (σ2.set i none) m2 := fun I => (I.off i).any i none fun y e => by
            rcases put_get e with ⟨_, e, _⟩ | ⟨ne, _⟩
            · exact e.symm
            · exact absurd rfl ne
          cases hh : exVs C h (s1.set i (some (.sh, .exc e))) with
          | nx s2 => rw [hh] at oh; obtain ⟨σ2, m2, B2, e2, I2, p2⟩ := oh; rw [e2]; exact ⟨_, m2, B2, rfl, fin I2, p2⟩
          | bk s2 => rw [hh] at oh; obtain ⟨σ2, m2, B2, e2, I2, p2⟩ := oh; rw [e2]; exact ⟨_, m2, B2, rfl, fin I2, p2⟩
          | ct s2 => rw [hh] at oh; obtain ⟨σ2, m2, B2, e2, I2, p2⟩ := oh; rw [e2]; exact ⟨_, m2, B2, rfl, fin I2, p2⟩
          | ex c s2 => rw [hh] at oh; obtain ⟨σ2, m2, B2, e2, I2, p2⟩ := oh; rw [e2]; exact ⟨_, m2, B2, rfl, I2, p2⟩
          | rt fr v => rw [hh] at oh; obtain ⟨d, m2, B2, e2, q⟩ := oh; rw [e2]; exact ⟨d, m2, B2, rfl, q⟩
          | no => trivial
      · exact ⟨σ1, m1, B1, rfl, I1, p1⟩
    | nx s1 => rw [hr] at o; obtain ⟨σ1, m1, B1, e1, I1, p1⟩ := o; rw [e1]; exact ⟨_, m1, B1, rfl, I1, p1⟩
    | bk s1 => rw [hr] at o; obtain ⟨σ1, m1, B1, e1, I1, p1⟩ := o; rw [e1]; exact ⟨_, m1, B1, rfl, I1, p1⟩
    | ct s1 => rw [hr] at o; obtain ⟨σ1, m1, B1, e1, I1, p1⟩ := o; rw [e1]; exact ⟨_, m1, B1, rfl, I1, p1⟩
    | rt fr v => rw [hr] at o; obtain ⟨d, m2, B2, e2, q⟩ := o; rw [e2]; exact ⟨d, m2, B2, rfl, q⟩
    | no => trivial
  | .setI a i e, Y, Z, B, s, σ, m, I => by
    cases a with
    | var j =>
      rw [exV, execS]
      refine OkS.toSb (evF_ok H e I) fun v s1 d m1 B1 I1 p1 r1 => ?_
      refine OkS.optVS fun w hw => ?_
      obtain ⟨x, ex, _⟩ := I1.slot hw
      rw [evalE, ex]
      show OkS Y Z B1 m1 _ ((evalE D' i σ m1).toS σ _)
      refine OkS.toSb (evF_ok H i I1) fun k s2 dk m2 B2 I2 p2 r2 => ?_
      unfold stoV
      split
      · rename_i y hy
        refine OkS.optVS fun y' hy' => ?_
        obtain ⟨n, en, nb, nz, ro⟩ := I2.ow j _ hy
        rw [ex] at en
        cases en
        obtain ⟨o, o', e1, mo, e2, _⟩ := storeI_R hy' ro r2 (r1.sp p2)
        rw [e1]
        obtain ⟨I3, p3⟩ := I2.chg hy ex (MOR.ro mo ro.lt nb)
        exact ⟨σ, _, B2, rfl, I3, p3⟩
      · trivial
    | _ =>
      rw [exV, execS]
      · exact OkS.toSb (evF_ok H e I) fun v s1 d m1 B1 I1 p1 r1 => trivial
      · intro j h; cases h
  | .setF a f e, Y, Z, B, s, σ, m, I => by
    cases a with
    | var j =>
      rw [exV, execS]
      refine OkS.toSb (evF_ok H e I) fun v s1 d m1 B1 I1 p1 r1 => ?_
      unfold stoF
      split
      · rename_i c fs hy
        obtain ⟨n, en, nb, nz, ro⟩ := I1.ow j _ hy
        cases ro with
        | obj em rf =>
          rename_i fd
          rw [evalE, en]
          simp only [Res.toS, em, ← rf.len]
          split
          · have hl : n < m1.length := (List.getElem?_eq_some_iff.mp em).1
            have p0 : Sp Z B1 m1 B1 (m1.set n (.obj c (putA f d fd))) := ⟨fun _ h => h, fun a h => List.getElem?_set_ne fun (q : n = a) => nb (q ▸ h), fun a h => List.getElem?_set_ne fun (q : n = a) => nz (q ▸ h)⟩
            obtain ⟨I3, p3⟩ := I1.chg (v' := .obj c (putV f v fs)) hy en (.obj (List.getElem?_set_self hl) ((rf.put r1).sp p0))
            exact ⟨σ, _, B1, rfl, I3, p3⟩
          · trivial
      · trivial
    | _ => rw [exV] <;> first | trivial | (intro j h; cases h)
  | .ndef i f cs, Y, Z, B, s, σ, m, I => by
    rw [exV, execS]
    have o := cap_ok (σ := σ) cs I
    cases hr : capV s cs with
    | ok vs s1 =>
      rw [hr] at o
      obtain ⟨ds, B1, e1, I1, p1, r1⟩ := o
      rw [e1]
      exact ⟨_, m, B1, rfl, I1.put i (.clo r1), p1⟩
    | ex c s1 => rw [hr] at o; exact o.elim
    | no => trivial
  | .cal b, Y, Z, B, s, σ, m, I => by
    rw [exV, execS]
    have o := exVs_ok H b I
    cases hr : exVs C b s <;> rw [hr] at o
    · obtain ⟨σ', m', B', e, q⟩ := o
      rw [e]
      exact ⟨σ', m', B', rfl, q⟩
    all_goals first
      | trivial
      | (obtain ⟨d, m', B', e, q⟩ := o; rw [e]; exact ⟨d, m', B', rfl, q⟩)
theorem exVs_ok {C : VCtx} {D' : Ctx} (H : CtxOk C D') : ∀ (x : Ss) {Y : Nat → Nat → Prop} {Z B : Nat → Prop} {s : VSto} {σ : Sto} {m : Mem}, Inv Y Z B s σ m → OkS Y Z B m (exVs C x s) (execSs D' x σ m)
  | .nil, Y, Z, B, s, σ, m, I => by rw [exVs, execSs]; exact .nx0 I
  | .cons x r, Y, Z, B, s, σ, m, I => by
    rw [exVs, execSs]
    exact OkS.seq (exV_ok H x I) fun s' σ' m' B' I' => exVs_ok H r I'
end
theorem RAs.len : ∀ {bs : List Bool} {vs : List V} {ds : List D}, RAs B m bs vs ds → vs.length = ds.length
  | _, [], [], _ => rfl
  | _, _ :: _, _ :: _, ⟨_, r⟩ => by rw [List.length_cons, List.length_cons, r.len]
  | _, [], _ :: _, h => h.elim
  | _, _ :: _, [], h => h.elim
theorem paramsV_len : ∀ (bs : List Bool) (vs : List V), (paramsV bs vs).length = vs.length
  | _, [] => rfl
  | bs, v :: vs => by rw [paramsV, List.length_cons, List.length_cons, paramsV_len]
theorem params_get : ∀ {bs : List Bool} {vs : List V} {ds : List D}, RAs B m bs vs ds → ∀ {i : Nat} {k : Kd} {v : V}, (paramsV bs vs)[i]? = some (some (k, v)) → ∃ d, ds[i]? = some d ∧ (k = .sh ∧ R B m v d ∨ k = .bo ∧ RT B m v d)
  | _, [], [], _, i, k, v, h => by simp [paramsV] at h
  | bs, w :: vs, e :: ds, ⟨a, r⟩, 0, k, v, h => by
    simp only [paramsV, List.getElem?_cons_zero, Option.some.injEq, Prod.mk.injEq] at h
    obtain ⟨h1, h2⟩ := h
    subst h2
    refine ⟨e, rfl, ?_⟩
    by_cases hb : bs.headD false = true
    · rw [if_pos hb] at h1 a
      exact .inr ⟨h1.symm, a⟩
    · rw [if_neg hb] at h1 a
      exact .inl ⟨h1.symm, a⟩
  | bs, w :: vs, e :: ds, ⟨a, r⟩, i + 1, k, v, h => by
    rw [paramsV, List.getElem?_cons_succ] at h
    obtain ⟨d, e1, q⟩ := params_get r h
    exact ⟨d, by rw [List.getElem?_cons_succ, e1], q⟩
def Un (B : Nat → Prop) (m : Mem) : Nat → Prop := fun a => a < m.length ∧ ¬ B a
theorem start_inv {bs : List Bool} {nl : Nat} {vs : List V} {ds : List D} (hv : ∀ a, B a → a < m.length) (r : RAs B m bs vs ds) : Inv (fun _ => Un B m) (Un B m) B (startV bs nl vs) (start nl ds) m := by
  have get : ∀ {i : Nat} {k : Kd} {v : V}, (startV bs nl vs)[i]? = some (some (k, v)) → ∃ d, (start nl ds)[i]? = some (some d) ∧ (k = .sh ∧ R B m v d ∨ k = .bo ∧ RT B m v d) := fun {i k v} h => by
    unfold startV at h
    by_cases hi : i < (paramsV bs vs).length
    · rw [List.getElem?_append_left hi] at h
      obtain ⟨d, e, q⟩ := params_get r h
      refine ⟨d, ?_, q⟩
      unfold start
      rw [List.getElem?_append_left (by rw [List.length_map]; exact (List.getElem?_eq_some_iff.mp e).1), List.getElem?_map, e]
      rfl
    · rw [List.getElem?_append_right (by omega), List.getElem?_replicate] at h
      split at h <;> simp at h
  exact {
    yz := fun _ _ h => h
    val := hv
    zv := fun a h => h
    len := by unfold startV start; rw [List.length_append, List.length_append, paramsV_len, List.length_map, List.length_replicate, List.length_replicate, r.len]
    sh := fun i v h => by
      obtain ⟨d, e, q⟩ := get h
      rcases q with ⟨_, q⟩ | ⟨q, _⟩
      · exact ⟨d, e, q⟩
      · cases q
    bo := fun i v h => by
      obtain ⟨d, e, q⟩ := get h
      rcases q with ⟨q, _⟩ | ⟨_, q⟩
      · cases q
      · refine ⟨d, e, ?_⟩
        cases q with
        | sh q => exact .inl q
        | own q =>
          rename_i n
          by_cases hb : B n
          · exact .inl (q.r hb)
          · exact .inr ⟨n, rfl, ⟨q.lt, hb⟩, q⟩
    lk := fun i v h => by
      obtain ⟨d, e, q⟩ := get h
      rcases q with ⟨q, _⟩ | ⟨q, _⟩ <;> cases q
    ow := fun i v h => by
      obtain ⟨d, e, q⟩ := get h
      rcases q with ⟨q, _⟩ | ⟨q, _⟩ <;> cases q
    dis := fun i j v w n h => by
      obtain ⟨d, e, q⟩ := get h
      rcases q with ⟨q, _⟩ | ⟨q, _⟩ <;> cases q }
theorem Inv.none_cons {Y0 : Nat → Prop} (I : Inv (fun _ => Y0) Z B s σ m) : Inv (fun _ => Y0) Z B (none :: s) (none :: σ) m where
  yz := fun _ => I.yz 0
  val := I.val
  zv := I.zv
  len := by rw [List.length_cons, List.length_cons, I.len]
  sh i v h := by
    cases i with
    | zero => simp at h
    | succ i => exact I.sh i v (by simpa using h)
  bo i v h := by
    cases i with
    | zero => simp at h
    | succ i => obtain ⟨d, e, q⟩ := I.bo i v (by simpa using h); exact ⟨d, e, q⟩
  lk i v h := by
    cases i with
    | zero => simp at h
    | succ i => exact I.lk i v (by simpa using h)
  ow i v h := by
    cases i with
    | zero => simp at h
    | succ i => exact I.ow i v (by simpa using h)
  dis i j v w n h1 h2 h3 h4 := by
    cases i with
    | zero => simp at h1
    | succ i => cases j with
      | zero => simp at h2
      | succ j => rw [I.dis i j v w n (by simpa using h1) (by simpa using h2) (by simpa using h3) (by simpa using h4)]
theorem cx_of (p : Sp (Un B m) B m B' m') (hv : ∀ a, B' a → a < m'.length) (hz : ∀ a, Un B m a → a < m'.length ∧ ¬ B' a) : Cx B m B' m' where
  inc := p.inc
  old a h := by
    by_cases hb : B a
    · exact p.sB a hb
    · exact p.sZ a ⟨h, hb⟩
  nb a h hb := by
    by_cases hn : B a
    · exact hn
    · exact absurd hb (hz a ⟨h, hn⟩).2
  val := hv
theorem vrc_of {fr : Bool} {v : V} {d : D} (c : Cx B m B' m') (q : VRr (Un B m) B' m' fr v d) : VRc B' m m' fr v d := by
  cases fr with
  | false => exact q
  | true =>
    refine q.imp id ?_
    rintro ⟨n, e, nb, nz, r⟩
    refine ⟨n, e, nb, ?_, r⟩
    by_cases h : n < m.length
    · exact absurd ⟨h, fun hb => nb (c.inc n hb)⟩ nz
    · omega
theorem run_ok {C : VCtx} {D' : Ctx} (H : CtxOk C D') (bs : List Bool) (F : Fn) : CallOk (runV C bs F) (runFn D' F) bs := by
  intro vs ds m B hv r
  cases F with
  | fn np nl b =>
    simp only [runV, runFn]
    rw [r.len]
    split
    · have o := exVs_ok H b (start_inv (nl := nl) hv r)
      cases hx : exVs C b (startV bs nl vs) with
      | nx s' =>
        rw [hx] at o
        obtain ⟨σ', m', B', e, I, p⟩ := o
        rw [e]
        exact ⟨_, m', B', rfl, cx_of p I.val I.zv, .non⟩
      | rt fr v =>
        rw [hx] at o
        obtain ⟨d, m', B', e, a, z, p, q⟩ := o
        rw [e]
        have c := cx_of p a z
        exact ⟨d, m', B', rfl, c, vrc_of c q⟩
      | ex c s' =>
        rw [hx] at o
        obtain ⟨σ', m', B', e, I, p⟩ := o
        rw [e]
        exact ⟨m', B', rfl, cx_of p I.val I.zv⟩
      | bk s' => trivial
      | ct s' => trivial
      | no => trivial
    · trivial
  | ini c np nl l =>
    simp only [runV, runFn]
    rw [r.len]
    split
    · have o := evAs_ok H l (start_inv (nl := nl - 1) hv r).none_cons
      cases hx : evAs C l (none :: startV bs (nl - 1) vs) with
      | ok ws s' =>
        rw [hx] at o
        obtain ⟨es, m', B', e, I, p, q⟩ := o
        rw [e]
        exact ⟨_, m', B', rfl, cx_of p I.val I.zv, .ins q⟩
      | ex c s' =>
        rw [hx] at o
        obtain ⟨m', B', e, I, p⟩ := o
        rw [e]
        exact ⟨m', B', rfl, cx_of p I.val I.zv⟩
      | no => trivial
    · trivial
structure OvOk (P : Prog) (O : Ov) : Prop where
  f : ∀ (k f : Nat) (vs : List V) (r : CR), O.f k f vs = some r → ∀ (ds : List D) (m : Mem) (B : Nat → Prop), (∀ a, B a → a < m.length) → RAs B m (O.bor f) vs ds → COk B m r (call P (k + 1) f ds m)
  c : ∀ (k c : Nat) (vs : List V) (r : CR), O.c k c vs = some r → ∀ (ds : List D) (m : Mem) (B : Nat → Prop), (∀ a, B a → a < m.length) → RAs B m (borC P O c) vs ds → COk B m r (mk P (call P (k - 1)) c ds m)
theorem COk.calm {cr : CR} {h : Res D} (o : COk B m cr h) : COk B m cr.calm h.calm := by
  cases cr with
  | ok fr v => obtain ⟨d, m', B', e, q⟩ := o; exact ⟨d, m', B', by rw [e]; rfl, q⟩
  | ex c => trivial
  | no => trivial
theorem mk_ok {P : Prog} {O : Ov} (hO : OvOk P O) (k : Nat) {cv : Nat → List V → CR} (h : ∀ f, CallOk (cv f) (call P (k - 1) f) (O.bor f)) (c : Nat) : CallOk (mkV P O k cv c) (mk P (call P (k - 1)) c) (borC P O c) := by
  intro vs ds m B hv r
  unfold mkV
  split
  · rename_i x hx
    exact hO.c k c vs x hx ds m B hv r
  · unfold mk
    unfold borC at r
    split
    · split
      · rename_i hemp
        have : vs = [] := by simpa using hemp
        subst this
        cases ds with
        | nil => rename_i hc _; simp only [hc, if_true]; exact ⟨_, m, B, rfl, ⟨fun _ h => h, fun _ _ => rfl, fun _ _ h => h, hv⟩, .ins .nil⟩
        | cons _ _ => exact r.elim
      · trivial
    · rename_i f hf
      simp only [hf] at r ⊢
      exact (h f vs ds m B hv r).calm
    · trivial
theorem vctx_ok {P : Prog} {O : Ov} (hO : OvOk P O) (k : Nat) {c1 c2 : Nat → List V → CR} (h1 : ∀ f, CallOk (c1 f) (call P k f) (O.bor f)) (h2 : ∀ f, CallOk (c2 f) (call P (k - 1) f) (O.bor f)) : CtxOk (vctx P O k c1 c2) (ctx P (call P k) (call P (k - 1))) where
  call := h1
  make := mk_ok hO k h2
  mt := rfl
  sub := rfl
  vale := rfl
  flds := rfl
  fuel := rfl
theorem body_ok {P : Prog} {O : Ov} (hO : OvOk P O) (k : Nat) {c1 c2 : Nat → List V → CR} (h1 : ∀ f, CallOk (c1 f) (call P k f) (O.bor f)) (h2 : ∀ f, CallOk (c2 f) (call P (k - 1) f) (O.bor f)) (f : Nat) : CallOk (bodyV P O k c1 c2 f) (call P (k + 1) f) (O.bor f) := by
  intro vs ds m B hv r
  unfold bodyV
  split
  · rename_i x hx
    exact hO.f k f vs x hx ds m B hv r
  · have e : call P (k + 1) f ds m = match P.fns f with | some F => runFn (ctx P (call P k) (call P (k - 1))) F ds m | none => .no := by
      cases k with
      | zero => rfl
      | succ n => rfl
    rw [e]
    split
    · rename_i F hF
      try simp only [hF]
      exact run_ok (vctx_ok hO k h1 h2) (O.bor f) F vs ds m B hv r
    · trivial
theorem no_ok (ch : List D → Mem → Res D) (bs : List Bool) : CallOk (fun _ => .no) ch bs := fun _ _ _ _ _ _ => trivial
theorem callV_ok {P : Prog} {O : Ov} (hO : OvOk P O) : ∀ n f, CallOk (callV P O n f) (call P n f) (O.bor f)
  | 0, f => no_ok _ _
  | 1, f => by
    have : callV P O 1 f = bodyV P O 0 (fun _ _ => .no) (fun _ _ => .no) f := rfl
    rw [this]
    exact body_ok hO 0 (fun f => no_ok _ _) (fun f => no_ok _ _) f
  | n + 2, f => body_ok hO (n + 1) (fun f => callV_ok hO (n + 1) f) (fun f => callV_ok hO n f) f
end
end FV
namespace FV
open FS
def slotO : Option (Option (Kd × V)) → Option V
  | some (some (_, v)) => some v
  | _ => none
def stoO (s : VSto) (j : Nat) (k v : V) : Option (Option (Kd × V)) → VS
  | some (some (.ow, x)) => optVS (V.storeI x k v) fun x' => .nx (s.set j (some (.ow, x')))
  | _ => .no
def cloO (k : Nat → List V → VR (Bool × V)) : Option (Option (Kd × V)) → VR (Bool × V)
  | some (some (_, .clo f cs)) => k f cs
  | _ => .no
def retO (r : VR (Bool × V)) : Option (Option (Kd × V)) → VS
  | some (some (.ow, v)) => .rt true v
  | _ => r.toS fun p _ => .rt (p.1 && p.2.isRef) p.2
def itO (s : VSto) (r : VR (Bool × V)) : Option (Option (Kd × V)) → VR V
  | some (some (.bo, v)) => .ok v s
  | some (some (.lk, v)) => .ok v s
  | _ => r.bnd fun v s1 => .ok v s1
def bmMut (b : Bm) (i : Nat) (s : VSto) (k : Kd) : Option (V × V) → VR (Bool × V)
  | some (r, x') => if k = .ow then .ok (false, r) (s.set i (some (.ow, x'))) else .no
  | none => .no
def bmAny (b : Bm) (s : VSto) (e : VR (Bool × V)) : Option V → VR (Bool × V)
  | some r => .ok (decide (b = .split), r) s
  | none => e
def bmO' (b : Bm) (i : Nat) (ws : List V) (s : VSto) : Option (Option (Kd × V)) → VR (Bool × V)
  | some (some (k, x)) => bmAny b s (bmMut b i s k (V.bmO b x ws)) (V.bm b x ws)
  | _ => .no
section
variable {C : VCtx} {s : VSto} {a b c e : E} {l : Es} {P : Prog} {O : Ov} {c1 c2 : Nat → List V → CR} {k : Nat} {r : VR (Bool × V)} {v w : V}
@[simp] theorem le_LIM {n : Nat} : (n ≤ LIM) = (n ≤ 16777216) := id rfl
@[simp] theorem lt_LIM {n : Nat} : (n < LIM) = (n < 16777216) := id rfl
@[simp] theorem slotV_eq {i : Nat} : slotV s i = slotO s[i]? := by unfold slotV slotO; rfl
@[simp] theorem slotO_s {k : Kd} : slotO (some (some (k, v))) = some v := id rfl
@[simp] theorem ve_varO {i : Nat} : varV s i = varO s i s[i]? := id rfl
@[simp] theorem varO_sh {i : Nat} : varO s i (some (some (.sh, v))) = .ok (false, v) s := id rfl
@[simp] theorem varO_ow {i : Nat} : varO s i (some (some (.ow, v))) = .ok (false, v) (s.set i (some (.sh, v))) := id rfl
@[simp] theorem vbind_ok {α β : Type} {x : α} {f : α → VSto → VR β} : VR.bind (.ok x s) f = f x s := id rfl
@[simp] theorem vbind_ex {α β : Type} {f : α → VSto → VR β} : VR.bind (.ex k s) f = .ex k s := id rfl
@[simp] theorem vbnd_ok {β : Type} {fr : Bool} {f : V → VSto → VR β} : VR.bnd (.ok (fr, v) s) f = f v s := id rfl
@[simp] theorem vbnd_ex {β : Type} {f : V → VSto → VR β} : VR.bnd (.ex k s) f = .ex k s := id rfl
@[simp] theorem vcalm_ok {α : Type} {x : α} : VR.calm (.ok x s) = .ok x s := id rfl
@[simp] theorem vtoS_ok {α : Type} {x : α} {f : α → VSto → VS} : VR.toS (.ok x s) f = f x s := id rfl
@[simp] theorem vtoS_ex {α : Type} {f : α → VSto → VS} : VR.toS (.ex k s) f = .ex k s := id rfl
@[simp] theorem vtoSb_ok {fr : Bool} {f : V → VSto → VS} : VR.toSb (.ok (fr, v) s) f = f v s := id rfl
@[simp] theorem vtoSb_ex {f : V → VSto → VS} : VR.toSb (.ex k s) f = .ex k s := id rfl
@[simp] theorem vseq_nx {f : VSto → VS} : VS.seq (.nx s) f = f s := id rfl
@[simp] theorem vseq_rt {fr : Bool} {f : VSto → VS} : VS.seq (.rt fr v) f = .rt fr v := id rfl
@[simp] theorem vseq_bk {f : VSto → VS} : VS.seq (.bk s) f = .bk s := id rfl
@[simp] theorem vseq_ct {f : VSto → VS} : VS.seq (.ct s) f = .ct s := id rfl
@[simp] theorem vseq_ex {f : VSto → VS} : VS.seq (.ex k s) f = .ex k s := id rfl
@[simp] theorem crto_ok {fr : Bool} : CR.to s (.ok fr v) = .ok (fr, v) s := id rfl
@[simp] theorem crto_ex : CR.to s (.ex k) = .ex k s := id rfl
@[simp] theorem optV_s {α β : Type} {x : α} {f : α → VR β} : optV (some x) f = f x := id rfl
@[simp] theorem optVS_s {α : Type} {x : α} {f : α → VS} : optVS (some x) f = f x := id rfl
@[simp] theorem iteV_t {α : Type} {x y : VR α} : iteV (.bl true) x y = x := id rfl
@[simp] theorem iteV_f {α : Type} {x y : VR α} : iteV (.bl false) x y = y := id rfl
@[simp] theorem iteV_b {α : Type} {z : Bool} {x y : VR α} : iteV (.bl z) x y = if z then x else y := by cases z <;> rfl
@[simp] theorem iteVS_t {x y : VS} : iteVS (.bl true) x y = x := id rfl
@[simp] theorem iteVS_f {x y : VS} : iteVS (.bl false) x y = y := id rfl
@[simp] theorem iteVS_b {z : Bool} {x y : VS} : iteVS (.bl z) x y = if z then x else y := by cases z <;> rfl
@[simp] theorem notV_b {z : Bool} : notV s (.bl z) = .ok (false, .bl (!z)) s := id rfl
@[simp] theorem negV_i {i : Int} : negV s (.int i) = .ok (false, .int (-i)) s := id rfl
@[simp] theorem invV_i {i : Int} : invV s (.int i) = .ok (false, .int (bNot i)) s := id rfl
@[simp] theorem intV_i {i : Int} : intV s (.int i) = .ok (some i) s := id rfl
@[simp] theorem chnV_t {x : VR (Bool × V)} : chnV s (some true) x = x := id rfl
@[simp] theorem chnV_f {x : VR (Bool × V)} : chnV s (some false) x = .ok (false, .bl false) s := id rfl
@[simp] theorem chnV_b {z : Bool} {x : VR (Bool × V)} : chnV s (some z) x = if z then x else .ok (false, .bl false) s := by cases z <;> rfl
@[simp] theorem clsV_ins {vs : List V} : clsV (.ins k vs) = some k := id rfl
@[simp] theorem clsV_obj {vs : List (Nat × V)} : clsV (.obj k vs) = some k := id rfl
@[simp] theorem obind_s {α β : Type} {x : α} {f : α → Option β} : Option.bind (some x) f = f x := id rfl
@[simp] theorem ofD_non : V.ofD .non = some .non := id rfl
@[simp] theorem ofD_bl {z : Bool} : V.ofD (.bl z) = some (.bl z) := id rfl
@[simp] theorem ofD_int {i : Int} : V.ofD (.int i) = some (.int i) := id rfl
@[simp] theorem ofD_str {x : List Nat} : V.ofD (.str x) = some (.str x) := id rfl
@[simp] theorem rdO_sl {i : Nat} : rdO s (.sl i) = slotO s[i]? := by unfold rdO; simp
@[simp] theorem rdO_v : rdO s (.v v) = some v := id rfl
@[simp] theorem rdOs_n : rdOs s [] = some [] := id rfl
@[simp] theorem rdOs_c {x : Opd} {xs : List Opd} : rdOs s (x :: xs) = (rdO s x).bind fun v => (rdOs s xs).map (v :: ·) := id rfl
@[simp] theorem opd_var {i : Nat} : opdV (.var i) s r = optV (slotO s[i]?) fun _ => .ok (.sl i) s := by unfold opdV; simp
@[simp] theorem argV_f : argV false e s r = r.bnd fun v s1 => .ok (.v v) s1 := id rfl
@[simp] theorem argV_t : argV true e s r = opdV e s r := id rfl
@[simp] theorem it_var {i : Nat} : itV (.var i) s r = itO s r s[i]? := by unfold itV itO; rfl
@[simp] theorem itO_sh : itO s r (some (some (.sh, v))) = r.bnd fun v s1 => .ok v s1 := id rfl
@[simp] theorem itO_ow : itO s r (some (some (.ow, v))) = r.bnd fun v s1 => .ok v s1 := id rfl
@[simp] theorem itO_lk : itO s r (some (some (.lk, v))) = .ok v s := id rfl
@[simp] theorem itO_bo : itO s r (some (some (.bo, v))) = .ok v s := id rfl
@[simp] theorem ret_var {i : Nat} : retV (.var i) s r = retO r s[i]? := by unfold retV retO; rfl
@[simp] theorem retO_ow : retO r (some (some (.ow, v))) = .rt true v := id rfl
@[simp] theorem retO_sh : retO r (some (some (.sh, v))) = r.toS fun p _ => .rt (p.1 && p.2.isRef) p.2 := id rfl
@[simp] theorem opd_cst {d : D} : opdV (.cst d) s r = r.bnd fun v s1 => .ok (.v v) s1 := id rfl
@[simp] theorem it_cst {d : D} : itV (.cst d) s r = r.bnd fun v s1 => .ok v s1 := id rfl
@[simp] theorem ret_cst {d : D} : retV (.cst d) s r = r.toS fun p _ => .rt (p.1 && p.2.isRef) p.2 := id rfl
@[simp] theorem opd_op {o : O2} : opdV (.op o a b) s r = r.bnd fun v s1 => .ok (.v v) s1 := id rfl
@[simp] theorem it_op {o : O2} : itV (.op o a b) s r = r.bnd fun v s1 => .ok v s1 := id rfl
@[simp] theorem ret_op {o : O2} : retV (.op o a b) s r = r.toS fun p _ => .rt (p.1 && p.2.isRef) p.2 := id rfl
@[simp] theorem opd_cmp {o : Cm} : opdV (.cmp o a b) s r = r.bnd fun v s1 => .ok (.v v) s1 := id rfl
@[simp] theorem it_cmp {o : Cm} : itV (.cmp o a b) s r = r.bnd fun v s1 => .ok v s1 := id rfl
@[simp] theorem ret_cmp {o : Cm} : retV (.cmp o a b) s r = r.toS fun p _ => .rt (p.1 && p.2.isRef) p.2 := id rfl
@[simp] theorem opd_chn {o o' : Cm} : opdV (.chn o o' a b c) s r = r.bnd fun v s1 => .ok (.v v) s1 := id rfl
@[simp] theorem it_chn {o o' : Cm} : itV (.chn o o' a b c) s r = r.bnd fun v s1 => .ok v s1 := id rfl
@[simp] theorem ret_chn {o o' : Cm} : retV (.chn o o' a b c) s r = r.toS fun p _ => .rt (p.1 && p.2.isRef) p.2 := id rfl
@[simp] theorem opd_not  : opdV (.not a) s r = r.bnd fun v s1 => .ok (.v v) s1 := id rfl
@[simp] theorem it_not  : itV (.not a) s r = r.bnd fun v s1 => .ok v s1 := id rfl
@[simp] theorem ret_not  : retV (.not a) s r = r.toS fun p _ => .rt (p.1 && p.2.isRef) p.2 := id rfl
@[simp] theorem opd_and  : opdV (.and a b) s r = r.bnd fun v s1 => .ok (.v v) s1 := id rfl
@[simp] theorem it_and  : itV (.and a b) s r = r.bnd fun v s1 => .ok v s1 := id rfl
@[simp] theorem ret_and  : retV (.and a b) s r = r.toS fun p _ => .rt (p.1 && p.2.isRef) p.2 := id rfl
@[simp] theorem opd_or  : opdV (.or a b) s r = r.bnd fun v s1 => .ok (.v v) s1 := id rfl
@[simp] theorem it_or  : itV (.or a b) s r = r.bnd fun v s1 => .ok v s1 := id rfl
@[simp] theorem ret_or  : retV (.or a b) s r = r.toS fun p _ => .rt (p.1 && p.2.isRef) p.2 := id rfl
@[simp] theorem opd_ife  : opdV (.ife c a b) s r = r.bnd fun v s1 => .ok (.v v) s1 := id rfl
@[simp] theorem it_ife  : itV (.ife c a b) s r = r.bnd fun v s1 => .ok v s1 := id rfl
@[simp] theorem ret_ife  : retV (.ife c a b) s r = r.toS fun p _ => .rt (p.1 && p.2.isRef) p.2 := id rfl
@[simp] theorem opd_neg  : opdV (.neg a) s r = r.bnd fun v s1 => .ok (.v v) s1 := id rfl
@[simp] theorem it_neg  : itV (.neg a) s r = r.bnd fun v s1 => .ok v s1 := id rfl
@[simp] theorem ret_neg  : retV (.neg a) s r = r.toS fun p _ => .rt (p.1 && p.2.isRef) p.2 := id rfl
@[simp] theorem opd_inv  : opdV (.inv a) s r = r.bnd fun v s1 => .ok (.v v) s1 := id rfl
@[simp] theorem it_inv  : itV (.inv a) s r = r.bnd fun v s1 => .ok v s1 := id rfl
@[simp] theorem ret_inv  : retV (.inv a) s r = r.toS fun p _ => .rt (p.1 && p.2.isRef) p.2 := id rfl
@[simp] theorem opd_tup  : opdV (.tup l) s r = r.bnd fun v s1 => .ok (.v v) s1 := id rfl
@[simp] theorem it_tup  : itV (.tup l) s r = r.bnd fun v s1 => .ok v s1 := id rfl
@[simp] theorem ret_tup  : retV (.tup l) s r = r.toS fun p _ => .rt (p.1 && p.2.isRef) p.2 := id rfl
@[simp] theorem opd_lst  : opdV (.lst l) s r = r.bnd fun v s1 => .ok (.v v) s1 := id rfl
@[simp] theorem it_lst  : itV (.lst l) s r = r.bnd fun v s1 => .ok v s1 := id rfl
@[simp] theorem ret_lst  : retV (.lst l) s r = r.toS fun p _ => .rt (p.1 && p.2.isRef) p.2 := id rfl
@[simp] theorem opd_dct0 {t : Bool} : opdV (.dct0 t) s r = r.bnd fun v s1 => .ok (.v v) s1 := id rfl
@[simp] theorem it_dct0 {t : Bool} : itV (.dct0 t) s r = r.bnd fun v s1 => .ok v s1 := id rfl
@[simp] theorem ret_dct0 {t : Bool} : retV (.dct0 t) s r = r.toS fun p _ => .rt (p.1 && p.2.isRef) p.2 := id rfl
@[simp] theorem opd_dct {t : Bool} {q : Kv} : opdV (.dct t q) s r = r.bnd fun v s1 => .ok (.v v) s1 := id rfl
@[simp] theorem it_dct {t : Bool} {q : Kv} : itV (.dct t q) s r = r.bnd fun v s1 => .ok v s1 := id rfl
@[simp] theorem ret_dct {t : Bool} {q : Kv} : retV (.dct t q) s r = r.toS fun p _ => .rt (p.1 && p.2.isRef) p.2 := id rfl
@[simp] theorem opd_idx  : opdV (.idx a b) s r = r.bnd fun v s1 => .ok (.v v) s1 := id rfl
@[simp] theorem it_idx  : itV (.idx a b) s r = r.bnd fun v s1 => .ok v s1 := id rfl
@[simp] theorem ret_idx  : retV (.idx a b) s r = r.toS fun p _ => .rt (p.1 && p.2.isRef) p.2 := id rfl
@[simp] theorem opd_slc {lo hi : Oe} : opdV (.slc a lo hi) s r = r.bnd fun v s1 => .ok (.v v) s1 := id rfl
@[simp] theorem it_slc {lo hi : Oe} : itV (.slc a lo hi) s r = r.bnd fun v s1 => .ok v s1 := id rfl
@[simp] theorem ret_slc {lo hi : Oe} : retV (.slc a lo hi) s r = r.toS fun p _ => .rt (p.1 && p.2.isRef) p.2 := id rfl
@[simp] theorem opd_ev2 {lo : Oe} : opdV (.ev2 a lo) s r = r.bnd fun v s1 => .ok (.v v) s1 := id rfl
@[simp] theorem it_ev2 {lo : Oe} : itV (.ev2 a lo) s r = r.bnd fun v s1 => .ok v s1 := id rfl
@[simp] theorem ret_ev2 {lo : Oe} : retV (.ev2 a lo) s r = r.toS fun p _ => .rt (p.1 && p.2.isRef) p.2 := id rfl
@[simp] theorem opd_rev  : opdV (.rev a) s r = r.bnd fun v s1 => .ok (.v v) s1 := id rfl
@[simp] theorem it_rev  : itV (.rev a) s r = r.bnd fun v s1 => .ok v s1 := id rfl
@[simp] theorem ret_rev  : retV (.rev a) s r = r.toS fun p _ => .rt (p.1 && p.2.isRef) p.2 := id rfl
@[simp] theorem opd_fld {f : Nat} : opdV (.fld a f) s r = r.bnd fun v s1 => .ok (.v v) s1 := id rfl
@[simp] theorem it_fld {f : Nat} : itV (.fld a f) s r = r.bnd fun v s1 => .ok v s1 := id rfl
@[simp] theorem ret_fld {f : Nat} : retV (.fld a f) s r = r.toS fun p _ => .rt (p.1 && p.2.isRef) p.2 := id rfl
@[simp] theorem opd_call {f : Nat} : opdV (.call f l) s r = r.bnd fun v s1 => .ok (.v v) s1 := id rfl
@[simp] theorem it_call {f : Nat} : itV (.call f l) s r = r.bnd fun v s1 => .ok v s1 := id rfl
@[simp] theorem ret_call {f : Nat} : retV (.call f l) s r = r.toS fun p _ => .rt (p.1 && p.2.isRef) p.2 := id rfl
@[simp] theorem opd_make {f : Nat} : opdV (.make f l) s r = r.bnd fun v s1 => .ok (.v v) s1 := id rfl
@[simp] theorem it_make {f : Nat} : itV (.make f l) s r = r.bnd fun v s1 => .ok v s1 := id rfl
@[simp] theorem ret_make {f : Nat} : retV (.make f l) s r = r.toS fun p _ => .rt (p.1 && p.2.isRef) p.2 := id rfl
@[simp] theorem opd_meth {f : Nat} : opdV (.meth a f l) s r = r.bnd fun v s1 => .ok (.v v) s1 := id rfl
@[simp] theorem it_meth {f : Nat} : itV (.meth a f l) s r = r.bnd fun v s1 => .ok v s1 := id rfl
@[simp] theorem ret_meth {f : Nat} : retV (.meth a f l) s r = r.toS fun p _ => .rt (p.1 && p.2.isRef) p.2 := id rfl
@[simp] theorem opd_lam {f : Nat} {cs : List Nat} : opdV (.lam f cs) s r = r.bnd fun v s1 => .ok (.v v) s1 := id rfl
@[simp] theorem it_lam {f : Nat} {cs : List Nat} : itV (.lam f cs) s r = r.bnd fun v s1 => .ok v s1 := id rfl
@[simp] theorem ret_lam {f : Nat} {cs : List Nat} : retV (.lam f cs) s r = r.toS fun p _ => .rt (p.1 && p.2.isRef) p.2 := id rfl
@[simp] theorem opd_clo {f : Nat} : opdV (.clo f l) s r = r.bnd fun v s1 => .ok (.v v) s1 := id rfl
@[simp] theorem it_clo {f : Nat} : itV (.clo f l) s r = r.bnd fun v s1 => .ok v s1 := id rfl
@[simp] theorem ret_clo {f : Nat} : retV (.clo f l) s r = r.toS fun p _ => .rt (p.1 && p.2.isRef) p.2 := id rfl
@[simp] theorem opd_bi {q : Bi} : opdV (.bi q l) s r = r.bnd fun v s1 => .ok (.v v) s1 := id rfl
@[simp] theorem it_bi {q : Bi} : itV (.bi q l) s r = r.bnd fun v s1 => .ok v s1 := id rfl
@[simp] theorem ret_bi {q : Bi} : retV (.bi q l) s r = r.toS fun p _ => .rt (p.1 && p.2.isRef) p.2 := id rfl
@[simp] theorem opd_bm {q : Bm} : opdV (.bm a q l) s r = r.bnd fun v s1 => .ok (.v v) s1 := id rfl
@[simp] theorem it_bm {q : Bm} : itV (.bm a q l) s r = r.bnd fun v s1 => .ok v s1 := id rfl
@[simp] theorem ret_bm {q : Bm} : retV (.bm a q l) s r = r.toS fun p _ => .rt (p.1 && p.2.isRef) p.2 := id rfl
@[simp] theorem opd_isi {q : List Ty} : opdV (.isi a q) s r = r.bnd fun v s1 => .ok (.v v) s1 := id rfl
@[simp] theorem it_isi {q : List Ty} : itV (.isi a q) s r = r.bnd fun v s1 => .ok v s1 := id rfl
@[simp] theorem ret_isi {q : List Ty} : retV (.isi a q) s r = r.toS fun p _ => .rt (p.1 && p.2.isRef) p.2 := id rfl
@[simp] theorem opd_lc {o : List Nat} {it : It} {tg : Tg} {q : Oe} : opdV (.lc o it tg q e) s r = r.bnd fun v s1 => .ok (.v v) s1 := id rfl
@[simp] theorem it_lc {o : List Nat} {it : It} {tg : Tg} {q : Oe} : itV (.lc o it tg q e) s r = r.bnd fun v s1 => .ok v s1 := id rfl
@[simp] theorem ret_lc {o : List Nat} {it : It} {tg : Tg} {q : Oe} : retV (.lc o it tg q e) s r = r.toS fun p _ => .rt (p.1 && p.2.isRef) p.2 := id rfl
@[simp] theorem opd_lcI {o : List Nat} {it : Nat} {tg : Tg} {q : Oe} : opdV (.lcI o it tg q e) s r = r.bnd fun v s1 => .ok (.v v) s1 := id rfl
@[simp] theorem it_lcI {o : List Nat} {it : Nat} {tg : Tg} {q : Oe} : itV (.lcI o it tg q e) s r = r.bnd fun v s1 => .ok v s1 := id rfl
@[simp] theorem ret_lcI {o : List Nat} {it : Nat} {tg : Tg} {q : Oe} : retV (.lcI o it tg q e) s r = r.toS fun p _ => .rt (p.1 && p.2.isRef) p.2 := id rfl
@[simp] theorem ve_var {i : Nat} : evF C (.var i) s = varV s i := by rw [evF]
@[simp] theorem ve_cst {d : D} : evF C (.cst d) s = optV (V.ofD d) fun v => .ok (false, v) s := by rw [evF]
@[simp] theorem ve_op {o : O2} : evF C (.op o a b) s = (opdV a s (evF C a s)).bind fun x s1 => (opdV b s1 (evF C b s1)).bind fun y s2 => optV (rdO s2 x) fun v => optV (rdO s2 y) fun w => optV (V.op o v w) fun r => .ok (true, r) s2 := by rw [evF]
@[simp] theorem ve_cmp {o : Cm} : evF C (.cmp o a b) s = (opdV a s (evF C a s)).bind fun x s1 => (opdV b s1 (evF C b s1)).bind fun y s2 => optV (rdO s2 x) fun v => optV (rdO s2 y) fun w => optV (V.cmp o v w) fun r => .ok (false, .bl r) s2 := by rw [evF]
@[simp] theorem ve_chn {o o' : Cm} : evF C (.chn o o' a b c) s = (opdV a s (evF C a s)).bind fun x s1 => (evF C b s1).bnd fun w s2 => optV (rdO s2 x) fun v => chnV s2 (V.cmp o v w) ((evF C c s2).bnd fun z s3 => optV (V.cmp o' w z) fun r => .ok (false, .bl r) s3) := by rw [evF]
@[simp] theorem ve_not : evF C (.not a) s = (evF C a s).bnd fun v s1 => notV s1 v := by rw [evF]
@[simp] theorem ve_and : evF C (.and a b) s = (evF C a s).bnd fun v s1 => iteV v (evF C b s1) (.ok (false, .bl false) s1) := by rw [evF]
@[simp] theorem ve_or : evF C (.or a b) s = (evF C a s).bnd fun v s1 => iteV v (.ok (false, .bl true) s1) (evF C b s1) := by rw [evF]
@[simp] theorem ve_ife : evF C (.ife c a b) s = (evF C c s).bnd fun v s1 => iteV v (evF C a s1) (evF C b s1) := by rw [evF]
@[simp] theorem ve_neg : evF C (.neg a) s = (evF C a s).bnd fun v s1 => negV s1 v := by rw [evF]
@[simp] theorem ve_inv : evF C (.inv a) s = (evF C a s).bnd fun v s1 => invV s1 v := by rw [evF]
@[simp] theorem ve_tup : evF C (.tup l) s = (evAs C l s).bind fun vs s1 => if vs.length ≤ LIM then .ok (false, .tup vs) s1 else .no := by rw [evF]
@[simp] theorem ve_lst : evF C (.lst l) s = (evAs C l s).bind fun vs s1 => if vs.length ≤ LIM then .ok (true, .lst vs) s1 else .no := by rw [evF]
@[simp] theorem ve_dct0 {t : Bool} : evF C (.dct0 t) s = .ok (true, .dct t []) s := by rw [evF]
@[simp] theorem ve_dct {t : Bool} {q : Kv} : evF C (.dct t q) s = (evKVV C t q s).bind fun kvs s1 => if kvs.length ≤ 15 then .ok (true, .dct t (kvs.foldl (fun a p => V.put a p.1 p.2) [])) s1 else .no := by rw [evF]
@[simp] theorem ve_idx : evF C (.idx a b) s = (opdV a s (evF C a s)).bind fun x s1 => (opdV b s1 (evF C b s1)).bind fun y s2 => optV (rdO s2 x) fun v => optV (rdO s2 y) fun w => optV (V.idx v w) fun r => .ok (false, r) s2 := by rw [evF]
@[simp] theorem ve_slc {lo hi : Oe} : evF C (.slc a lo hi) s = (opdV a s (evF C a s)).bind fun x s1 => (evOV C lo s1).bind fun l s2 => (evOV C hi s2).bind fun h s3 => optV (rdO s3 x) fun v => optV (V.slc v l h) fun r => .ok (true, r) s3 := by rw [evF]
@[simp] theorem ve_ev2 {lo : Oe} : evF C (.ev2 a lo) s = (opdV a s (evF C a s)).bind fun x s1 => (evOV C lo s1).bind fun l s2 => optV (rdO s2 x) fun v => optV (V.ev2V v l) fun r => .ok (true, r) s2 := by rw [evF]
@[simp] theorem ve_rev : evF C (.rev a) s = (opdV a s (evF C a s)).bind fun x s1 => optV (rdO s1 x) fun v => optV (V.rev v) fun r => .ok (true, r) s1 := by rw [evF]
@[simp] theorem ve_fld {f : Nat} : evF C (.fld a f) s = (opdV a s (evF C a s)).bind fun x s1 => optV (rdO s1 x) fun v => optV (V.fld C.flds f v) fun r => .ok (false, r) s1 := by rw [evF]
@[simp] theorem ve_call {f : Nat} : evF C (.call f l) s = (evLs C (C.bor f) l s).bind fun os s1 => optV (rdOs s1 os) fun vs => (C.call f vs).to s1 := by rw [evF]
@[simp] theorem ve_make {f : Nat} : evF C (.make f l) s = (evLs C (C.borC f) l s).bind fun os s1 => optV (rdOs s1 os) fun vs => (C.make f vs).to s1 := by rw [evF]
@[simp] theorem ve_meth {n : Nat} : evF C (.meth a n l) s = (evF C a s).bnd fun v s1 => optV ((clsV v).bind fun c => C.mt c n) fun g => (evLs C (C.bor g).tail l s1).bind fun os s2 => optV (rdOs s2 os) fun vs => (C.call g (v :: vs)).to s2 := by rw [evF]
@[simp] theorem ve_lam {f : Nat} {cs : List Nat} : evF C (.lam f cs) s = (capV s cs).bind fun vs s1 => .ok (false, .clo f vs) s1 := by rw [evF]
@[simp] theorem ve_clo {i : Nat} : evF C (.clo i l) s = cloO (fun f cs => (evAs C l s).bind fun vs s1 => (C.call f (vs ++ cs)).to s1) s[i]? := by rw [evF]; rfl
@[simp] theorem cloO_s {f : Nat → List V → VR (Bool × V)} {n : Nat} {cs : List V} {q : Kd} : cloO f (some (some (q, .clo n cs))) = f n cs := id rfl
@[simp] theorem ve_bi {q : Bi} : evF C (.bi q l) s = (evBs C l s).bind fun os s1 => optV (rdOs s1 os) fun vs => optV (V.bi q vs) fun r => .ok (true, r) s1 := by rw [evF]
@[simp] theorem ve_bm {q : Bm} : evF C (.bm a q l) s = (opdV a s (evF C a s)).bind fun x s1 => optV ((rdO s1 x).bind V.bk) fun k => if bmK q k then (evAs C l s1).bind fun ws s2 => if (rdO s2 x).bind V.bk = some k then bmOp q x ws s2 else .no else .no := by rw [evF]
@[simp] theorem ve_isi {q : List Ty} : evF C (.isi a q) s = (opdV a s (evF C a s)).bind fun x s1 => optV (rdO s1 x) fun v => optV v.tag fun g => .ok (false, .bl (q.any fun t => tagIs C.sub C.vale g t)) s1 := by rw [evF]
def lockO (i : Nat) : Option (Option (Kd × V)) → Option Nat
  | some (some (.ow, _)) => some i
  | _ => none
@[simp] theorem lockO_ow {i : Nat} : lockO i (some (some (.ow, v))) = some i := id rfl
@[simp] theorem lockO_sh {i : Nat} : lockO i (some (some (.sh, v))) = none := id rfl
@[simp] theorem lockO_bo {i : Nat} : lockO i (some (some (.bo, v))) = none := id rfl
@[simp] theorem lockI_rng : lockI (.rng a b) s = none := id rfl
@[simp] theorem lockI_zip2 : lockI (.zip2 a b) s = none := id rfl
@[simp] theorem lockI_zip3 : lockI (.zip3 a b c) s = none := id rfl
@[simp] theorem lockI_items : lockI (.items a) s = none := id rfl
@[simp] theorem lockI_rvs : lockI (.rvs a) s = none := id rfl
@[simp] theorem lockI_var {i : Nat} : lockI (.seq (.var i)) s = lockO i s[i]? := by unfold lockI lockO; rfl
@[simp] theorem lockI_cst {d : D} : lockI (.seq (.cst d)) s = none := id rfl
@[simp] theorem lockI_op {o : O2} : lockI (.seq (.op o a b)) s = none := id rfl
@[simp] theorem lockI_ife  : lockI (.seq (.ife c a b)) s = none := id rfl
@[simp] theorem lockI_tup  : lockI (.seq (.tup l)) s = none := id rfl
@[simp] theorem lockI_lst  : lockI (.seq (.lst l)) s = none := id rfl
@[simp] theorem lockI_idx  : lockI (.seq (.idx a b)) s = none := id rfl
@[simp] theorem lockI_slc {lo hi : Oe} : lockI (.seq (.slc a lo hi)) s = none := id rfl
@[simp] theorem lockI_ev2 {lo : Oe} : lockI (.seq (.ev2 a lo)) s = none := id rfl
@[simp] theorem lockI_rev  : lockI (.seq (.rev a)) s = none := id rfl
@[simp] theorem lockI_fld {f : Nat} : lockI (.seq (.fld a f)) s = none := id rfl
@[simp] theorem lockI_call {f : Nat} : lockI (.seq (.call f l)) s = none := id rfl
@[simp] theorem lockI_meth {f : Nat} : lockI (.seq (.meth a f l)) s = none := id rfl
@[simp] theorem lockI_bi {q : Bi} : lockI (.seq (.bi q l)) s = none := id rfl
@[simp] theorem lockI_bm {q : Bm} : lockI (.seq (.bm a q l)) s = none := id rfl
@[simp] theorem lockI_lc {o : List Nat} {it : It} {tg : Tg} {q : Oe} : lockI (.seq (.lc o it tg q e)) s = none := id rfl
@[simp] theorem lockS_n : lockS none s = s := id rfl
def lkO (i : Nat) (s : VSto) : Option (Option (Kd × V)) → VSto
  | some (some (.ow, v)) => s.set i (some (.lk, v))
  | _ => s
@[simp] theorem lockS_s {i : Nat} : lockS (some i) s = lkO i s s[i]? := by unfold lockS lkO; rfl
@[simp] theorem lkO_ow {i : Nat} : lkO i s (some (some (.ow, v))) = s.set i (some (.lk, v)) := id rfl
def ulO (i : Nat) (s : VSto) : Option (Option (Kd × V)) → VSto
  | some (some (.lk, v)) => s.set i (some (.ow, v))
  | some (some (.bo, _)) => s.set i none
  | _ => s
@[simp] theorem unlockS_n : unlockS none s = s := id rfl
@[simp] theorem unlockS_s {i : Nat} : unlockS (some i) s = ulO i s s[i]? := by unfold unlockS ulO; rfl
@[simp] theorem ulO_lk {i : Nat} : ulO i s (some (some (.lk, v))) = s.set i (some (.ow, v)) := id rfl
@[simp] theorem ulO_sh {i : Nat} : ulO i s (some (some (.sh, v))) = s := id rfl
@[simp] theorem ulO_ow {i : Nat} : ulO i s (some (some (.ow, v))) = s := id rfl
@[simp] theorem vunl_ok {α : Type} {o : Option Nat} {x : α} : VR.unlock o (.ok x s) = .ok x (unlockS o s) := id rfl
@[simp] theorem vunl_ex {α : Type} {o : Option Nat} : VR.unlock (α := α) o (.ex k s) = .ex k (unlockS o s) := id rfl
@[simp] theorem vunl_n {α : Type} {x : VR α} : VR.unlock none x = x := by cases x <;> rfl
@[simp] theorem vsul_nx {o : Option Nat} : VS.unlock o (.nx s) = .nx (unlockS o s) := id rfl
@[simp] theorem vsul_rt {o : Option Nat} {fr : Bool} : VS.unlock o (.rt fr v) = .rt fr v := id rfl
@[simp] theorem vsul_ex {o : Option Nat} : VS.unlock o (.ex k s) = .ex k (unlockS o s) := id rfl
@[simp] theorem vsul_n {x : VS} : VS.unlock none x = x := by cases x <;> rfl
@[simp] theorem ve_lc {own : List Nat} {it : It} {tg : Tg} {q : Oe} : evF C (.lc own it tg q e) s = ((evIV C it (lockS (lockI it s) s)).bind fun vs s1 => (lcLoopV (own ++ tgN tg) tg (evCV C q) (evF C e) vs [] (wipeV s1 (own ++ tgN tg))).bind fun acc s2 => .ok (true, .lst acc) (restV s1 s2 (own ++ tgN tg))).unlock (lockI it s) := by rw [evF]
def owO : Option (Option (Kd × V)) → Option (Bool × List (D × V))
  | some (some (.ow, .dct t kvs)) => if kvs.all (fun p => keyOk false p.1 || keyOk true p.1) then some (t, kvs) else none
  | _ => none
@[simp] theorem ownD_s {i : Nat} : ownD s i = owO s[i]? := by unfold ownD owO; rfl
@[simp] theorem owO_ow {t : Bool} {kvs : List (D × V)} (h : kvs.all (fun p => keyOk false p.1 || keyOk true p.1) = true) : owO (some (some (.ow, .dct t kvs))) = some (t, kvs) := by
  show (if kvs.all (fun p => keyOk false p.1 || keyOk true p.1) then _ else _) = _
  rw [if_pos h]
def ulIO (i : Nat) (s : VSto) : Option (Option (Kd × V)) → VSto
  | some (some (.lk, .ldc t kvs)) => s.set i (some (.ow, .dct t kvs))
  | some (some (.lk, _)) => s.set i none
  | some (some (.bo, _)) => s.set i none
  | _ => s
@[simp] theorem ulkI_s {i : Nat} : ulkI i s = ulIO i s s[i]? := by unfold ulkI ulIO; rfl
@[simp] theorem ulIO_lk {i : Nat} {t : Bool} {kvs : List (D × V)} : ulIO i s (some (some (.lk, .ldc t kvs))) = s.set i (some (.ow, .dct t kvs)) := id rfl
@[simp] theorem vulI_ok {α : Type} {i : Nat} {x : α} : VR.ulkI i (.ok x s) = .ok x (ulkI i s) := id rfl
@[simp] theorem vsuI_nx {i : Nat} : VS.ulkI i (.nx s) = .nx (ulkI i s) := id rfl
@[simp] theorem vsuI_rt {i : Nat} {fr : Bool} : VS.ulkI i (.rt fr v) = .rt fr v := id rfl
@[simp] theorem ve_lcI {own : List Nat} {i : Nat} {tg : Tg} {q : Oe} : evF C (.lcI own i tg q e) s = optV (ownD s i) fun p => ((lcLoopV (own ++ tgN tg) tg (evCV C q) (evF C e) (itemsL p.2) [] (wipeV (s.set i (some (.lk, .ldc p.1 p.2))) (own ++ tgN tg))).bind fun acc s2 => .ok (true, .lst acc) (restV (s.set i (some (.lk, .ldc p.1 p.2))) s2 (own ++ tgN tg))).ulkI i := by rw [evF]
@[simp] theorem ve_c0 : evCV C .none s = .ok (.bl true) s := by rw [evCV]
@[simp] theorem ve_c1 : evCV C (.some e) s = (evF C e s).bnd fun v s1 => .ok v s1 := by rw [evCV]
@[simp] theorem ve_o0 : evOV C .none s = .ok none s := by rw [evOV]
@[simp] theorem ve_o1 : evOV C (.some e) s = (evF C e s).bnd fun v s1 => intV s1 v := by rw [evOV]
@[simp] theorem ve_as0 : evAs C .nil s = .ok [] s := by rw [evAs]
@[simp] theorem ve_as1 : evAs C (.cons e l) s = (evF C e s).bnd fun v s1 => (evAs C l s1).bind fun vs s2 => .ok (v :: vs) s2 := by rw [evAs]
@[simp] theorem ve_ls0 {bs : List Bool} : evLs C bs .nil s = .ok [] s := by rw [evLs]
@[simp] theorem ve_ls1 {bs : List Bool} : evLs C bs (.cons e l) s = (argV (bs.headD false) e s (evF C e s)).bind fun v s1 => (evLs C bs.tail l s1).bind fun vs s2 => .ok (v :: vs) s2 := by rw [evLs]
@[simp] theorem ve_bs0 : evBs C .nil s = .ok [] s := by rw [evBs]
@[simp] theorem ve_bs1 : evBs C (.cons e l) s = (opdV e s (evF C e s)).bind fun v s1 => (evBs C l s1).bind fun vs s2 => .ok (v :: vs) s2 := by rw [evBs]
@[simp] theorem ve_kv0 {t : Bool} : evKVV C t .nil s = .ok [] s := by rw [evKVV]
@[simp] theorem ve_kv1 {t : Bool} {q : Kv} : evKVV C t (.cons a b q) s = (evF C a s).bnd fun x s1 => (evF C b s1).bnd fun y s2 => (evKVV C t q s2).bind fun r s3 => optV (x.key t) fun d => .ok ((d, y) :: r) s3 := by rw [evKVV]
@[simp] theorem ve_seq : evIV C (.seq e) s = (itV e s (evF C e s)).bind fun v s1 => optV (seqV v) fun l => .ok l s1 := by rw [evIV]
@[simp] theorem ve_rng : evIV C (.rng a b) s = (evF C a s).bnd fun v s1 => (evF C b s1).bnd fun w s2 => rngR s2 v w := by rw [evIV]
@[simp] theorem ve_zip2 : evIV C (.zip2 a b) s = (itV a s (evF C a s)).bind fun v s1 => (itV b s1 (evF C b s1)).bind fun w s2 => optV (zipV v) fun x => optV (zipV w) fun y => .ok ((x.zip y).map fun z => .tup [z.1, z.2]) s2 := by rw [evIV]
@[simp] theorem ve_zip3 : evIV C (.zip3 a b c) s = (itV a s (evF C a s)).bind fun v s1 => (itV b s1 (evF C b s1)).bind fun w s2 => (itV c s2 (evF C c s2)).bind fun u s3 => optV (zipV v) fun x => optV (zipV w) fun y => optV (zipV u) fun z => .ok ((x.zip (y.zip z)).map fun z => .tup [z.1, z.2.1, z.2.2]) s3 := by rw [evIV]
@[simp] theorem ve_items : evIV C (.items e) s = (itV e s (evF C e s)).bind fun v s1 => optV (itemsV v) fun l => .ok l s1 := by rw [evIV]
@[simp] theorem ve_rvs : evIV C (.rvs e) s = (itV e s (evF C e s)).bind fun v s1 => optV (lstV v) fun l => .ok l.reverse s1 := by rw [evIV]
@[simp] theorem rngR_i {i j : Int} : rngR s (.int i) (.int j) = if rngOk i j then .ok (rngV i j) s else .no := id rfl
@[simp] theorem seqV_tup {vs : List V} : seqV (.tup vs) = some vs := id rfl
@[simp] theorem seqV_rol {vs : List V} : seqV (.rol vs) = some vs := id rfl
@[simp] theorem seqV_lst {vs : List V} : seqV (.lst vs) = some vs := id rfl
@[simp] theorem seqV_str {x : List Nat} : seqV (.str x) = some (x.map fun c => .str [c]) := id rfl
@[simp] theorem lstV_rol {vs : List V} : lstV (.rol vs) = some vs := id rfl
@[simp] theorem lstV_lst {vs : List V} : lstV (.lst vs) = some vs := id rfl
@[simp] theorem zipV_str {x : List Nat} : zipV (.str x) = some (x.map fun c => .str [c]) := id rfl
@[simp] theorem zipV_rol {vs : List V} : zipV (.rol vs) = some vs := id rfl
@[simp] theorem zipV_lst {vs : List V} : zipV (.lst vs) = some vs := id rfl
@[simp] theorem bmOp_v {q : Bm} {ws : List V} : bmOp q (.v v) ws s = optV (V.bm q v ws) fun r => .ok (decide (q = .split), r) s := id rfl
@[simp] theorem bmOp_sl {q : Bm} {i : Nat} {ws : List V} : bmOp q (.sl i) ws s = bmO' q i ws s s[i]? := by
  show bmSl q i ws s = _
  unfold bmSl bmO'
  cases s[i]? with
  | none => rfl
  | some o => cases o with
    | none => rfl
    | some p =>
      obtain ⟨k, x⟩ := p
      simp only
      cases V.bm q x ws with
      | some r => rfl
      | none =>
        unfold bmAny bmMut
        simp only
        cases V.bmO q x ws with
        | none => split <;> rfl
        | some p => rfl
@[simp] theorem bmO'_s {q : Bm} {i : Nat} {ws : List V} {k : Kd} : bmO' q i ws s (some (some (k, v))) = bmAny q s (bmMut q i s k (V.bmO q v ws)) (V.bm q v ws) := id rfl
@[simp] theorem bmAny_s {q : Bm} {e : VR (Bool × V)} : bmAny q s e (some v) = .ok (decide (q = .split), v) s := id rfl
@[simp] theorem bmAny_n {q : Bm} {e : VR (Bool × V)} : bmAny q s e none = e := id rfl
@[simp] theorem bmMut_s {q : Bm} {i : Nat} : bmMut q i s .ow (some (v, w)) = .ok (false, v) (s.set i (some (.ow, w))) := id rfl
@[simp] theorem bk_str {x : List Nat} : V.bk (.str x) = some .s := id rfl
@[simp] theorem bk_lst {x : List V} : V.bk (.lst x) = some .l := id rfl
@[simp] theorem bk_ldc {t : Bool} {x : List (D × V)} : V.bk (.ldc t x) = some .d := id rfl
@[simp] theorem bk_dct {t : Bool} {x : List (D × V)} : V.bk (.dct t x) = some .d := id rfl
@[simp] theorem vx_set {i : Nat} : exV C (.set i e) s = (evF C e s).toS fun p s1 => .nx (s1.set i (some (kdOf p.1 p.2, p.2))) := by rw [exV]
@[simp] theorem vx_unp {t : Tg} : exV C (.unp t e) s = (evF C e s).toSb fun v s1 => optVS (bindTV t v s1) fun s2 => .nx s2 := by rw [exV]
@[simp] theorem vx_ex : exV C (.ex e) s = (evF C e s).toSb fun _ s1 => .nx s1 := by rw [exV]
@[simp] theorem vx_ret : exV C (.ret e) s = retV e s (evF C e s) := by rw [exV]
@[simp] theorem vx_retN : exV C .retN s = .rt false .non := by rw [exV]
@[simp] theorem vx_ifs {p q : Ss} : exV C (.ifs c p q) s = (evF C c s).toSb fun v s1 => iteVS v (exVs C p s1) (exVs C q s1) := by rw [exV]
@[simp] theorem vx_whl {p : Ss} : exV C (.whl c p) s = whLoopV (evF C c) (exVs C p) C.fuel s := by rw [exV]
@[simp] theorem vx_frs {tg : Tg} {it : It} {p : Ss} : exV C (.frs tg it p) s = ((evIV C it (lockS (lockI it s) s)).toS fun vs s1 => frLoopV tg (exVs C p) vs s1).unlock (lockI it s) := by rw [exV]
@[simp] theorem vx_frsI {tg : Tg} {i : Nat} {p : Ss} : exV C (.frsI tg i p) s = optVS (ownD s i) fun q => (frLoopV tg (exVs C p) (itemsL q.2) (s.set i (some (.lk, .ldc q.1 q.2)))).ulkI i := by rw [exV]
@[simp] theorem vx_brk : exV C .brk s = .bk s := by rw [exV]
@[simp] theorem vx_cnt : exV C .cnt s = .ct s := by rw [exV]
@[simp] theorem vx_pss : exV C .pss s = .nx s := by rw [exV]
@[simp] theorem vx_rse {n : Nat} : exV C (.rse n) s = .ex n s := by rw [exV]
@[simp] theorem vx_try {p q : Ss} {n : Nat} {sl : Option Nat} : exV C (.try_ p n sl q) s = tryV C n sl (exVs C q) (exVs C p s) := by rw [exV]
@[simp] theorem tryV_ex {n j : Nat} {sl : Option Nat} {h : VSto → VS} : tryV C n sl h (.ex j s) = if C.sub j j then (if C.sub j n then handV sl (h (excX sl j s)) else .ex j s) else .no := id rfl
@[simp] theorem tryV_nx {n : Nat} {sl : Option Nat} {h : VSto → VS} : tryV C n sl h (.nx s) = .nx s := id rfl
@[simp] theorem tryV_rt {n : Nat} {sl : Option Nat} {h : VSto → VS} {fr : Bool} : tryV C n sl h (.rt fr v) = .rt fr v := id rfl
@[simp] theorem handV_nx {sl : Option Nat} : handV sl (.nx s) = .nx (unsetX sl s) := id rfl
@[simp] theorem handV_rt {sl : Option Nat} {fr : Bool} : handV sl (.rt fr v) = .rt fr v := id rfl
@[simp] theorem handV_ex {sl : Option Nat} {n : Nat} : handV sl (.ex n s) = .ex n s := id rfl
@[simp] theorem unsetX_n : unsetX none s = s := id rfl
@[simp] theorem unsetX_s {i : Nat} : unsetX (some i) s = s.set i none := id rfl
@[simp] theorem excX_n {n : Nat} : excX none n s = s := id rfl
@[simp] theorem excX_s {i n : Nat} : excX (some i) n s = s.set i (some (.sh, .exc n)) := id rfl
@[simp] theorem vx_setI {j : Nat} {i : E} : exV C (.setI (.var j) i e) s = (evF C e s).toSb fun v s1 => optVS (slotV s1 j) fun _ => (evF C i s1).toSb fun k s2 => stoO s2 j k v s2[j]? := by rw [exV]; rfl
@[simp] theorem vx_setIf {f : Nat} {i : E} : exV C (.setI (.fld a f) i e) s = (evF C e s).toSb fun _ _ => .no := by rw [exV]; intro j h; cases h
@[simp] theorem stoO_s {j : Nat} {u : V} : stoO s j v w (some (some (.ow, u))) = optVS (V.storeI u v w) fun x' => .nx (s.set j (some (.ow, x'))) := id rfl
def stoFO (s : VSto) (j f : Nat) (v : V) : Option (Option (Kd × V)) → VS
  | some (some (.ow, .obj c fs)) => if fs.length < 1000 then .nx (s.set j (some (.ow, .obj c (putV f v fs)))) else .no
  | _ => .no
@[simp] theorem vx_setF {j f : Nat} : exV C (.setF (.var j) f e) s = (evF C e s).toSb fun v s1 => stoFO s1 j f v s1[j]? := by rw [exV]; rfl
@[simp] theorem stoFO_s {j f n : Nat} {fs : List (Nat × V)} : stoFO s j f v (some (some (.ow, .obj n fs))) = if fs.length < 1000 then .nx (s.set j (some (.ow, .obj n (putV f v fs)))) else .no := id rfl
@[simp] theorem putV_n {f : Nat} : putV f v [] = [(f, v)] := id rfl
@[simp] theorem putV_c {f g : Nat} {r : List (Nat × V)} {x : V} : putV f v ((g, x) :: r) = if g = f then (g, v) :: r else (g, x) :: putV f v r := id rfl
@[simp] theorem vx_cal {b : Ss} : exV C (.cal b) s = (exVs C b s).cal := by rw [exV]
@[simp] theorem cal_nx : VS.cal (.nx s) = .nx s := id rfl
@[simp] theorem cal_rt {fr : Bool} : VS.cal (.rt fr v) = .rt fr v := id rfl
@[simp] theorem vx_ndef {i f : Nat} {cs : List Nat} : exV C (.ndef i f cs) s = (capV s cs).toS fun vs s1 => .nx (s1.set i (some (.sh, .clo f vs))) := by rw [exV]
@[simp] theorem capV_n : capV s [] = .ok [] s := id rfl
@[simp] theorem capV_c {j : Nat} {r : List Nat} : capV s (j :: r) = (varV s j).bnd fun v s1 => (capV s1 r).bind fun vs s2 => .ok (v :: vs) s2 := id rfl
@[simp] theorem vx_nil : exVs C .nil s = .nx s := by rw [exVs]
@[simp] theorem vx_cons {x : S} {r : Ss} : exVs C (.cons x r) s = (exV C x s).seq fun s' => exVs C r s' := by rw [exVs]
@[simp] theorem bindTV_nm {i : Nat} : bindTV (.nm i) v s = some (s.set i (some (.sh, v))) := by rw [bindTV]
@[simp] theorem bindTV_tp {l : List Tg} {vs : List V} : bindTV (.tp l) (.tup vs) s = bindTsV l vs s := by rw [bindTV]
@[simp] theorem bindTV_tpl {l : List Tg} {vs : List V} : bindTV (.tp l) (.lst vs) s = bindTsV l vs s := by rw [bindTV]
@[simp] theorem bindTsV_n : bindTsV [] [] s = some s := by rw [bindTsV]
@[simp] theorem bindTsV_c {t : Tg} {l : List Tg} {vs : List V} : bindTsV (t :: l) (v :: vs) s = (bindTV t v s).bind fun s' => bindTsV l vs s' := by rw [bindTsV]
@[simp] theorem tgN_nm {i : Nat} : tgN (.nm i) = [i] := id rfl
@[simp] theorem tgN_tp {l : List Tg} : tgN (.tp l) = tgNs l := by rw [tgN]
@[simp] theorem tgNs_n : tgNs [] = [] := id rfl
@[simp] theorem tgNs_c {t : Tg} {l : List Tg} : tgNs (t :: l) = tgN t ++ tgNs l := by rw [tgNs]
@[simp] theorem wipeV_n : wipeV s [] = s := id rfl
@[simp] theorem wipeV_c {i : Nat} {r : List Nat} : wipeV s (i :: r) = (wipeV s r).set i none := id rfl
def restO (s1 : VSto) (i : Nat) : Option (Option (Kd × V)) → VSto
  | some (some (.sh, v)) => s1.set i (some (.sh, v))
  | _ => s1
@[simp] theorem restV_n {s0 : VSto} : restV s0 s [] = s := id rfl
@[simp] theorem restV_c {s0 : VSto} {i : Nat} {r : List Nat} : restV s0 s (i :: r) = restO (restV s0 s r) i s0[i]? := by
  show (match s0[i]? with | some (some (.sh, v)) => (restV s0 s r).set i (some (.sh, v)) | _ => restV s0 s r) = _
  cases s0[i]? with
  | none => rfl
  | some o => cases o with
    | none => rfl
    | some p => obtain ⟨k, x⟩ := p; cases k <;> rfl
@[simp] theorem restO_none {i : Nat} : restO s i (some none) = s := id rfl
@[simp] theorem restO_sh {i : Nat} : restO s i (some (some (.sh, v))) = s.set i (some (.sh, v)) := id rfl
@[simp] theorem restO_n {i : Nat} : restO s i none = s := id rfl
@[simp] theorem restO_lk {i : Nat} : restO s i (some (some (.lk, v))) = s := id rfl
@[simp] theorem restO_ow {i : Nat} : restO s i (some (some (.ow, v))) = s := id rfl
@[simp] theorem loopKV_nx {f : VSto → VS} : loopKV (.nx s) f = f s := id rfl
@[simp] theorem loopKV_ct {f : VSto → VS} : loopKV (.ct s) f = f s := id rfl
@[simp] theorem loopKV_bk {f : VSto → VS} : loopKV (.bk s) f = .nx s := id rfl
@[simp] theorem loopKV_rt {f : VSto → VS} {fr : Bool} : loopKV (.rt fr v) f = .rt fr v := id rfl
@[simp] theorem loopKV_ex {f : VSto → VS} : loopKV (.ex k s) f = .ex k s := id rfl
@[simp] theorem frV_n {tg : Tg} {f : VSto → VS} : frLoopV tg f [] s = .nx s := by rw [frLoopV]
@[simp] theorem frV_c {tg : Tg} {f : VSto → VS} {vs : List V} : frLoopV tg f (v :: vs) s = optVS (bindTV tg v s) fun s' => loopKV (f s') fun s2 => frLoopV tg f vs s2 := by rw [frLoopV]
@[simp] theorem lcV_n {W : List Nat} {tg : Tg} {c : VSto → VR V} {e : VSto → VR (Bool × V)} {acc : List V} : lcLoopV W tg c e [] acc s = .ok acc s := by rw [lcLoopV]
@[simp] theorem lcV_c {W : List Nat} {tg : Tg} {c : VSto → VR V} {e : VSto → VR (Bool × V)} {acc vs : List V} : lcLoopV W tg c e (v :: vs) acc s = optV (bindTV tg v s) fun s' => (c s').calm.bind fun b s1 => iteV b
      ((e s1).calm.bnd fun w s2 => if acc.length < LIM then lcLoopV W tg c e vs (acc ++ [w]) (wipeV s2 W) else .no)
      (lcLoopV W tg c e vs acc (wipeV s1 W)) := by rw [lcLoopV]
@[simp] theorem finV_nx : finV (.nx s) = .ok false .non := id rfl
@[simp] theorem finV_rt {fr : Bool} : finV (.rt fr v) = .ok fr v := id rfl
@[simp] theorem finV_ex {n : Nat} : finV (.ex n s) = .ex n := id rfl
@[simp] theorem crcalm_ok {fr : Bool} : CR.calm (.ok fr v) = .ok fr v := id rfl
@[simp] theorem vctx_call : (vctx P O k c1 c2).call = c1 := id rfl
@[simp] theorem vctx_make : (vctx P O k c1 c2).make = mkV P O k c2 := id rfl
@[simp] theorem vctx_bor : (vctx P O k c1 c2).bor = O.bor := id rfl
@[simp] theorem vctx_borC : (vctx P O k c1 c2).borC = borC P O := id rfl
@[simp] theorem vctx_mt : (vctx P O k c1 c2).mt = P.mt := id rfl
@[simp] theorem vctx_sub : (vctx P O k c1 c2).sub = P.sub := id rfl
@[simp] theorem vctx_vale : (vctx P O k c1 c2).vale = P.vale := id rfl
@[simp] theorem vctx_flds : (vctx P O k c1 c2).flds = P.flds := id rfl
@[simp] theorem vctx_fuel : (vctx P O k c1 c2).fuel = P.fuel := id rfl
@[simp] theorem resC_ok {vs : List V} {n : Nat} : resC (.ok vs s) n = .ok false (.ins n vs) := id rfl
@[simp] theorem params_n {bs : List Bool} : paramsV bs [] = [] := id rfl
@[simp] theorem params_c {bs : List Bool} {vs : List V} : paramsV bs (v :: vs) = some (if bs.headD false then .bo else .sh, v) :: paramsV bs.tail vs := id rfl
@[simp] theorem kdOf_f : kdOf false v = .sh := id rfl
@[simp] theorem kdOf_lst {vs : List V} : kdOf true (.lst vs) = .ow := id rfl
@[simp] theorem kdOf_dct {t : Bool} {vs : List (D × V)} : kdOf true (.dct t vs) = .ow := id rfl
@[simp] theorem kdOf_int {i : Int} : kdOf true (.int i) = .sh := id rfl
@[simp] theorem kdOf_bl {z : Bool} : kdOf true (.bl z) = .sh := id rfl
@[simp] theorem kdOf_str {x : List Nat} : kdOf true (.str x) = .sh := id rfl
@[simp] theorem kdOf_tup {x : List V} : kdOf true (.tup x) = .sh := id rfl
@[simp] theorem kdOf_non : kdOf true .non = .sh := id rfl
@[simp] theorem kdOf_ins {n : Nat} {x : List V} : kdOf true (.ins n x) = .sh := id rfl
end
section
variable {i j : Int} {x y : List Nat} {vs ws : List V} {v w : V} {z u : Bool}
@[simp] theorem vo_add : V.op .add (.int i) (.int j) = some (.int (i + j)) := id rfl
@[simp] theorem vo_sub : V.op .sub (.int i) (.int j) = some (.int (i - j)) := id rfl
@[simp] theorem vo_adds (h : x.length + y.length ≤ LIM) : V.op .add (.str x) (.str y) = some (.str (x ++ y)) := by
  show V.ofR (if x.length + y.length ≤ LIM then .ok (.str (x ++ y)) [] else .no) = _
  rw [if_pos h]; rfl
@[simp] theorem vo_addl (h : vs.length + ws.length ≤ LIM) : V.op .add (.lst vs) (.lst ws) = some (.lst (vs ++ ws)) := by
  show (if vs.length + ws.length ≤ LIM then some (V.lst (vs ++ ws)) else none) = _
  rw [if_pos h]
@[simp] theorem vo_mul (h : (small i || small j) = true) : V.op .mul (.int i) (.int j) = some (.int (i * j)) := by
  show V.ofR (if small i || small j then .ok (.int (i * j)) [] else .no) = _
  rw [if_pos h]; rfl
@[simp] theorem vo_fdiv (h : 0 < j) (h2 : j < 1073741824) : V.op .fdiv (.int i) (.int j) = some (.int (i / j)) := by
  show V.ofR (if 0 < j ∧ j < 1073741824 then .ok (.int (i / j)) [] else .no) = _
  rw [if_pos ⟨h, h2⟩]; rfl
@[simp] theorem vo_mod (h : 0 < j) : V.op .mod (.int i) (.int j) = some (.int (i % j)) := by
  show V.ofR (if 0 < j then .ok (.int (i % j)) [] else .no) = _
  rw [if_pos h]; rfl
theorem vo_shl (h0 : 0 ≤ j) (h : j ≤ 1000000) (h2 : i.natAbs < 18446744073709551616) : V.op .shl (.int i) (.int j) = some (.int (i * 2 ^ j.toNat)) := by
  show V.ofR (if 0 ≤ j ∧ j ≤ 1000000 ∧ i.natAbs < 18446744073709551616 then .ok (.int (i * 2 ^ j.toNat)) [] else .no) = _
  rw [if_pos ⟨h0, h, h2⟩]; rfl
theorem vo_shr (h0 : 0 ≤ j) : V.op .shr (.int i) (.int j) = some (.int (i / 2 ^ j.toNat)) := by
  show V.ofR (if 0 ≤ j then .ok (.int (i / 2 ^ j.toNat)) [] else .no) = _
  rw [if_pos h0]; rfl
@[simp] theorem vo_shr_nat {p k : Nat} : V.op .shr (.int (p : Int)) (.int (k : Int)) = some (.int ((p >>> k : Nat) : Int)) := by
  rw [vo_shr (Int.natCast_nonneg k), Int.toNat_natCast, Nat.shiftRight_eq_div_pow]
  norm_cast
@[simp] theorem vo_and {p k : Nat} : V.op .band (.int (p : Int)) (.int (k : Int)) = some (.int ((p &&& k : Nat) : Int)) := by
  show V.ofR (match bAnd (p : Int) (k : Int) with | some q => .ok (.int q) [] | none => .no) = _
  unfold bAnd
  rw [if_pos (Int.natCast_nonneg p), if_pos (Int.natCast_nonneg k)]
  rfl
@[simp] theorem vo_or {p k : Nat} : V.op .bor (.int (p : Int)) (.int (k : Int)) = some (.int ((p ||| k : Nat) : Int)) := by
  show V.ofR (if 0 ≤ (p : Int) ∧ 0 ≤ (k : Int) then .ok (.int ((Int.toNat p ||| Int.toNat k : Nat) : Int)) [] else match bAnd (-(p : Int) - 1) (-(k : Int) - 1) with | some x => .ok (.int (-x - 1)) [] | none => .no) = _
  rw [if_pos ⟨Int.natCast_nonneg p, Int.natCast_nonneg k⟩]
  rfl
@[simp] theorem vo_xor {p k : Nat} : V.op .bxor (.int (p : Int)) (.int (k : Int)) = some (.int ((p ^^^ k : Nat) : Int)) := by
  show V.ofR (if 0 ≤ (p : Int) ∧ 0 ≤ (k : Int) then .ok (.int ((Int.toNat p ^^^ Int.toNat k : Nat) : Int)) [] else .no) = _
  rw [if_pos ⟨Int.natCast_nonneg p, Int.natCast_nonneg k⟩]
  rfl
@[simp] theorem vc_eqI : V.cmp .eq (.int i) (.int j) = some (decide (i = j)) := by
  show cmp2 .eq (.int i) (.int j) [] = _
  simp only [cmp2, eqD, scal, if_true, D.beq]; rw [Bool.beq_eq_decide_eq]
@[simp] theorem vc_neI : V.cmp .ne (.int i) (.int j) = some (!decide (i = j)) := by
  show cmp2 .ne (.int i) (.int j) [] = _
  simp only [cmp2, eqD, scal, if_true, D.beq]; rw [Bool.beq_eq_decide_eq]; rfl
@[simp] theorem vc_ltI : V.cmp .lt (.int i) (.int j) = some (decide (i < j)) := id rfl
@[simp] theorem vc_leI : V.cmp .le (.int i) (.int j) = some (decide (i ≤ j)) := id rfl
@[simp] theorem vc_gtI : V.cmp .gt (.int i) (.int j) = some (decide (j < i)) := id rfl
@[simp] theorem vc_geI : V.cmp .ge (.int i) (.int j) = some (decide (j ≤ i)) := id rfl
@[simp] theorem vc_ltS : V.cmp .lt (.str x) (.str y) = some (decide (x < y)) := id rfl
@[simp] theorem vc_eqS : V.cmp .eq (.str x) (.str y) = some (decide (x = y)) := by
  show cmp2 .eq (.str x) (.str y) [] = _
  simp only [cmp2, eqD, scal, if_true, D.beq]; rw [Bool.beq_eq_decide_eq]
@[simp] theorem vc_neS : V.cmp .ne (.str x) (.str y) = some (!decide (x = y)) := by
  show cmp2 .ne (.str x) (.str y) [] = _
  simp only [cmp2, eqD, scal, if_true, D.beq]; rw [Bool.beq_eq_decide_eq]; rfl
@[simp] theorem vc_eqB : V.cmp .eq (.bl z) (.bl u) = some (decide (z = u)) := by cases z <;> cases u <;> rfl
@[simp] theorem vc_neB : V.cmp .ne (.bl z) (.bl u) = some (!decide (z = u)) := by cases z <;> cases u <;> rfl
@[simp] theorem vc_isN : V.cmp .is v .non = some v.isNon := by cases v <;> rfl
@[simp] theorem vc_isnN : V.cmp .isn v .non = some (!v.isNon) := by cases v <;> rfl
@[simp] theorem vc_isB : V.cmp .is (.bl z) (.bl u) = some (decide (z = u)) := by cases z <;> cases u <;> rfl
@[simp] theorem vc_isnB : V.cmp .isn (.bl z) (.bl u) = some (!decide (z = u)) := by cases z <;> cases u <;> rfl
@[simp] theorem vc_in : V.cmp .inn v w = V.inV v w := by cases v <;> cases w <;> rfl
@[simp] theorem vc_nin : V.cmp .nin v w = (V.inV v w).map (!·) := by cases v <;> cases w <;> rfl
@[simp] theorem isNon_non : V.isNon .non = true := id rfl
@[simp] theorem isNon_bl : V.isNon (.bl z) = false := id rfl
@[simp] theorem isNon_int : V.isNon (.int i) = false := id rfl
@[simp] theorem isNon_str : V.isNon (.str x) = false := id rfl
@[simp] theorem isNon_tup : V.isNon (.tup vs) = false := id rfl
@[simp] theorem isNon_lst : V.isNon (.lst vs) = false := id rfl
@[simp] theorem isNon_ins {n : Nat} : V.isNon (.ins n vs) = false := id rfl
@[simp] theorem sc_non : V.sc .non = some .non := id rfl
@[simp] theorem sc_bl : V.sc (.bl z) = some (.bl z) := id rfl
@[simp] theorem sc_int : V.sc (.int i) = some (.int i) := id rfl
@[simp] theorem sc_str : V.sc (.str x) = some (.str x) := id rfl
@[simp] theorem in_str : V.inV (.str x) (.str y) = some (findT x y).isSome := id rfl
@[simp] theorem key_str : V.key false (.str x) = some (.str x) := id rfl
@[simp] theorem key_int : V.key false (.int i) = some (.int i) := id rfl
@[simp] theorem vi_tup : V.idx (.tup vs) (.int i) = atI vs i := id rfl
@[simp] theorem vi_rol : V.idx (.rol vs) (.int i) = atI vs i := id rfl
@[simp] theorem vi_lst : V.idx (.lst vs) (.int i) = atI vs i := id rfl
@[simp] theorem vi_str (h : x.length ≤ LIM) : V.idx (.str x) (.int i) = (atI x i).map fun c => .str [c] := by
  show (if x.length ≤ LIM then _ else _) = _
  rw [if_pos h]
@[simp] theorem vs_str (h : x.length ≤ LIM) {lo hi : Option Int} : V.slc (.str x) lo hi = some (.str (cut x lo hi)) := by
  show (if x.length ≤ LIM then _ else _) = _
  rw [if_pos h]
@[simp] theorem vs_tup {lo hi : Option Int} : V.slc (.tup vs) lo hi = some (.tup (cut vs lo hi)) := id rfl
@[simp] theorem vo_addt (h : vs.length + ws.length ≤ LIM) : V.op .add (.tup vs) (.tup ws) = some (.tup (vs ++ ws)) := by
  show (if vs.length + ws.length ≤ LIM then some (V.tup (vs ++ ws)) else none) = _
  rw [if_pos h]
@[simp] theorem vs_rol {lo hi : Option Int} : V.slc (.rol vs) lo hi = some (.lst (cut vs lo hi)) := id rfl
@[simp] theorem vs_lst {lo hi : Option Int} : V.slc (.lst vs) lo hi = some (.lst (cut vs lo hi)) := id rfl
@[simp] theorem v2_lst {i : Int} (h : 0 ≤ i) : V.ev2V (.lst vs) (some i) = some (.lst (ev2 (vs.drop i.toNat))) := by simp only [V.ev2V, h, if_true]
@[simp] theorem vr_lst : V.rev (.lst vs) = some (.lst vs.reverse) := id rfl
def fIxV : List Nat → Nat → Option Nat
  | [], _ => none
  | a :: l, f => if a = f then some 0 else (fIxV l f).map (· + 1)
@[simp] theorem fIxV_n {f : Nat} : fIxV [] f = none := id rfl
@[simp] theorem fIxV_c {f a : Nat} {l : List Nat} : fIxV (a :: l) f = if a = f then some 0 else (fIxV l f).map (· + 1) := id rfl
theorem fIxV_eq (f : Nat) : ∀ l : List Nat, l.findIdx? (· == f) = fIxV l f
  | [] => rfl
  | a :: l => by
    rw [List.findIdx?_cons, fIxV_eq f l, fIxV_c]
    by_cases h : a = f <;> simp [h]
@[simp] theorem vf_ins {fl : Nat → List Nat} {f n : Nat} : V.fld fl f (.ins n vs) = (fIxV (fl n) f).bind fun k => vs[k]? := by
  show ((fl n).findIdx? (· == f)).bind _ = _
  rw [fIxV_eq]
@[simp] theorem vf_obj {fl : Nat → List Nat} {f n : Nat} {fs : List (Nat × V)} : V.fld fl f (.obj n fs) = fs.lookup f := id rfl
@[simp] theorem vl_str (h : x.length ≤ LIM) : V.len (.str x) = some x.length := by
  show (if x.length ≤ LIM then _ else _) = _
  rw [if_pos h]
@[simp] theorem vl_tup : V.len (.tup vs) = some vs.length := id rfl
@[simp] theorem vl_rol : V.len (.rol vs) = some vs.length := id rfl
@[simp] theorem vl_lst : V.len (.lst vs) = some vs.length := id rfl
@[simp] theorem vl_dct {t : Bool} {kvs : List (D × V)} : V.len (.dct t kvs) = some kvs.length := id rfl
@[simp] theorem vb_len : V.bi .len [v] = v.len.map fun (k : Nat) => .int (k : Int) := id rfl
@[simp] theorem vb_list : V.bi .list [.lst vs] = some (.lst vs) := id rfl
@[simp] theorem vb_listr : V.bi .list [.rol vs] = some (.lst vs) := id rfl
@[simp] theorem vb_sorted : V.bi .sorted [.lst vs] = (vs.mapM V.key3).map fun l => .lst ((sort3 l).map V.v3) := id rfl
@[simp] theorem vb_all : V.bi .all [.lst vs] = (V.allB vs).map fun bs => .bl (bs.all id) := id rfl
@[simp] theorem vb_any : V.bi .any [.lst vs] = (V.allB vs).map fun bs => .bl (bs.any id) := id rfl
@[simp] theorem vb_sum : V.bi .sum [.lst vs] = (V.allI vs).map fun ns => .int ns.sum := id rfl
@[simp] theorem vb_min : V.bi .min1 [.lst vs] = ((V.allI vs).bind minI).map .int := id rfl
@[simp] theorem vb_max : V.bi .max1 [.lst vs] = ((V.allI vs).bind maxI).map .int := id rfl
@[simp] theorem vb_abs : V.bi .abs [.int i] = some (.int (if i < 0 then -i else i)) := id rfl
@[simp] theorem vb_int : V.bi .int [.int i] = some (.int i) := id rfl
@[simp] theorem vb_intb : V.bi .int [.bl z] = some (.int (if z then 1 else 0)) := id rfl
@[simp] theorem vb_listS (h : x.length ≤ LIM) : V.bi .listS [.str x] = some (.lst (x.map fun c => .str [c])) := by
  show (if x.length ≤ LIM then _ else _) = _
  rw [if_pos h]
@[simp] theorem allB_n : V.allB [] = some [] := id rfl
@[simp] theorem allB_c : V.allB (.bl z :: vs) = (V.allB vs).map (z :: ·) := id rfl
@[simp] theorem allB_map {α : Type} {f : α → Bool} : ∀ {l : List α}, V.allB (l.map fun a => .bl (f a)) = some (l.map f)
  | [] => rfl
  | a :: l => by rw [List.map_cons, allB_c, allB_map]; rfl
@[simp] theorem allI_map {α : Type} {f : α → Int} : ∀ {l : List α}, V.allI (l.map fun a => .int (f a)) = some (l.map f)
  | [] => rfl
  | a :: l => by
    rw [List.map_cons]
    show (V.allI _).map _ = _
    rw [allI_map]; rfl
@[simp] theorem allI_n : V.allI [] = some [] := id rfl
@[simp] theorem allI_c : V.allI (.int i :: vs) = (V.allI vs).map (i :: ·) := id rfl
@[simp] theorem allS_map {α : Type} {f : α → List Nat} : ∀ {l : List α}, V.allS (l.map fun a => .str (f a)) = some (l.map f)
  | [] => rfl
  | a :: l => by
    rw [List.map_cons]
    show (V.allS _).map _ = _
    rw [allS_map]; rfl
@[simp] theorem vm_find : V.bm .find (.str x) [.str y] = some (.int (findS y x)) := id rfl
@[simp] theorem vm_sindex : V.bm .sindex (.str x) [.str y] = (findT y x).map fun (k : Nat) => .int (k : Int) := id rfl
@[simp] theorem vm_split {c : Nat} (hc : c < 256) (h : x.length + 2 ≤ LIM) : V.bm .split (.str x) [.str [c]] = some (.lst ((splC c [] x).map .str)) := by
  show (if c < 256 ∧ x.length + 2 ≤ LIM then _ else _) = _
  rw [if_pos ⟨hc, h⟩]
@[simp] theorem vm_starts : V.bm .startswith (.str x) [.str y] = some (.bl (y.isPrefixOf x)) := id rfl
@[simp] theorem vm_get {t : Bool} {kvs : List (D × V)} : V.bm .get (.dct t kvs) [v, w] = (v.key t).map fun d => (V.get kvs d).getD w := by cases v <;> rfl
@[simp] theorem vm_getL {t : Bool} {kvs : List (D × V)} : V.bm .get (.ldc t kvs) [v, w] = (v.key t).map fun d => (V.get kvs d).getD w := by cases v <;> rfl
@[simp] theorem vm_app0 : V.bm .append (.lst vs) [v] = none := by cases v <;> rfl
@[simp] theorem vm_pop0 : V.bm .pop (.lst vs) [] = none := id rfl
@[simp] theorem vm_app (h : vs.length < LIM) : V.bmO .append (.lst vs) [v] = some (.non, .lst (vs ++ [v])) := by
  show (if vs.length < LIM then _ else _) = _
  rw [if_pos h]
@[simp] theorem vm_pop : V.bmO .pop (.lst vs) [] = vs.getLast?.map fun e => (e, .lst vs.dropLast) := id rfl
@[simp] theorem bmK_al' : bmK .append .l = true := id rfl
@[simp] theorem bmK_pl' : bmK .pop .l = true := id rfl
@[simp] theorem bmK_cl' : bmK .clear .l = true := id rfl
@[simp] theorem bmK_il' : bmK .index .l = true := id rfl
@[simp] theorem bmK_is' : bmK .sindex .s = true := id rfl
@[simp] theorem bmK_fs' : bmK .find .s = true := id rfl
@[simp] theorem bmK_ss' : bmK .split .s = true := id rfl
@[simp] theorem bmK_ps' : bmK .partition .s = true := id rfl
@[simp] theorem bmK_js' : bmK .join .s = true := id rfl
@[simp] theorem bmK_ts' : bmK .startswith .s = true := id rfl
@[simp] theorem bmK_gd' : bmK .get .d = true := id rfl
@[simp] theorem bmK_qd' : bmK .pop1 .d = false := id rfl
@[simp] theorem bmK_ql' : bmK .pop1 .l = true := id rfl
@[simp] theorem vm_clear0 : V.bm .clear (.lst vs) [] = none := id rfl
@[simp] theorem vm_clear : V.bmO .clear (.lst vs) [] = some (.non, .lst []) := id rfl
@[simp] theorem tag_exc' {n : Nat} : V.tag (.exc n) = some (.own n) := id rfl
@[simp] theorem tag_non' : V.tag .non = some .non := id rfl
@[simp] theorem tag_bl' : V.tag (.bl z) = some .bool := id rfl
@[simp] theorem tag_int' : V.tag (.int i) = some .int := id rfl
@[simp] theorem tag_str' : V.tag (.str x) = some .str := id rfl
@[simp] theorem tag_tup' : V.tag (.tup vs) = some .tuple := id rfl
@[simp] theorem tag_lst' : V.tag (.lst vs) = some .list := id rfl
@[simp] theorem tag_rol' : V.tag (.rol vs) = some .list := id rfl
@[simp] theorem tag_ins' {n : Nat} : V.tag (.ins n vs) = some (.own n) := id rfl
@[simp] theorem tag_obj' {n : Nat} {fs : List (Nat × V)} : V.tag (.obj n fs) = some (.own n) := id rfl
@[simp] theorem st_lst : V.storeI (.lst vs) (.int i) v = (ixN vs.length i).map fun j => .lst (vs.set j v) := id rfl
@[simp] theorem isRef_non : V.isRef .non = false := id rfl
@[simp] theorem isRef_bl : V.isRef (.bl z) = false := id rfl
@[simp] theorem isRef_int : V.isRef (.int i) = false := id rfl
@[simp] theorem isRef_str : V.isRef (.str x) = false := id rfl
@[simp] theorem isRef_tup : V.isRef (.tup vs) = false := id rfl
@[simp] theorem isRef_rol : V.isRef (.rol vs) = false := id rfl
@[simp] theorem isRef_ins {n : Nat} : V.isRef (.ins n vs) = false := id rfl
@[simp] theorem isRef_exc {n : Nat} : V.isRef (.exc n) = false := id rfl
@[simp] theorem isRef_clo {n : Nat} : V.isRef (.clo n vs) = false := id rfl
@[simp] theorem isRef_dct {t : Bool} {kvs : List (D × V)} : V.isRef (.dct t kvs) = true := id rfl
@[simp] theorem isRef_lst : V.isRef (.lst vs) = true := id rfl
end
section
variable {sb : Nat → Nat → Bool} {va : Nat → Bool} {k j : Nat}
@[simp] theorem vt_own_cls : tagIs sb va (.own k) (.cls j) = sb k j := id rfl
@[simp] theorem vt_own_int : tagIs sb va (.own k) .int = false := id rfl
@[simp] theorem vt_own_bool : tagIs sb va (.own k) .bool = false := id rfl
@[simp] theorem vt_own_str : tagIs sb va (.own k) .str = false := id rfl
@[simp] theorem vt_own_list : tagIs sb va (.own k) .list = false := id rfl
@[simp] theorem vt_own_tuple : tagIs sb va (.own k) .tuple = false := id rfl
@[simp] theorem vt_int_cls : tagIs sb va .int (.cls j) = false := id rfl
@[simp] theorem vt_int_int : tagIs sb va .int .int = true := id rfl
@[simp] theorem vt_int_bool : tagIs sb va .int .bool = false := id rfl
@[simp] theorem vt_int_str : tagIs sb va .int .str = false := id rfl
@[simp] theorem vt_int_list : tagIs sb va .int .list = false := id rfl
@[simp] theorem vt_int_tuple : tagIs sb va .int .tuple = false := id rfl
@[simp] theorem vt_bool_cls : tagIs sb va .bool (.cls j) = false := id rfl
@[simp] theorem vt_bool_int : tagIs sb va .bool .int = true := id rfl
@[simp] theorem vt_bool_bool : tagIs sb va .bool .bool = true := id rfl
@[simp] theorem vt_bool_str : tagIs sb va .bool .str = false := id rfl
@[simp] theorem vt_bool_list : tagIs sb va .bool .list = false := id rfl
@[simp] theorem vt_bool_tuple : tagIs sb va .bool .tuple = false := id rfl
@[simp] theorem vt_str_cls : tagIs sb va .str (.cls j) = false := id rfl
@[simp] theorem vt_str_int : tagIs sb va .str .int = false := id rfl
@[simp] theorem vt_str_bool : tagIs sb va .str .bool = false := id rfl
@[simp] theorem vt_str_str : tagIs sb va .str .str = true := id rfl
@[simp] theorem vt_str_list : tagIs sb va .str .list = false := id rfl
@[simp] theorem vt_str_tuple : tagIs sb va .str .tuple = false := id rfl
@[simp] theorem vt_non_cls : tagIs sb va .non (.cls j) = false := id rfl
@[simp] theorem vt_non_int : tagIs sb va .non .int = false := id rfl
@[simp] theorem vt_non_bool : tagIs sb va .non .bool = false := id rfl
@[simp] theorem vt_non_str : tagIs sb va .non .str = false := id rfl
@[simp] theorem vt_non_list : tagIs sb va .non .list = false := id rfl
@[simp] theorem vt_non_tuple : tagIs sb va .non .tuple = false := id rfl
@[simp] theorem vt_tuple_cls : tagIs sb va .tuple (.cls j) = false := id rfl
@[simp] theorem vt_tuple_int : tagIs sb va .tuple .int = false := id rfl
@[simp] theorem vt_tuple_bool : tagIs sb va .tuple .bool = false := id rfl
@[simp] theorem vt_tuple_str : tagIs sb va .tuple .str = false := id rfl
@[simp] theorem vt_tuple_list : tagIs sb va .tuple .list = false := id rfl
@[simp] theorem vt_tuple_tuple : tagIs sb va .tuple .tuple = true := id rfl
@[simp] theorem vt_list_cls : tagIs sb va .list (.cls j) = false := id rfl
@[simp] theorem vt_list_int : tagIs sb va .list .int = false := id rfl
@[simp] theorem vt_list_bool : tagIs sb va .list .bool = false := id rfl
@[simp] theorem vt_list_str : tagIs sb va .list .str = false := id rfl
@[simp] theorem vt_list_list : tagIs sb va .list .list = true := id rfl
@[simp] theorem vt_list_tuple : tagIs sb va .list .tuple = false := id rfl
end
end FV
namespace FV
open FS
inductive Tst where
  | yes | no | nam (i : Nat) | not (t : Tst) | both (a b : Tst) | either (a b : Tst)
  deriving DecidableEq, Repr, Inhabited
namespace Tst
def V : Tst → FV.V
  | yes => .ins 1 []
  | no => .ins 2 []
  | nam i => .ins 3 [.str [97 + i]]
  | not t => .ins 4 [t.V]
  | both a b => .ins 6 [a.V, b.V]
  | either a b => .ins 7 [a.V, b.V]
def cls : Tst → Nat
  | yes => 1 | no => 2 | nam _ => 3 | not _ => 4 | both _ _ => 6 | either _ _ => 7
def holds : Tst → Nat → Bool
  | yes, _ => true
  | no, _ => false
  | nam i, s => s.testBit i
  | not t, s => !t.holds s
  | both a b, s => a.holds s && b.holds s
  | either a b, s => a.holds s || b.holds s
def ok : Tst → Bool
  | nam i => decide (i < 4)
  | not t => t.ok
  | both a b | either a b => a.ok && b.ok
  | _ => true
def ht : Tst → Nat
  | not t => t.ht + 1
  | both a b | either a b => max a.ht b.ht + 1
  | _ => 0
def lv : Tst → Nat
  | both _ _ => 1 | either _ _ => 2 | _ => 0
def par (t : Tst) (h : Nat) (x : List Nat) : List Nat := if h < t.lv then [40, 32] ++ x ++ [32, 41] else x
def maskL (f : Nat → Bool) (l : List Nat) (x : Nat) : Nat := l.foldl (fun x s => if f s then x ||| 1 <<< s else x) x
def maskF (f : Nat → Bool) : Nat := maskL f (List.range 16) 0
def mask (t : Tst) : Nat := maskF t.holds
@[simp] theorem V_ref (t : Tst) : t.V.isRef = false := by cases t <;> rfl
@[simp] theorem V_cls (t : Tst) : clsV t.V = some t.cls := by cases t <;> rfl
@[simp] theorem V_tag (t : Tst) : t.V.tag = some (.own t.cls) := by cases t <;> rfl
@[simp] theorem V_non (t : Tst) : t.V.isNon = false := by cases t <;> rfl
end Tst
inductive Stp where
  | skip | stop | deed (c : Nat) | row (a b : Stp) | choice (t : Tst) (a b : Stp) | loop (t : Tst) (a : Stp)
  deriving DecidableEq, Repr, Inhabited
inductive Fst where
  | done | stopped | hung | deed (c : Nat) (l : Stp)
  deriving DecidableEq, Inhabited
namespace Stp
def V : Stp → FV.V
  | skip => .ins 9 []
  | stop => .ins 10 []
  | deed c => .ins 11 [.str [c]]
  | row a b => .ins 12 [a.V, b.V]
  | choice t a b => .ins 13 [t.V, a.V, b.V]
  | loop t a => .ins 14 [t.V, a.V]
def cls : Stp → Nat
  | skip => 9 | stop => 10 | deed _ => 11 | row _ _ => 12 | choice _ _ _ => 13 | loop _ _ => 14
@[simp] theorem V_ref (t : Stp) : t.V.isRef = false := by cases t <;> rfl
@[simp] theorem V_cls (t : Stp) : clsV t.V = some t.cls := by cases t <;> rfl
@[simp] theorem V_tag (t : Stp) : t.V.tag = some (.own t.cls) := by cases t <;> rfl
@[simp] theorem V_non (t : Stp) : t.V.isNon = false := by cases t <;> rfl
def ok : Stp → Bool
  | row a b => a.ok && b.ok
  | choice t a b => t.ok && a.ok && b.ok
  | loop t a => t.ok && a.ok
  | _ => true
def ht : Stp → Nat
  | row a b => max a.ht b.ht + 1
  | choice t a b => max t.ht (max a.ht b.ht) + 1
  | loop t a => max t.ht a.ht + 1
  | _ => 0
def letters : Stp → List Nat
  | deed c => [c]
  | row a b => a.letters ++ b.letters
  | choice _ a b => a.letters ++ b.letters
  | loop _ a => a.letters
  | _ => []
def first : Stp → Nat → Fst
  | skip, _ => .done
  | stop, _ => .stopped
  | deed c, _ => .deed c skip
  | row a b, s => match a.first s with
    | .done => b.first s
    | .stopped => .stopped
    | .hung => .hung
    | .deed c l => .deed c (row l b)
  | choice t a b, s => if t.holds s then a.first s else b.first s
  | loop t a, s => if t.holds s then match a.first s with
      | .done => .hung
      | .stopped => .stopped
      | .hung => .hung
      | .deed c l => .deed c (row l (loop t a))
    else .done
def rests : Stp → List Stp
  | deed _ => [skip]
  | row a b => a.rests.map (row · b) ++ b.rests
  | choice _ a b => a.rests ++ b.rests
  | loop t a => a.rests.map (row · (loop t a))
  | _ => []
theorem rests_letters : ∀ (s l : Stp), l ∈ s.rests → ∀ x ∈ l.letters, x ∈ s.letters
  | skip, l, h | stop, l, h => by simp [rests] at h
  | deed d, l, h => by
    simp only [rests, List.mem_singleton] at h
    subst h
    simp [letters]
  | row a b, l, h => by
    simp only [rests, List.mem_append, List.mem_map] at h
    intro x hx
    simp only [letters, List.mem_append]
    rcases h with ⟨l', h, rfl⟩ | h
    · simp only [letters, List.mem_append] at hx
      exact hx.imp (rests_letters a l' h x) id
    · exact .inr (rests_letters b l h x hx)
  | choice t a b, l, h => by
    simp only [rests, List.mem_append] at h
    intro x hx
    simp only [letters, List.mem_append]
    exact h.imp (fun h => rests_letters a l h x hx) fun h => rests_letters b l h x hx
  | loop t a, l, h => by
    simp only [rests, List.mem_map] at h
    obtain ⟨l', h, rfl⟩ := h
    intro x hx
    simp only [letters, List.mem_append] at hx ⊢
    exact hx.elim (rests_letters a l' h x) id
theorem rests_ok : ∀ (s l : Stp), s.ok = true → l ∈ s.rests → l.ok = true
  | skip, l, _, h | stop, l, _, h => by simp [rests] at h
  | deed d, l, _, h => by
    simp only [rests, List.mem_singleton] at h
    subst h; rfl
  | row a b, l, o, h => by
    simp only [ok, Bool.and_eq_true] at o
    simp only [rests, List.mem_append, List.mem_map] at h
    rcases h with ⟨l', h, rfl⟩ | h
    · simp only [ok, Bool.and_eq_true]; exact ⟨rests_ok a l' o.1 h, o.2⟩
    · exact rests_ok b l o.2 h
  | choice t a b, l, o, h => by
    simp only [ok, Bool.and_eq_true] at o
    simp only [rests, List.mem_append] at h
    exact h.elim (rests_ok a l o.1.2) (rests_ok b l o.2)
  | loop t a, l, o, h => by
    have o' := o
    simp only [ok, Bool.and_eq_true] at o
    simp only [rests, List.mem_map] at h
    obtain ⟨l', h, rfl⟩ := h
    simp only [ok, Bool.and_eq_true]
    exact ⟨rests_ok a l' o.2 h, o⟩
theorem rests_ht : ∀ (s l : Stp), l ∈ s.rests → l.ht ≤ s.ht + 1
  | skip, l, h | stop, l, h => by simp [rests] at h
  | deed d, l, h => by
    simp only [rests, List.mem_singleton] at h
    subst h; simp [ht]
  | row a b, l, h => by
    simp only [rests, List.mem_append, List.mem_map] at h
    rcases h with ⟨l', h, rfl⟩ | h
    · have := rests_ht a l' h
      simp only [ht]; omega
    · have := rests_ht b l h
      simp only [ht]; omega
  | choice t a b, l, h => by
    simp only [rests, List.mem_append] at h
    simp only [ht]
    rcases h with h | h
    · have := rests_ht a l h; omega
    · have := rests_ht b l h; omega
  | loop t a, l, h => by
    simp only [rests, List.mem_map] at h
    obtain ⟨l', h, rfl⟩ := h
    have := rests_ht a l' h
    simp only [ht]; omega
end Stp
def Fst.V : Fst → FV.V
  | .done => .tup [.str [100, 111, 110, 101], .non]
  | .stopped => .tup [.str [115, 116, 111, 112, 112, 101, 100], .non]
  | .hung => .tup [.str [104, 117, 110, 103], .non]
  | .deed c l => .tup [.str [c], l.V]
end FV
namespace FV
open FS
theorem callV_succ (P : Prog) (O : Ov) (n f : Nat) (vs : List V) : callV P O (n + 1) f vs = bodyV P O n (callV P O n) (callV P O (n - 1)) f vs := by
  cases n with
  | zero => rfl
  | succ n => rfl
theorem callV_fn {P : Prog} {O : Ov} {f np nl : Nat} {b : Ss} {vs : List V} {n : Nat} (h : P.fns f = some (.fn np nl b)) (ho : O.f n f vs = none) (hl : vs.length = np) :
    callV P O (n + 1) f vs = finV (exVs (vctx P O n (callV P O n) (callV P O (n - 1))) b (startV (O.bor f) nl vs)) := by
  rw [callV_succ]
  simp only [bodyV, ho, h, runV, hl, if_true]
theorem callV_ini {P : Prog} {O : Ov} {f c np nl : Nat} {l : Es} {vs : List V} {n : Nat} (h : P.fns f = some (.ini c np nl l)) (ho : O.f n f vs = none) (hl : vs.length = np) :
    callV P O (n + 1) f vs = resC (evAs (vctx P O n (callV P O n) (callV P O (n - 1))) l (none :: startV (O.bor f) (nl - 1) vs)) c := by
  rw [callV_succ]
  simp only [bodyV, ho, h, runV, hl, if_true]
theorem mkV_imm {P : Prog} {O : Ov} {k c f : Nat} {vs : List V} {call : Nat → List V → CR} (h : P.cini c = some (.imm f)) (ho : O.c k c vs = none) : mkV P O k call c vs = (call f vs).calm := by
  simp only [mkV, ho, h]
theorem frV_inv {α : Type} {tg : Tg} {body : VSto → VS} {enc : α → V} (I : List α → VSto → Prop) : ∀ (l done : List α) (s : VSto), I done s →
    (∀ pre a post s, done ++ l = pre ++ a :: post → I pre s → ∃ s1, bindTV tg (enc a) s = some s1 ∧ ∃ s2, (body s1 = .nx s2 ∨ body s1 = .ct s2) ∧ I (pre ++ [a]) s2) →
    ∃ s', frLoopV tg body (l.map enc) s = .nx s' ∧ I (done ++ l) s'
  | [], done, s, h, _ => ⟨s, by simp, by simpa using h⟩
  | a :: l, done, s, h, st => by
    obtain ⟨s1, h1, s2, h2, h3⟩ := st done a l s rfl h
    obtain ⟨s', h4, h5⟩ := frV_inv I l (done ++ [a]) s2 h3 fun pre b post s e hI => st pre b post s (by simpa using e) hI
    refine ⟨s', ?_, by simpa using h5⟩
    rw [List.map_cons, frV_c, h1, optVS_s]
    rcases h2 with h2 | h2 <;> rw [h2] <;> simpa using h4
theorem lcV_map {α : Type} {W : List Nat} {tg : Tg} {c : VSto → VR V} {e : VSto → VR (Bool × V)} {enc : α → V} {s : VSto} (p : α → Bool) (g : α → V) (l : List α) (acc : List V)
    (st : ∀ a, a ∈ l → ∃ s1, bindTV tg (enc a) s = some s1 ∧ c s1 = .ok (.bl (p a)) s1 ∧ wipeV s1 W = s ∧ (p a = true → ∃ fr, e s1 = .ok (fr, g a) s1)) (hl : acc.length + l.length ≤ LIM) :
    lcLoopV W tg c e (l.map enc) acc s = .ok (acc ++ (l.filter p).map g) s := by
  induction l generalizing acc with
  | nil => simp
  | cons a l ih =>
    rw [List.length_cons] at hl
    obtain ⟨s1, h1, h2, h3, h4⟩ := st a List.mem_cons_self
    have ih' := fun acc h => ih acc (fun b hb => st b (List.mem_cons_of_mem _ hb)) h
    rw [List.map_cons, lcV_c, h1, optV_s, h2]
    simp only [vcalm_ok, vbind_ok]
    cases hp : p a with
    | false =>
      rw [iteV_f, h3, ih' acc (by omega), List.filter_cons_of_neg (by simp [hp])]
    | true =>
      obtain ⟨fr, h5⟩ := h4 hp
      rw [iteV_t, h5, vcalm_ok, vbnd_ok, if_pos (by omega), h3, ih' _ (by rw [List.length_append, List.length_singleton]; omega), List.filter_cons_of_pos (by simp [hp])]
      simp
theorem lcV_all {α : Type} {W : List Nat} {tg : Tg} {e : VSto → VR (Bool × V)} {enc : α → V} {s : VSto} {C : VCtx} (g : α → V) (l : List α)
    (st : ∀ a, a ∈ l → ∃ s1, bindTV tg (enc a) s = some s1 ∧ wipeV s1 W = s ∧ ∃ fr, e s1 = .ok (fr, g a) s1) (hl : l.length ≤ LIM) :
    lcLoopV W tg (evCV C .none) e (l.map enc) [] s = .ok (l.map g) s := by
  have := lcV_map (W := W) (tg := tg) (c := evCV C .none) (e := e) (enc := enc) (s := s) (fun _ => true) g l [] (fun a ha => by
    obtain ⟨s1, h1, h2, h3⟩ := st a ha
    exact ⟨s1, h1, by simp, h2, fun _ => h3⟩) (by simpa using hl)
  rw [List.nil_append, List.filter_eq_self.mpr fun _ _ => rfl] at this
  exact this
theorem rngV_nat (n : Nat) : rngV 0 (n : Int) = (List.range n).map fun (k : Nat) => V.int (k : Int) := by
  unfold rngV
  simp
theorem rngOk_nat (n : Nat) (h : n < 4611686018427387904) : rngOk 0 (n : Int) = true := by
  unfold rngOk
  simp
  omega
@[simp] theorem atI_nat' {α : Type} {l : List α} {k : Nat} : atI l (k : Int) = l[k]? := by
  unfold atI ixN
  by_cases h : k < l.length
  · rw [if_pos (Int.natCast_nonneg k), if_pos (by omega)]; simp
  · rw [if_pos (Int.natCast_nonneg k), if_neg (by omega), List.getElem?_eq_none (by omega)]; rfl
@[simp] theorem atI_0' {α : Type} {l : List α} : atI l 0 = l[0]? := atI_nat' (k := 0)
@[simp] theorem atI_1' {α : Type} {l : List α} : atI l 1 = l[1]? := atI_nat' (k := 1)
@[simp] theorem atI_2' {α : Type} {l : List α} : atI l 2 = l[2]? := atI_nat' (k := 2)
@[simp] theorem atI_3' {α : Type} {l : List α} : atI l 3 = l[3]? := atI_nat' (k := 3)
@[simp] theorem atI_4' {α : Type} {l : List α} : atI l 4 = l[4]? := atI_nat' (k := 4)
@[simp] theorem atI_5' {α : Type} {l : List α} : atI l 5 = l[5]? := atI_nat' (k := 5)
@[simp] theorem atI_6' {α : Type} {l : List α} : atI l 6 = l[6]? := atI_nat' (k := 6)
@[simp] theorem atI_7' {α : Type} {l : List α} : atI l 7 = l[7]? := atI_nat' (k := 7)
@[simp] theorem atI_8' {α : Type} {l : List α} : atI l 8 = l[8]? := atI_nat' (k := 8)
@[simp] theorem atI_9' {α : Type} {l : List α} : atI l 9 = l[9]? := atI_nat' (k := 9)
@[simp] theorem atI_10' {α : Type} {l : List α} : atI l 10 = l[10]? := atI_nat' (k := 10)
@[simp] theorem atI_11' {α : Type} {l : List α} : atI l 11 = l[11]? := atI_nat' (k := 11)
@[simp] theorem atI_12' {α : Type} {l : List α} : atI l 12 = l[12]? := atI_nat' (k := 12)
@[simp] theorem atI_13' {α : Type} {l : List α} : atI l 13 = l[13]? := atI_nat' (k := 13)
@[simp] theorem atI_14' {α : Type} {l : List α} : atI l 14 = l[14]? := atI_nat' (k := 14)
@[simp] theorem atI_15' {α : Type} {l : List α} : atI l 15 = l[15]? := atI_nat' (k := 15)
@[simp] theorem atI_16' {α : Type} {l : List α} : atI l 16 = l[16]? := atI_nat' (k := 16)
@[simp] theorem atI_17' {α : Type} {l : List α} : atI l 17 = l[17]? := atI_nat' (k := 17)
@[simp] theorem atI_18' {α : Type} {l : List α} : atI l 18 = l[18]? := atI_nat' (k := 18)
@[simp] theorem atI_19' {α : Type} {l : List α} : atI l 19 = l[19]? := atI_nat' (k := 19)
@[simp] theorem vo_and1 {p : Nat} : V.op .band (.int (p : Int)) (.int 1) = some (.int ((p &&& 1 : Nat) : Int)) := vo_and (k := 1)
@[simp] theorem vo_shl1 {k : Nat} (h : k ≤ 1000) : V.op .shl (.int 1) (.int (k : Int)) = some (.int ((1 <<< k : Nat) : Int)) := by
  rw [vo_shl (by omega) (by omega) (by decide)]
  simp [Nat.one_shiftLeft]
@[simp] theorem ne_nil : V.cmp .ne (.lst []) (.lst []) = some false := by rfl
@[simp] theorem eq_nil : V.cmp .eq (.lst []) (.lst []) = some true := by rfl
theorem eqv_cons {v : V} {vs : List V} : V.eqv (.lst (v :: vs)) (.lst []) = some false := by
  unfold V.eqv
  split
  · rename_i a b h1 h2
    have e2 : V.dat 60 (.lst []) = some (.lst []) := rfl
    rw [e2] at h2
    cases h2
    simp only [V.dat, Option.map_eq_some_iff] at h1
    obtain ⟨l, hl, rfl⟩ := h1
    simp only [List.mapM_cons, Option.bind_eq_bind, Option.pure_def, Option.bind_eq_some_iff, Option.some.injEq] at hl
    obtain ⟨_, _, y, hy, rfl⟩ := hl
    rfl
  · rfl
@[simp] theorem eq_cons_nil {v : V} {vs : List V} : V.cmp .eq (.lst (v :: vs)) (.lst []) = some false := eqv_cons
@[simp] theorem eq_app_nil {l : List V} {v : V} {vs : List V} : V.cmp .eq (.lst (l ++ v :: vs)) (.lst []) = some false := by
  cases l <;> exact eqv_cons
@[simp] theorem ne_app_nil {l : List V} {v : V} {vs : List V} : V.cmp .ne (.lst (l ++ v :: vs)) (.lst []) = some true := by
  show (V.eqv _ _).map _ = _
  cases l with
  | nil => rw [List.nil_append, eqv_cons]; rfl
  | cons _ _ => rw [List.cons_append, eqv_cons]; rfl
@[simp] theorem ne_cons_nil {v : V} {vs : List V} : V.cmp .ne (.lst (v :: vs)) (.lst []) = some true := by
  show (V.eqv _ _).map _ = _
  rw [eqv_cons]; rfl
mutual
theorem dat_refl : ∀ x : Dat, Dat.eqv x x = true
  | .non => rfl
  | .bl b => by simp [Dat.eqv]
  | .int b => by simp [Dat.eqv]
  | .str b => by simp [Dat.eqv]
  | .lst l => by simp [Dat.eqv, dats_refl l]
  | .tup l => by simp [Dat.eqv, dats_refl l]
theorem dats_refl : ∀ x : List Dat, Dat.eqvs x x = true
  | [] => rfl
  | a :: l => by simp [Dat.eqvs, dat_refl a, dats_refl l]
end
theorem eqv_refl {x : V} (h : (V.dat 60 x).isSome = true) : V.eqv x x = some true := by
  unfold V.eqv
  cases e : V.dat 60 x with
  | none => rw [e] at h; cases h
  | some d => simp [dat_refl]
theorem ne_self {x : V} (hs : x.sc = none) (h : (V.dat 60 x).isSome = true) : V.cmp .ne x x = some false := by
  have : V.cmp .ne x x = V.cmpG .ne x x := by cases x <;> rfl
  rw [this]
  unfold V.cmpG
  rw [hs]
  simp only [eqv_refl h]; rfl
theorem dats_some {n : Nat} : ∀ {vs : List V}, (∀ v ∈ vs, (V.dat n v).isSome = true) → ∃ l, (vs.mapM fun v => V.dat n v) = some l
  | [], _ => ⟨[], rfl⟩
  | v :: vs, h => by
    obtain ⟨l, hl⟩ := dats_some fun w hw => h w (List.mem_cons_of_mem _ hw)
    have := h v List.mem_cons_self
    cases e : V.dat n v with
    | none => rw [e] at this; cases this
    | some d => exact ⟨d :: l, by rw [List.mapM_cons, e, hl]; rfl⟩
theorem dat_lst {n : Nat} {vs : List V} (h : ∀ v ∈ vs, (V.dat n v).isSome = true) : (V.dat (n + 1) (.lst vs)).isSome = true := by
  obtain ⟨l, hl⟩ := dats_some h
  unfold V.dat
  rw [hl]; rfl
theorem dat_int {n : Nat} {i : Int} : (V.dat n (.int i)).isSome = true := by cases n <;> rfl
def cell (ns : List Int) (k : Nat) : Int := ns.getD k 0
end FV
namespace FS
@[irreducible] def opx (o : O2) (x y : D) (m : Mem) : Res D := op2 o x y m
theorem opx_eq (o : O2) (x y : D) (m : Mem) : opx o x y m = op2 o x y m := by unfold opx; rfl
def varD (o : Option (Option D)) (m : Mem) : Res D := match o with
    | some (some d) => .ok d m
    | _ => .no
def notD (x : D) (m1 : Mem) : Res D := match x with
    | .bl k => .ok (.bl (!k)) m1
    | _ => .no
def iteD (x : D) (a b : Res D) : Res D := match x with
    | .bl true => a
    | .bl false => b
    | _ => .no
def iteS (x : D) (a b : SR) : SR := match x with
    | .bl true => a
    | .bl false => b
    | _ => .no
def optD (x : Option Bool) (a b : Res D) : Res D := match x with
    | some true => a
    | some false => b
    | none => .no
def negD (x : D) (m1 : Mem) : Res D := match x with
    | .int i => .ok (.int (-i)) m1
    | _ => .no
def intD (x : D) (m1 : Mem) : Res (Option Int) := match x with
    | .int i => .ok (Option.some i) m1
    | _ => .no
def unpS (o : Option Sto) (m1 : Mem) : SR := match o with
    | some σ' => .nx σ' m1
    | none => .no
def fldD (fl : Nat → List Nat) (x : D) (f : Nat) (m1 : Mem) : Res D := match x with
    | .ins c ds => (match (fl c).findIdx? (· == f) with
      | some k => opt m1 ds[k]?
      | none => .no)
    | .ref n => (match m1[n]? with
      | some (.obj _ fs) => opt m1 (fs.lookup f)
      | _ => .no)
    | _ => .no
def methD (C : Ctx) (x : D) (i : Nat) (m1 : Mem) (f : D → Nat → Res D) : Res D := match x with
    | .ins c ds => (match C.mt c i with
      | some g => f (.ins c ds) g
      | none => .no)
    | .ref k => (match m1[k]? with
      | some (.obj c _) => (match C.mt c i with
        | some g => f (.ref k) g
        | none => .no)
      | _ => .no)
    | _ => .no
def bmD (b : Bm) (x : D) (m1 : Mem) (r : Res (List D)) : Res D := match bk m1 x with
    | some k => if bmK b k then r.bind fun ds m2 => if bk m2 x = some k then bm b x ds m2 else .no else .no
    | none => .no
def isiD (C : Ctx) (ts : List Ty) (x : D) (m1 : Mem) : Res D := match tagOf m1 x with
    | some g => .ok (.bl (ts.any fun t => tagIs C.sub C.vale g t)) m1
    | none => .no
def seqD (x : D) (m1 : Mem) : Res (List D × Guard) := match seqOf m1 x with
    | some p => .ok p m1
    | none => .no
def rngD (x y : D) (m2 : Mem) : Res (List D × Guard) := match x, y with
    | .int i, .int j => if rngOk i j then .ok (rngL i j, []) m2 else .no
    | _, _ => .no
section
variable {C : Ctx} {σ : Sto} {m : Mem} {a b c e : E} {l : Es} {P : Prog} {c1 c2 : Nat → List D → Mem → Res D}
@[simp] theorem ev_cst {d : D} : evalE C (.cst d) σ m = .ok d m := by simp only [evalE]
@[simp] theorem ev_var {i : Nat} : evalE C (.var i) σ m = varD σ[i]? m := by simp only [evalE]; rfl
@[simp] theorem varD_s {d : D} : varD (some (some d)) m = .ok d m := id rfl
@[simp] theorem ev_op {o : O2} : evalE C (.op o a b) σ m = (evalE C a σ m).bind fun x m1 => (evalE C b σ m1).bind fun y m2 => opx o x y m2 := by simp only [evalE, opx_eq]
@[simp] theorem ev_cmp {o : Cm} : evalE C (.cmp o a b) σ m = (evalE C a σ m).bind fun x m1 => (evalE C b σ m1).bind fun y m2 => ofO m2 (cmp2 o x y m2) := by simp only [evalE]
@[simp] theorem ev_not : evalE C (.not a) σ m = (evalE C a σ m).bind fun x m1 => notD x m1 := by simp only [evalE]; rfl
@[simp] theorem ev_and : evalE C (.and a b) σ m = (evalE C a σ m).bind fun x m1 => iteD x (evalE C b σ m1) (.ok (.bl false) m1) := by simp only [evalE]; rfl
@[simp] theorem ev_or : evalE C (.or a b) σ m = (evalE C a σ m).bind fun x m1 => iteD x (.ok (.bl true) m1) (evalE C b σ m1) := by simp only [evalE]; rfl
@[simp] theorem ev_ife : evalE C (.ife c a b) σ m = (evalE C c σ m).bind fun x m1 => iteD x (evalE C a σ m1) (evalE C b σ m1) := by simp only [evalE]; rfl
@[simp] theorem ev_tup : evalE C (.tup l) σ m = (evalEs C l σ m).bind fun ds m1 => if ds.length ≤ LIM then .ok (.tup ds) m1 else .no := by simp only [evalE]
@[simp] theorem ev_lst : evalE C (.lst l) σ m = (evalEs C l σ m).bind fun ds m1 => if ds.length ≤ LIM then .ok (.ref m1.length) (m1 ++ [.lst ds]) else .no := by simp only [evalE]
@[simp] theorem ev_dct0 {t : Bool} : evalE C (.dct0 t) σ m = .ok (.ref m.length) (m ++ [.dct t false []]) := by simp only [evalE]
theorem ev_pur : evalE C (.pur a) σ m = if cleanM m then evalE C a (cleanS σ) m else .no := by simp only [evalE]
@[simp] theorem ev_idx : evalE C (.idx a b) σ m = (evalE C a σ m).bind fun x m1 => (evalE C b σ m1).bind fun y m2 => index x y m2 := by simp only [evalE]
@[simp] theorem ev_slc {lo hi : Oe} : evalE C (.slc a lo hi) σ m = (evalE C a σ m).bind fun x m1 => (evalO C lo σ m1).bind fun l m2 => (evalO C hi σ m2).bind fun h m3 => slice x l h m3 := by simp only [evalE]
@[simp] theorem ev_fld {f : Nat} : evalE C (.fld a f) σ m = (evalE C a σ m).bind fun x m1 => fldD C.flds x f m1 := by simp only [evalE]; rfl
@[simp] theorem ev_call {f : Nat} : evalE C (.call f l) σ m = (evalEs C l σ m).bind fun ds m1 => C.call f ds m1 := by simp only [evalE]
@[simp] theorem ev_make {f : Nat} : evalE C (.make f l) σ m = (evalEs C l σ m).bind fun ds m1 => C.make f ds m1 := by simp only [evalE]
@[simp] theorem ev_meth {k : Nat} : evalE C (.meth a k l) σ m = (evalE C a σ m).bind fun x m1 => methD C x k m1 (fun x g => (evalEs C l σ m1).bind fun ds m2 => C.call g (x :: ds) m2) := by
  simp only [evalE]
  congr 1
  funext x m1
  cases x <;> rfl
@[simp] theorem ev_bi {k : Bi} : evalE C (.bi k l) σ m = (evalEs C l σ m).bind fun ds m1 => bi k ds m1 := by simp only [evalE]
@[simp] theorem ev_bm {k : Bm} : evalE C (.bm a k l) σ m = (evalE C a σ m).bind fun x m1 => bmD k x m1 (evalEs C l σ m1) := by simp only [evalE]; rfl
@[simp] theorem ev_isi {ts : List Ty} : evalE C (.isi a ts) σ m = (evalE C a σ m).bind fun x m1 => isiD C ts x m1 := by simp only [evalE]; rfl
@[simp] theorem ev_es0 : evalEs C .nil σ m = .ok [] m := by simp only [evalEs]
@[simp] theorem ev_es1 : evalEs C (.cons a l) σ m = (evalE C a σ m).bind fun x m1 => (evalEs C l σ m1).bind fun ds m2 => .ok (x :: ds) m2 := by simp only [evalEs]
@[simp] theorem ev_o0 : evalO C .none σ m = .ok Option.none m := by simp only [evalO]
@[simp] theorem ev_o1 : evalO C (.some a) σ m = (evalE C a σ m).bind fun x m1 => intD x m1 := by simp only [evalO]; rfl
@[simp] theorem ev_c0 : evalC C .none σ m = .ok (.bl true) m := by simp only [evalC]
@[simp] theorem ev_c1 : evalC C (.some a) σ m = evalE C a σ m := by simp only [evalC]
@[simp] theorem ev_lc {own : List Nat} {it : It} {tg : Tg} {o : Oe} : evalE C (.lc own it tg o e) σ m = (evalI C it σ m).bind fun p m1 => lcLoop p.2 m1.length tg (evalC C o) (evalE C e) (wipeD σ own) p.1 (m1 ++ [.lst []]) := by simp only [evalE]
@[simp] theorem ev_seq : evalI C (.seq a) σ m = (evalE C a σ m).bind fun x m1 => seqD x m1 := by simp only [evalI]; rfl
@[simp] theorem ev_rng : evalI C (.rng a b) σ m = (evalE C a σ m).bind fun x m1 => (evalE C b σ m1).bind fun y m2 => rngD x y m2 := by simp only [evalI]; rfl
@[simp] theorem ev_chn {o o' : Cm} : evalE C (.chn o o' a b c) σ m = (evalE C a σ m).bind fun x m1 => (evalE C b σ m1).bind fun y m2 => optD (cmp2 o x y m2) ((evalE C c σ m2).bind fun z m3 => ofO m3 (cmp2 o' y z m3)) (.ok (.bl false) m2) := by simp only [evalE]; rfl
@[simp] theorem ev_neg : evalE C (.neg a) σ m = (evalE C a σ m).bind fun x m1 => negD x m1 := by simp only [evalE]; rfl
@[simp] theorem ex_set {i : Nat} : execS C (.set i a) σ m = (evalE C a σ m).toS σ fun d m1 => .nx (σ.set i (some d)) m1 := by simp only [execS]
@[simp] theorem ex_ex : execS C (.ex a) σ m = (evalE C a σ m).toS σ fun _ m1 => .nx σ m1 := by simp only [execS]
@[simp] theorem ex_ret : execS C (.ret a) σ m = (evalE C a σ m).toS σ fun d m1 => .rt d m1 := by simp only [execS]
@[simp] theorem ex_retN : execS C .retN σ m = .rt .non m := by simp only [execS]
@[simp] theorem ex_ifs {p q : Ss} : execS C (.ifs c p q) σ m = (evalE C c σ m).toS σ fun d m1 => iteS d (execSs C p σ m1) (execSs C q σ m1) := by simp only [execS]; rfl
@[simp] theorem ex_whl {p : Ss} : execS C (.whl c p) σ m = whLoop (evalE C c) (execSs C p) C.fuel σ m := by simp only [execS]
@[simp] theorem ex_frs {tg : Tg} {it : It} {p : Ss} : execS C (.frs tg it p) σ m = (evalI C it σ m).toS σ fun q m1 => frLoop q.2 tg (execSs C p) q.1 σ m1 := by simp only [execS]
@[simp] theorem ex_brk : execS C .brk σ m = .bk σ m := by simp only [execS]
@[simp] theorem ex_cnt : execS C .cnt σ m = .ct σ m := by simp only [execS]
@[simp] theorem ex_pss : execS C .pss σ m = .nx σ m := by simp only [execS]
@[simp] theorem ex_unp {t : Tg} : execS C (.unp t a) σ m = (evalE C a σ m).toS σ fun d m1 => unpS (bindT m1 t d σ) m1 := by simp only [execS]; rfl
@[simp] theorem ex_nil : execSs C .nil σ m = .nx σ m := by simp only [execSs]
@[simp] theorem ex_cons {s : S} {r : Ss} : execSs C (.cons s r) σ m = (execS C s σ m).seq fun σ' m' => execSs C r σ' m' := by simp only [execSs]
@[simp] theorem bind_ok {α β : Type} {x : α} {f : α → Mem → Res β} : Res.bind (.ok x m) f = f x m := id rfl
@[simp] theorem bind_ex {α β : Type} {k : Nat} {f : α → Mem → Res β} : Res.bind (.ex k m) f = .ex k m := id rfl
@[simp] theorem bind_no {α β : Type} {f : α → Mem → Res β} : Res.bind (.no) f = .no := id rfl
@[simp] theorem toS_ok {α : Type} {x : α} {f : α → Mem → SR} : Res.toS σ (.ok x m) f = f x m := id rfl
@[simp] theorem toS_ex {α : Type} {k : Nat} {f : α → Mem → SR} : Res.toS σ (.ex k m) f = .ex k σ m := id rfl
@[simp] theorem seq_nx {f : Sto → Mem → SR} : SR.seq (.nx σ m) f = f σ m := id rfl
@[simp] theorem seq_rt {d : D} {f : Sto → Mem → SR} : SR.seq (.rt d m) f = .rt d m := id rfl
@[simp] theorem seq_bk {f : Sto → Mem → SR} : SR.seq (.bk σ m) f = .bk σ m := id rfl
@[simp] theorem seq_ct {f : Sto → Mem → SR} : SR.seq (.ct σ m) f = .ct σ m := id rfl
@[simp] theorem seq_ex {k : Nat} {f : Sto → Mem → SR} : SR.seq (.ex k σ m) f = .ex k σ m := id rfl
@[simp] theorem fin_rt {d : D} : fin (.rt d m) = .ok d m := id rfl
@[simp] theorem fin_nx : fin (.nx σ m) = .ok .non m := id rfl
@[simp] theorem fin_ex {k : Nat} : fin (.ex k σ m) = .ex k m := id rfl
@[simp] theorem calm_ok' {α : Type} {x : α} : Res.calm (.ok x m) = .ok x m := id rfl
@[simp] theorem ctx_call : (ctx P c1 c2).call = c1 := id rfl
@[simp] theorem ctx_make : (ctx P c1 c2).make = mk P c2 := id rfl
@[simp] theorem ctx_mt : (ctx P c1 c2).mt = P.mt := id rfl
@[simp] theorem ctx_flds : (ctx P c1 c2).flds = P.flds := id rfl
@[simp] theorem ctx_sub : (ctx P c1 c2).sub = P.sub := id rfl
@[simp] theorem ctx_fuel : (ctx P c1 c2).fuel = P.fuel := id rfl
@[simp] theorem ofO_some {k : Bool} : ofO m (some k) = .ok (.bl k) m := id rfl
@[simp] theorem opt_some {d : D} : opt m (some d) = .ok d m := id rfl
@[simp] theorem iteD_t {x y : Res D} : iteD (.bl true) x y = x := id rfl
@[simp] theorem iteD_f {x y : Res D} : iteD (.bl false) x y = y := id rfl
@[simp] theorem iteS_t {x y : SR} : iteS (.bl true) x y = x := id rfl
@[simp] theorem iteS_f {x y : SR} : iteS (.bl false) x y = y := id rfl
@[simp] theorem iteD_b {k : Bool} {x y : Res D} : iteD (.bl k) x y = if k then x else y := by cases k <;> rfl
@[simp] theorem iteS_b {k : Bool} {x y : SR} : iteS (.bl k) x y = if k then x else y := by cases k <;> rfl
@[simp] theorem notD_b {k : Bool} : notD (.bl k) m = .ok (.bl (!k)) m := id rfl
@[simp] theorem optD_t {x y : Res D} : optD (some true) x y = x := id rfl
@[simp] theorem optD_f {x y : Res D} : optD (some false) x y = y := id rfl
@[simp] theorem negD_i {i : Int} : negD (.int i) m = .ok (.int (-i)) m := id rfl
@[simp] theorem intD_i {i : Int} : intD (.int i) m = .ok (some i) m := id rfl
@[simp] theorem unpS_some : unpS (some σ) m = .nx σ m := id rfl
def fIx : List Nat → Nat → Option Nat
  | [], _ => none
  | a :: l, f => if a = f then some 0 else (fIx l f).map (· + 1)
@[simp] theorem fIx_n {f : Nat} : fIx [] f = none := id rfl
@[simp] theorem fIx_c {f a : Nat} {l : List Nat} : fIx (a :: l) f = if a = f then some 0 else (fIx l f).map (· + 1) := id rfl
theorem fIx_eq (f : Nat) : ∀ l : List Nat, l.findIdx? (· == f) = fIx l f
  | [] => rfl
  | a :: l => by
    rw [List.findIdx?_cons, fIx_eq f l, fIx_c]
    by_cases h : a = f <;> simp [h]
def atO (m : Mem) (ds : List D) : Option Nat → Res D
  | some j => opt m ds[j]?
  | none => .no
@[simp] theorem atO_s {ds : List D} {j : Nat} : atO m ds (some j) = opt m ds[j]? := id rfl
@[simp] theorem fldD_ins {fl : Nat → List Nat} {k f : Nat} {ds : List D} : fldD fl (.ins k ds) f m = atO m ds (fIx (fl k) f) := by
  show (match (fl k).findIdx? (· == f) with | some j => opt m ds[j]? | none => .no) = _
  rw [fIx_eq]
  cases fIx (fl k) f <;> rfl
@[simp] theorem methD_ins {k i : Nat} {ds : List D} {f : D → Nat → Res D} : methD C (.ins k ds) i m f = (match C.mt k i with | some g => f (.ins k ds) g | none => .no) := id rfl
@[simp] theorem seqD_tup {ds : List D} : seqD (.tup ds) m = .ok (ds, []) m := id rfl
@[simp] theorem seqD_rol {ds : List D} : seqD (.rol ds) m = .ok (ds, []) m := id rfl
@[simp] theorem seqD_str {s : List Nat} : seqD (.str s) m = .ok (s.map fun c => .str [c], []) m := id rfl
@[simp] theorem rngD_i {i j : Int} : rngD (.int i) (.int j) m = if rngOk i j then .ok (rngL i j, []) m else .no := id rfl
@[simp] theorem bmD_s {k : Bm} {s : List Nat} {r : Res (List D)} : bmD k (.str s) m r = if bmK k .s then r.bind fun ds m2 => bm k (.str s) ds m2 else .no := by unfold bmD; simp [bk]
@[simp] theorem op_add {i j : Int} : opx .add (.int i) (.int j) m = .ok (.int (i + j)) m := by rw [opx_eq]; rfl
@[simp] theorem op_sub {i j : Int} : opx .sub (.int i) (.int j) m = .ok (.int (i - j)) m := by rw [opx_eq]; rfl
@[simp] theorem op_mod {i j : Int} (h : 0 < j) : opx .mod (.int i) (.int j) m = .ok (.int (i % j)) m := by simp only [opx_eq, op2, h, if_true]
@[simp] theorem op_fdiv {i j : Int} (h : 0 < j) (h2 : j < 1073741824) : opx .fdiv (.int i) (.int j) m = .ok (.int (i / j)) m := by simp only [opx_eq, op2, h, h2, and_self, if_true]
@[simp] theorem op_adds {s t : List Nat} (h : s.length + t.length ≤ LIM) : opx .add (.str s) (.str t) m = .ok (.str (s ++ t)) m := by simp only [opx_eq, op2, h, if_true]
@[simp] theorem cm_eqI {i j : Int} : cmp2 .eq (.int i) (.int j) m = some (decide (i = j)) := by simp only [cmp2, eqD, scal, if_true, D.beq]; rw [Bool.beq_eq_decide_eq]
@[simp] theorem cm_neI {i j : Int} : cmp2 .ne (.int i) (.int j) m = some (!decide (i = j)) := by simp only [cmp2, eqD, scal, if_true, D.beq]; rw [Bool.beq_eq_decide_eq]; rfl
@[simp] theorem cm_ltI {i j : Int} : cmp2 .lt (.int i) (.int j) m = some (decide (i < j)) := id rfl
@[simp] theorem cm_leI {i j : Int} : cmp2 .le (.int i) (.int j) m = some (decide (i ≤ j)) := id rfl
@[simp] theorem cm_gtI {i j : Int} : cmp2 .gt (.int i) (.int j) m = some (decide (j < i)) := id rfl
@[simp] theorem cm_geI {i j : Int} : cmp2 .ge (.int i) (.int j) m = some (decide (j ≤ i)) := id rfl
@[simp] theorem cm_eqS {s t : List Nat} : cmp2 .eq (.str s) (.str t) m = some (decide (s = t)) := by simp only [cmp2, eqD, scal, if_true, D.beq]; rw [Bool.beq_eq_decide_eq]
@[simp] theorem cm_neS {s t : List Nat} : cmp2 .ne (.str s) (.str t) m = some (!decide (s = t)) := by simp only [cmp2, eqD, scal, if_true, D.beq]; rw [Bool.beq_eq_decide_eq]; rfl
@[simp] theorem cm_isB {k j : Bool} : cmp2 .is (.bl k) (.bl j) m = some (decide (k = j)) := id rfl
@[simp] theorem cm_isnB {k j : Bool} : cmp2 .isn (.bl k) (.bl j) m = some (!decide (k = j)) := id rfl
@[simp] theorem cm_isN {d : D} : cmp2 .is d .non m = some (decide (d = .non)) := by cases d <;> rfl
@[simp] theorem cm_isnN {d : D} : cmp2 .isn d .non m = some (!decide (d = .non)) := by cases d <;> rfl
@[simp] theorem bi_int {i : Int} : bi .int [.int i] m = .ok (.int i) m := id rfl
@[simp] theorem bi_intB {k : Bool} : bi .int [.bl k] m = .ok (.int (if k then 1 else 0)) m := id rfl
@[simp] theorem isi_d {ts : List Ty} {d : D} : isiD C ts d m = (match tagOf m d with | some g => .ok (.bl (ts.any fun t => tagIs C.sub C.vale g t)) m | none => .no) := id rfl
@[simp] theorem bT_nm {i : Nat} {d : D} : bindT m (.nm i) d σ = some (σ.set i (some d)) := by simp only [bindT]
@[simp] theorem bT_tp {l : List Tg} {ds : List D} : bindT m (.tp l) (.tup ds) σ = bindTs m l ds σ := by simp only [bindT]
@[simp] theorem bT_n : bindTs m [] [] σ = some σ := by simp only [bindTs]
@[simp] theorem bT_c {t : Tg} {l : List Tg} {d : D} {ds : List D} : bindTs m (t :: l) (d :: ds) σ = (bindT m t d σ).bind fun σ' => bindTs m l ds σ' := by simp only [bindTs]
@[simp] theorem wipe0 : wipeD σ [] = σ := id rfl
@[simp] theorem wipe1 {i : Nat} {r : List Nat} : wipeD σ (i :: r) = (wipeD σ r).set i none := id rfl
@[simp] theorem bi_sum {n : Nat} : bi .sum [.ref n] m = opt m (((rdL m n).bind allI).map fun ns => .int ns.sum) := id rfl
@[simp] theorem bi_all {n : Nat} : bi .all [.ref n] m = opt m (((rdL m n).bind allB).map fun bs => .bl (bs.all id)) := id rfl
@[simp] theorem bi_any {n : Nat} : bi .any [.ref n] m = opt m (((rdL m n).bind allB).map fun bs => .bl (bs.any id)) := id rfl
@[simp] theorem bi_min1 {n : Nat} : bi .min1 [.ref n] m = opt m ((((rdL m n).bind allI).bind minI).map .int) := id rfl
@[simp] theorem bi_max1 {n : Nat} : bi .max1 [.ref n] m = opt m ((((rdL m n).bind allI).bind maxI).map .int) := id rfl
@[simp] theorem bi_len {d : D} : bi .len [d] m = opt m ((lenD m d).map fun (k : Nat) => D.int (k : Int)) := id rfl
@[simp] theorem allI_map {α : Type} (f : α → Int) : ∀ l : List α, allI (l.map fun a => .int (f a)) = some (l.map f)
  | [] => rfl
  | i :: l => by simp only [List.map_cons, allI, allI_map f l]; rfl
@[simp] theorem allB_map {α : Type} (f : α → Bool) : ∀ l : List α, allB (l.map fun a => .bl (f a)) = some (l.map f)
  | [] => rfl
  | i :: l => by simp only [List.map_cons, allB, allB_map f l]; rfl
@[simp] theorem lenD_rol {l : List D} : lenD m (.rol l) = some l.length := id rfl
@[simp] theorem lenD_tup {l : List D} : lenD m (.tup l) = some l.length := id rfl
@[simp] theorem lenD_str {l : List Nat} (h : l.length ≤ LIM) : lenD m (.str l) = some l.length := by simp only [lenD, h, if_true]
@[simp] theorem le_lim {n : Nat} (h : n ≤ 16777216) : (n ≤ LIM) = True := eq_true h
@[simp] theorem lt_lim {n : Nat} (h : n < 16777216) : (n < LIM) = True := eq_true h
def lstO : Option MO → Option (List D)
  | some (.lst l) => some l
  | _ => none
@[simp] theorem lstO_l {l : List D} : lstO (some (.lst l)) = some l := id rfl
@[simp] theorem rdL_O {n : Nat} : rdL m n = lstO m[n]? := id rfl
def addD (o o' : Option (List D)) (m : Mem) : Res D := match o, o' with
  | some a, some b => if a.length + b.length ≤ LIM then .ok (.ref m.length) (m ++ [.lst (a ++ b)]) else .no
  | _, _ => .no
@[simp] theorem addD_s {a b : List D} : addD (some a) (some b) m = if a.length + b.length ≤ LIM then .ok (.ref m.length) (m ++ [.lst (a ++ b)]) else .no := id rfl
@[simp] theorem op_addL {p q : Nat} : opx .add (.ref p) (.ref q) m = addD (rdL m p) (rdL m q) m := by rw [opx_eq]; rfl
def kindO : Option MO → Option Bk
  | some (.lst _) => some .l
  | some (.dct _ _ _) => some .d
  | _ => none
@[simp] theorem kindO_l {l : List D} : kindO (some (.lst l)) = some .l := id rfl
@[simp] theorem kindO_d {t z : Bool} {l : List (D × D)} : kindO (some (.dct t z l)) = some .d := id rfl
def bmO (b : Bm) (n : Nat) (o : Option Bk) (r : Res (List D)) : Res D := match o with
  | some k => if bmK b k then r.bind fun ds m2 => if kindO m2[n]? = some k then bm b (.ref n) ds m2 else .no else .no
  | none => .no
@[simp] theorem bmO_s {b : Bm} {n : Nat} {k : Bk} {r : Res (List D)} : bmO b n (some k) r = if bmK b k then r.bind fun ds m2 => if kindO m2[n]? = some k then bm b (.ref n) ds m2 else .no else .no := id rfl
theorem bk_O {n : Nat} : bk m (.ref n) = kindO m[n]? := by
  show (match m[n]? with | some (.lst _) => some Bk.l | some (.dct _ _ _) => some Bk.d | _ => none) = _
  cases h : m[n]? with
  | none => rfl
  | some o => cases o <;> rfl
@[simp] theorem bmD_ref {b : Bm} {n : Nat} {r : Res (List D)} : bmD b (.ref n) m r = bmO b n (kindO m[n]?) r := by
  unfold bmD bmO
  simp only [bk_O]
@[simp] theorem bmK_al : bmK .append .l = true := id rfl
@[simp] theorem bmK_pl : bmK .pop .l = true := id rfl
@[simp] theorem bmK_qd : bmK .pop1 .d = false := id rfl
@[simp] theorem bmK_ql : bmK .pop1 .l = true := id rfl
@[simp] theorem bmK_cl : bmK .clear .l = true := id rfl
@[simp] theorem bmK_il : bmK .index .l = true := id rfl
@[simp] theorem bmK_is : bmK .sindex .s = true := id rfl
@[simp] theorem bmK_fs : bmK .find .s = true := id rfl
@[simp] theorem bmK_ss : bmK .split .s = true := id rfl
@[simp] theorem bmK_ps : bmK .partition .s = true := id rfl
@[simp] theorem bmK_js : bmK .join .s = true := id rfl
@[simp] theorem bmK_ts : bmK .startswith .s = true := id rfl
@[simp] theorem bmK_gd : bmK .get .d = true := id rfl
def appM (n : Nat) (e : D) (o : Option (List D)) (m : Mem) : Res D := match o with
  | some l => if l.length < LIM then .ok .non (m.set n (.lst (l ++ [e]))) else .no
  | none => .no
@[simp] theorem appM_s {n : Nat} {d : D} {l : List D} : appM n d (some l) m = if l.length < LIM then .ok .non (m.set n (.lst (l ++ [d]))) else .no := id rfl
@[simp] theorem bm_app {n : Nat} {d : D} : bm .append (.ref n) [d] m = appM n d (lstO m[n]?) m := by
  show (match m[n]? with | some (.lst ds) => _ | _ => Res.no) = _
  cases h : m[n]? with
  | none => rfl
  | some o => cases o <;> rfl
def popM (n : Nat) (o : Option (List D)) (m : Mem) : Res D := match o with
  | some l => (match l.getLast? with
    | some e => .ok e (m.set n (.lst l.dropLast))
    | none => .no)
  | none => .no
@[simp] theorem popM_s {n : Nat} {l : List D} : popM n (some l) m = (match l.getLast? with | some e => .ok e (m.set n (.lst l.dropLast)) | none => .no) := id rfl
@[simp] theorem bm_pop {n : Nat} : bm .pop (.ref n) [] m = popM n (lstO m[n]?) m := by
  show (match m[n]? with | some (.lst ds) => _ | _ => Res.no) = _
  cases h : m[n]? with
  | none => rfl
  | some o => cases o <;> rfl
@[simp] theorem bm_find {s t : List Nat} : bm .find (.str s) [.str t] m = .ok (.int (findS t s)) m := id rfl
def lenO : Option MO → Option Nat
  | some (.lst l) => some l.length
  | some (.dct false false l) => some l.length
  | some (.dct true false l) => some l.length
  | _ => none
@[simp] theorem lenO_l {l : List D} : lenO (some (.lst l)) = some l.length := id rfl
@[simp] theorem lenD_ref {n : Nat} : lenD m (.ref n) = lenO m[n]? := by
  show (match m[n]? with | some (.lst ds) => some ds.length | some (.dct false false kvs) => some kvs.length | some (.dct true false kvs) => some kvs.length | _ => none) = _
  cases h : m[n]? with
  | none => rfl
  | some o => cases o <;> first | rfl | (rename_i t z l; cases t <;> cases z <;> rfl)
@[simp] theorem cm_eqB {i j : Bool} : cmp2 .eq (.bl i) (.bl j) m = some (decide (i = j)) := by cases i <;> cases j <;> rfl
@[simp] theorem cm_neB {i j : Bool} : cmp2 .ne (.bl i) (.bl j) m = some (!decide (i = j)) := by cases i <;> cases j <;> rfl
@[simp] theorem gOk_n : gOk [] m = true := id rfl
def ixO (k : D) (m : Mem) : Option MO → Res D
  | some (.lst ds) => (match k with
    | .int i => opt m (atI ds i)
    | _ => .no)
  | some (.dct t _ kvs) => if keyOk t k then opt m (dGet kvs k) else .no
  | _ => .no
@[simp] theorem ix_ref {n : Nat} {k : D} : index (.ref n) k m = ixO k m m[n]? := by
  show (match m[n]? with | some (.lst ds) => _ | some (.dct t _ kvs) => _ | _ => Res.no) = _
  cases h : m[n]? with
  | none => rfl
  | some o => cases o <;> rfl
@[simp] theorem ixO_l {ds : List D} {i : Int} : ixO (.int i) m (some (.lst ds)) = opt m (atI ds i) := id rfl
@[simp] theorem ix_tup {ds : List D} {i : Int} : index (.tup ds) (.int i) m = opt m (atI ds i) := id rfl
@[simp] theorem ix_rol {ds : List D} {i : Int} : index (.rol ds) (.int i) m = opt m (atI ds i) := id rfl
@[simp] theorem ix_str {s : List Nat} {i : Int} (h : s.length ≤ LIM) : index (.str s) (.int i) m = opt m ((atI s i).map fun c => .str [c]) := by simp only [index, h, if_true]
@[simp] theorem atI_nat {α : Type} {l : List α} {k : Nat} : atI l (k : Int) = l[k]? := by
  unfold atI ixN
  by_cases h : k < l.length
  · rw [if_pos (Int.natCast_nonneg k), if_pos (by omega)]; simp
  · rw [if_pos (Int.natCast_nonneg k), if_neg (by omega), List.getElem?_eq_none (by omega)]; rfl
@[simp] theorem atI_0 {α : Type} {a : α} {l : List α} : atI (a :: l) 0 = some a := by
  have := atI_nat (l := a :: l) (k := 0); simpa using this
@[simp] theorem atI_1 {α : Type} {a b : α} {l : List α} : atI (a :: b :: l) 1 = some b := by
  have := atI_nat (l := a :: b :: l) (k := 1); simpa using this
@[simp] theorem atI_2 {α : Type} {a b c : α} {l : List α} : atI (a :: b :: c :: l) 2 = some c := by
  have := atI_nat (l := a :: b :: c :: l) (k := 2); simpa using this
@[simp] theorem atI_3 {α : Type} {a b c d : α} {l : List α} : atI (a :: b :: c :: d :: l) 3 = some d := by
  have := atI_nat (l := a :: b :: c :: d :: l) (k := 3); simpa using this
@[simp] theorem atI_lit {α : Type} {l : List α} {k : Nat} : atI l (OfNat.ofNat k) = l[k]? := atI_nat
@[simp] theorem tag_non : tagOf m .non = some .non := id rfl
@[simp] theorem tag_bool {b : Bool} : tagOf m (.bl b) = some .bool := id rfl
@[simp] theorem tag_int {i : Int} : tagOf m (.int i) = some .int := id rfl
@[simp] theorem tag_str {s : List Nat} : tagOf m (.str s) = some .str := id rfl
@[simp] theorem tag_tuple {l : List D} : tagOf m (.tup l) = some .tuple := id rfl
@[simp] theorem tag_list {l : List D} : tagOf m (.rol l) = some .list := id rfl
@[simp] theorem tag_ins {k : Nat} {l : List D} : tagOf m (.ins k l) = some (.own k) := id rfl
@[simp] theorem ti_own_cls {sb : Nat → Nat → Bool} {va : Nat → Bool} {k j : Nat} : tagIs sb va (.own k) (.cls j) = sb k j := id rfl
@[simp] theorem ti_own_int {sb : Nat → Nat → Bool} {va : Nat → Bool} {k : Nat} : tagIs sb va (.own k) .int = false := id rfl
@[simp] theorem ti_own_bool {sb : Nat → Nat → Bool} {va : Nat → Bool} {k : Nat} : tagIs sb va (.own k) .bool = false := id rfl
@[simp] theorem ti_own_str {sb : Nat → Nat → Bool} {va : Nat → Bool} {k : Nat} : tagIs sb va (.own k) .str = false := id rfl
@[simp] theorem ti_own_list {sb : Nat → Nat → Bool} {va : Nat → Bool} {k : Nat} : tagIs sb va (.own k) .list = false := id rfl
@[simp] theorem ti_own_tuple {sb : Nat → Nat → Bool} {va : Nat → Bool} {k : Nat} : tagIs sb va (.own k) .tuple = false := id rfl
@[simp] theorem ti_int_cls {sb : Nat → Nat → Bool} {va : Nat → Bool} {j : Nat} : tagIs sb va .int (.cls j) = false := id rfl
@[simp] theorem ti_int_int {sb : Nat → Nat → Bool} {va : Nat → Bool} : tagIs sb va .int .int = true := id rfl
@[simp] theorem ti_int_bool {sb : Nat → Nat → Bool} {va : Nat → Bool} : tagIs sb va .int .bool = false := id rfl
@[simp] theorem ti_int_str {sb : Nat → Nat → Bool} {va : Nat → Bool} : tagIs sb va .int .str = false := id rfl
@[simp] theorem ti_int_list {sb : Nat → Nat → Bool} {va : Nat → Bool} : tagIs sb va .int .list = false := id rfl
@[simp] theorem ti_int_tuple {sb : Nat → Nat → Bool} {va : Nat → Bool} : tagIs sb va .int .tuple = false := id rfl
@[simp] theorem ti_bool_cls {sb : Nat → Nat → Bool} {va : Nat → Bool} {j : Nat} : tagIs sb va .bool (.cls j) = false := id rfl
@[simp] theorem ti_bool_int {sb : Nat → Nat → Bool} {va : Nat → Bool} : tagIs sb va .bool .int = true := id rfl
@[simp] theorem ti_bool_bool {sb : Nat → Nat → Bool} {va : Nat → Bool} : tagIs sb va .bool .bool = true := id rfl
@[simp] theorem ti_bool_str {sb : Nat → Nat → Bool} {va : Nat → Bool} : tagIs sb va .bool .str = false := id rfl
@[simp] theorem ti_bool_list {sb : Nat → Nat → Bool} {va : Nat → Bool} : tagIs sb va .bool .list = false := id rfl
@[simp] theorem ti_bool_tuple {sb : Nat → Nat → Bool} {va : Nat → Bool} : tagIs sb va .bool .tuple = false := id rfl
@[simp] theorem ti_str_cls {sb : Nat → Nat → Bool} {va : Nat → Bool} {j : Nat} : tagIs sb va .str (.cls j) = false := id rfl
@[simp] theorem ti_str_int {sb : Nat → Nat → Bool} {va : Nat → Bool} : tagIs sb va .str .int = false := id rfl
@[simp] theorem ti_str_bool {sb : Nat → Nat → Bool} {va : Nat → Bool} : tagIs sb va .str .bool = false := id rfl
@[simp] theorem ti_str_str {sb : Nat → Nat → Bool} {va : Nat → Bool} : tagIs sb va .str .str = true := id rfl
@[simp] theorem ti_str_list {sb : Nat → Nat → Bool} {va : Nat → Bool} : tagIs sb va .str .list = false := id rfl
@[simp] theorem ti_str_tuple {sb : Nat → Nat → Bool} {va : Nat → Bool} : tagIs sb va .str .tuple = false := id rfl
@[simp] theorem ti_non_cls {sb : Nat → Nat → Bool} {va : Nat → Bool} {j : Nat} : tagIs sb va .non (.cls j) = false := id rfl
@[simp] theorem ti_non_int {sb : Nat → Nat → Bool} {va : Nat → Bool} : tagIs sb va .non .int = false := id rfl
@[simp] theorem ti_non_bool {sb : Nat → Nat → Bool} {va : Nat → Bool} : tagIs sb va .non .bool = false := id rfl
@[simp] theorem ti_non_str {sb : Nat → Nat → Bool} {va : Nat → Bool} : tagIs sb va .non .str = false := id rfl
@[simp] theorem ti_non_list {sb : Nat → Nat → Bool} {va : Nat → Bool} : tagIs sb va .non .list = false := id rfl
@[simp] theorem ti_non_tuple {sb : Nat → Nat → Bool} {va : Nat → Bool} : tagIs sb va .non .tuple = false := id rfl
@[simp] theorem ti_tuple_cls {sb : Nat → Nat → Bool} {va : Nat → Bool} {j : Nat} : tagIs sb va .tuple (.cls j) = false := id rfl
@[simp] theorem ti_tuple_int {sb : Nat → Nat → Bool} {va : Nat → Bool} : tagIs sb va .tuple .int = false := id rfl
@[simp] theorem ti_tuple_bool {sb : Nat → Nat → Bool} {va : Nat → Bool} : tagIs sb va .tuple .bool = false := id rfl
@[simp] theorem ti_tuple_str {sb : Nat → Nat → Bool} {va : Nat → Bool} : tagIs sb va .tuple .str = false := id rfl
@[simp] theorem ti_tuple_list {sb : Nat → Nat → Bool} {va : Nat → Bool} : tagIs sb va .tuple .list = false := id rfl
@[simp] theorem ti_tuple_tuple {sb : Nat → Nat → Bool} {va : Nat → Bool} : tagIs sb va .tuple .tuple = true := id rfl
@[simp] theorem ti_list_cls {sb : Nat → Nat → Bool} {va : Nat → Bool} {j : Nat} : tagIs sb va .list (.cls j) = false := id rfl
@[simp] theorem ti_list_int {sb : Nat → Nat → Bool} {va : Nat → Bool} : tagIs sb va .list .int = false := id rfl
@[simp] theorem ti_list_bool {sb : Nat → Nat → Bool} {va : Nat → Bool} : tagIs sb va .list .bool = false := id rfl
@[simp] theorem ti_list_str {sb : Nat → Nat → Bool} {va : Nat → Bool} : tagIs sb va .list .str = false := id rfl
@[simp] theorem ti_list_list {sb : Nat → Nat → Bool} {va : Nat → Bool} : tagIs sb va .list .list = true := id rfl
@[simp] theorem ti_list_tuple {sb : Nat → Nat → Bool} {va : Nat → Bool} : tagIs sb va .list .tuple = false := id rfl
@[simp] theorem gOk_c {n : Nat} {o : MO} {g : Guard} : gOk ((n, o) :: g) m = (decide (m[n]? = some o) && gOk g m) := by simp [gOk]
def seqO (n : Nat) (o : Option MO) (m : Mem) : Res (List D × Guard) := match o with
  | some (.lst ds) => .ok (ds, [(n, .lst ds)]) m
  | _ => .no
@[simp] theorem seqO_l {n : Nat} {ds : List D} : seqO n (some (.lst ds)) m = .ok (ds, [(n, .lst ds)]) m := id rfl
@[simp] theorem seqD_ref {n : Nat} : seqD (.ref n) m = seqO n m[n]? m := by
  unfold seqD seqO
  simp only [seqOf]
  cases h : m[n]? with
  | none => rfl
  | some o => cases o <;> rfl
def loopK (r : SR) (k : Sto → Mem → SR) : SR := match r with
  | .nx σ m => k σ m
  | .ct σ m => k σ m
  | .bk σ m => .nx σ m
  | r => r
@[simp] theorem loopK_nx {k : Sto → Mem → SR} : loopK (.nx σ m) k = k σ m := id rfl
@[simp] theorem loopK_ct {k : Sto → Mem → SR} : loopK (.ct σ m) k = k σ m := id rfl
@[simp] theorem loopK_bk {k : Sto → Mem → SR} : loopK (.bk σ m) k = .nx σ m := id rfl
@[simp] theorem loopK_rt {d : D} {k : Sto → Mem → SR} : loopK (.rt d m) k = .rt d m := id rfl
@[simp] theorem loopK_ex {j : Nat} {k : Sto → Mem → SR} : loopK (.ex j σ m) k = .ex j σ m := id rfl
def bindK (o : Option Sto) (k : Sto → SR) : SR := match o with
  | some σ => k σ
  | none => .no
@[simp] theorem bindK_s {k : Sto → SR} : bindK (some σ) k = k σ := id rfl
theorem frLoop_c {g : Guard} {tg : Tg} {body : Sto → Mem → SR} {d : D} {ds : List D} : frLoop g tg body (d :: ds) σ m = if gOk g m then bindK (bindT m tg d σ) (fun σ' => loopK (body σ' m) (fun σ2 m2 => frLoop g tg body ds σ2 m2)) else .no := by
  simp only [frLoop]
  cases h : gOk g m with
  | false => simp
  | true =>
    simp only [if_true]
    cases bindT m tg d σ with
    | none => rfl
    | some σ' => simp only [bindK_s]; cases body σ' m <;> rfl
theorem frLoop_n {g : Guard} {tg : Tg} {body : Sto → Mem → SR} : frLoop g tg body [] σ m = if gOk g m then .nx σ m else .no := by simp only [frLoop]
def lcP (n : Nat) (v : D) (o : Option (List D)) (m : Mem) (k : Mem → Res D) : Res D := match o with
  | some acc => if acc.length < LIM then k (m.set n (.lst (acc ++ [v]))) else .no
  | none => .no
@[simp] theorem lcP_s {n : Nat} {v : D} {acc : List D} {k : Mem → Res D} : lcP n v (some acc) m k = if acc.length < LIM then k (m.set n (.lst (acc ++ [v]))) else .no := id rfl
def bindR (o : Option Sto) (k : Sto → Res D) : Res D := match o with
  | some σ => k σ
  | none => .no
@[simp] theorem bindR_s {k : Sto → Res D} : bindR (some σ) k = k σ := id rfl
theorem lcLoop_c {g : Guard} {n : Nat} {tg : Tg} {c e : Sto → Mem → Res D} {d : D} {ds : List D} : lcLoop g n tg c e σ (d :: ds) m = if gOk g m then bindR (bindT m tg d σ) (fun σ' => (c σ' m).calm.bind fun b m1 => iteD b ((e σ' m1).calm.bind fun v m2 => lcP n v (lstO m2[n]?) m2 (fun m3 => lcLoop g n tg c e σ ds m3)) (lcLoop g n tg c e σ ds m1)) else .no := by
  simp only [lcLoop]
  cases h : gOk g m with
  | false => simp
  | true =>
    simp only [if_true]
    cases bindT m tg d σ with
    | none => rfl
    | some σ' =>
      simp only [bindR_s]
      congr 1
      funext b m1
      cases b <;> first
        | rfl
        | skip
      rename_i kb
      cases kb
      · rfl
      · simp only [iteD_t]
        congr 1
        funext v m2
        cases m2[n]? with
        | none => rfl
        | some o => cases o <;> rfl
theorem lcLoop_n {g : Guard} {n : Nat} {tg : Tg} {c e : Sto → Mem → Res D} : lcLoop g n tg c e σ [] m = if gOk g m then .ok (.ref n) m else .no := by simp only [lcLoop]
end
end FS
namespace FS
section
variable {C : Ctx} {σ : Sto} {m : Mem} {a b c e : E} {l : Es}
def stoK (n : Nat) (k v : D) (σ : Sto) (m : Mem) : Option MO → SR
  | some (.lst ds) => (match k with
    | .int i => (match ixN ds.length i with
      | some j => .nx σ (m.set n (.lst (ds.set j v)))
      | none => .no)
    | _ => .no)
  | some (.dct t false kvs) => if keyOk t k && decide (kvs.length < LIM) then .nx σ (m.set n (.dct t false (dPut kvs k v))) else .no
  | _ => .no
def stoD (x k v : D) (σ : Sto) (m : Mem) : SR := match storeI x k v m with
  | some m4 => .nx σ m4
  | none => .no
@[simp] theorem ex_setI {i : E} : execS C (.setI a i e) σ m = (evalE C e σ m).toS σ fun v m1 => (evalE C a σ m1).toS σ fun x m2 => (evalE C i σ m2).toS σ fun k m3 => stoD x k v σ m3 := by simp only [execS]; rfl
@[simp] theorem stoD_ref {n : Nat} {k v : D} : stoD (.ref n) k v σ m = stoK n k v σ m m[n]? := by
  unfold stoD stoK storeI
  dsimp only
  cases h : m[n]? with
  | none => rfl
  | some o => cases o with
    | lst ds =>
      cases k <;> first | rfl | skip
      rename_i i
      simp only
      cases ixN ds.length i <;> rfl
    | dct t z kvs =>
      cases z
      · dsimp only
        cases hb : (keyOk t k && decide (kvs.length < LIM)) <;> simp
      · rfl
    | obj c fs => rfl
@[simp] theorem stoK_l {n : Nat} {i : Int} {v : D} {ds : List D} : stoK n (.int i) v σ m (some (.lst ds)) = (match ixN ds.length i with
      | some j => .nx σ (m.set n (.lst (ds.set j v)))
      | none => .no) := id rfl
@[simp] theorem stoK_d {n : Nat} {k v : D} {t : Bool} {kvs : List (D × D)} : stoK n k v σ m (some (.dct t false kvs)) = if keyOk t k && decide (kvs.length < LIM) then .nx σ (m.set n (.dct t false (dPut kvs k v))) else .no := id rfl
@[simp] theorem bmK_dp : bmK .dpop .d = true := id rfl
@[simp] theorem bmK_dc : bmK .dclear .d = true := id rfl
def dpopK (n : Nat) (k : D) (m : Mem) : Option MO → Res D
  | some (.dct false false kvs) => if keyOk false k then (match dGet kvs k with
      | some v => .ok v (m.set n (.dct false false (dDrop kvs k)))
      | none => .no) else .no
  | _ => .no
@[simp] theorem bm_dpop {n : Nat} {k : D} : bm .dpop (.ref n) [k] m = dpopK n k m m[n]? := by
  show (match m[n]? with | some (.dct false false kvs) => _ | _ => Res.no) = _
  cases h : m[n]? with
  | none => rfl
  | some o => cases o with
    | dct t z kvs => cases t <;> cases z <;> rfl
    | _ => rfl
@[simp] theorem dpopK_d {n : Nat} {k : D} {kvs : List (D × D)} : dpopK n k m (some (.dct false false kvs)) = if keyOk false k then (match dGet kvs k with
      | some v => .ok v (m.set n (.dct false false (dDrop kvs k)))
      | none => .no) else .no := id rfl
def slcK (lo hi : Option Int) (m : Mem) : Option MO → Res D
  | some (.lst ds) => .ok (.ref m.length) (m ++ [.lst (cut ds lo hi)])
  | _ => .no
@[simp] theorem slc_ref {n : Nat} {lo hi : Option Int} : slice (.ref n) lo hi m = slcK lo hi m m[n]? := by
  show (match seqL m (.ref n) with | some ds => Res.ok (D.ref m.length) (m ++ [MO.lst (cut ds lo hi)]) | none => Res.no) = _
  unfold seqL rdL slcK
  dsimp only
  cases h : m[n]? with
  | none => rfl
  | some o => cases o <;> rfl
@[simp] theorem slcK_l {lo hi : Option Int} {ds : List D} : slcK lo hi m (some (.lst ds)) = .ok (.ref m.length) (m ++ [.lst (cut ds lo hi)]) := id rfl
def lstK (m : Mem) : Option MO → Res D
  | some (.lst ds) => .ok (.ref m.length) (m ++ [.lst ds])
  | some (.dct false false kvs) => .ok (.ref m.length) (m ++ [.lst (kvs.map (·.1))])
  | some (.dct true false kvs) => .ok (.ref m.length) (m ++ [.lst (kvs.map (·.1))])
  | _ => .no
@[simp] theorem bi_list {n : Nat} : bi .list [.ref n] m = lstK m m[n]? := by
  show (match m[n]? with | some (.lst ds) => _ | some (.dct false false kvs) => _ | some (.dct true false kvs) => _ | _ => Res.no) = _
  cases h : m[n]? with
  | none => rfl
  | some o => cases o with
    | dct t z kvs => cases t <;> cases z <;> rfl
    | _ => rfl
@[simp] theorem lstK_l {ds : List D} : lstK m (some (.lst ds)) = .ok (.ref m.length) (m ++ [.lst ds]) := id rfl
def dctK (m : Mem) : Option MO → Res D
  | some (.dct false false kvs) => .ok (.ref m.length) (m ++ [.dct false false kvs])
  | _ => .no
@[simp] theorem bi_dict {n : Nat} : bi .dict [.ref n] m = dctK m m[n]? := by
  show (match m[n]? with | some (.dct false false kvs) => _ | _ => Res.no) = _
  cases h : m[n]? with
  | none => rfl
  | some o => cases o with
    | dct t z kvs => cases t <;> cases z <;> rfl
    | _ => rfl
@[simp] theorem dctK_d {kvs : List (D × D)} : dctK m (some (.dct false false kvs)) = .ok (.ref m.length) (m ++ [.dct false false kvs]) := id rfl
@[simp] theorem ixO_d {k : D} {t z : Bool} {kvs : List (D × D)} : ixO k m (some (.dct t z kvs)) = if keyOk t k then opt m (dGet kvs k) else .no := by cases k <;> rfl
theorem op_pow {i j : Int} (h0 : 0 ≤ j) (h : j ≤ 1000000) (h2 : i.natAbs < 18446744073709551616) : opx .pow (.int i) (.int j) m = .ok (.int (i ^ j.toNat)) m := by
  rw [opx_eq]
  show (if 0 ≤ j ∧ j ≤ 1000000 ∧ i.natAbs < 18446744073709551616 then _ else _) = _
  rw [if_pos ⟨h0, h, h2⟩]
end
end FS
namespace FV
open FS
def dropS : Nat → Ss → Ss
  | 0, b => b
  | k + 1, .cons _ r => dropS k r
  | _ + 1, .nil => .nil
def takeS : Nat → Ss → Ss
  | 0, _ => .nil
  | k + 1, .cons s r => .cons s (takeS k r)
  | _ + 1, .nil => .nil
@[simp] theorem dropS_0 {b : Ss} : dropS 0 b = b := by cases b <;> rfl
@[simp] theorem dropS_c {k : Nat} {s : S} {r : Ss} : dropS (k + 1) (.cons s r) = dropS k r := rfl
@[simp] theorem takeS_0 {b : Ss} : takeS 0 b = .nil := by cases b <;> rfl
@[simp] theorem takeS_c {k : Nat} {s : S} {r : Ss} : takeS (k + 1) (.cons s r) = .cons s (takeS k r) := rfl
end FV
namespace FV
open FS
abbrev Gd := Nat × Nat × Nat
def gd (c : Int) : Gd := ((c % 6).toNat, (c / 6 % 4).toNat, (c / 24 % 4).toNat)
def gdV (g : Gd) : V := .tup [.int (g.1 : Int), .str [97 + g.2.1], .str [97 + g.2.2]]
def gdOk (g : Gd) : Prop := g.1 < 6 ∧ g.2.1 < 4 ∧ g.2.2 < 4
theorem pqrst_at : ∀ k : Nat, k < 5 → [80, 81, 82, 83, 84][k]? = some (80 + k) := by decide
inductive Pr where
  | skip | stop | deed (c : Nat) | row (a b : Pr) | ife (g : Gd) (a b : Pr) | whl (g : Gd) (a : Pr)
  deriving DecidableEq, Inhabited
namespace Pr
def V : Pr → FV.V
  | skip => .tup [.str [115, 107, 105, 112]]
  | stop => .tup [.str [115, 116, 111, 112]]
  | deed c => .tup [.str [100, 101, 101, 100], .str [c]]
  | row a b => .tup [.str [114, 111, 119], a.V, b.V]
  | ife g a b => .tup [.str [105, 102], gdV g, a.V, b.V]
  | whl g a => .tup [.str [119, 104, 105, 108, 101], gdV g, a.V]
@[simp] theorem V_ref (t : Pr) : t.V.isRef = false := by cases t <;> rfl
def ok : Pr → Prop
  | deed c => 80 ≤ c ∧ c < 85
  | row a b => a.ok ∧ b.ok
  | ife g a b => gdOk g ∧ a.ok ∧ b.ok
  | whl g a => gdOk g ∧ a.ok
  | _ => True
def ht : Pr → Nat
  | row a b => max a.ht b.ht + 1
  | ife _ a b => max a.ht b.ht + 1
  | whl _ a => a.ht + 1
  | _ => 0
end Pr
def leaf (c : Int) : Pr := if c % 5 = 4 then (if c / 5 % 3 = 1 then .stop else .skip) else .deed (80 + (c / 5 % 5).toNat)
def grow (st : List Pr) (c : Int) : List Pr :=
  if c % 8 = 3 then match st with
    | x :: r => .whl (gd (c / 8)) x :: r
    | [] => []
  else if c % 8 < 3 ∨ st.length = 1 then leaf (c / 8) :: st
  else if c % 8 < 6 then match st with
    | y :: x :: r => .row x y :: r
    | _ => []
  else match st with
    | y :: x :: r => .ife (gd (c / 8)) x y :: r
    | _ => []
termination_by st => st.length
end FV
namespace FV
open FS
def Tst.nn : Tst → Bool
  | no => false
  | not t => t.nn
  | both a b | either a b => a.nn && b.nn
  | _ => true
def Stp.wf : Stp → Prop
  | deed c => 80 ≤ c ∧ c < 85
  | row a b => a.wf ∧ b.wf
  | choice t a b => (t.ok = true ∧ t.nn = true) ∧ a.wf ∧ b.wf
  | loop t a => (t.ok = true ∧ t.nn = true) ∧ a.wf
  | _ => True
def Stp.dp : Stp → Nat
  | row a b => max a.dp b.dp + 1
  | choice _ a b => max a.dp b.dp + 1
  | loop _ a => a.dp + 1
  | _ => 0
def Stp.nd : Stp → Nat
  | row a b => a.nd + b.nd + 1
  | choice _ a b => a.nd + b.nd + 1
  | loop _ a => a.nd + 1
  | _ => 1
def Stp.th : Stp → Nat
  | row a b => max a.th b.th
  | choice t a b => max t.ht (max a.th b.th)
  | loop t a => max t.ht a.th
  | _ => 0
def Stp.small (p : Stp) (k : Nat) : Prop := p.wf ∧ p.dp ≤ k ∧ p.th ≤ 2
end FV
namespace FV
open FS
mutual
def nbS (i : Nat) : S → Bool
  | .set j _ => j != i
  | .unp t _ => !(tgN t).contains i
  | .ifs _ a b => nbSs i a && nbSs i b
  | .whl _ b => nbSs i b
  | .frs t _ b => !(tgN t).contains i && nbSs i b
  | .frsI _ _ _ => false
  | .try_ _ _ _ _ => false
  | .ndef _ _ _ => false
  | .cal _ => false
  | _ => true
def nbSs (i : Nat) : Ss → Bool
  | .nil => true
  | .cons x r => nbS i x && nbSs i r
end
mutual
theorem bindT_keep (m : Mem) (i : Nat) : ∀ (t : Tg) (d : D) (σ σ' : Sto), bindT m t d σ = some σ' → i ∉ tgN t → σ'[i]? = σ[i]?
  | .nm j, d, σ, σ', h, hi => by
    rw [bindT] at h
    cases h
    rw [List.getElem?_set_ne]
    intro e
    exact hi (by rw [tgN_nm]; simp [e])
  | .tp l, d, σ, σ', h, hi => by
    rw [tgN_tp] at hi
    cases d with
    | tup ds => rw [bindT] at h; exact bindTs_keep m i l _ σ σ' h hi
    | ref n =>
      rw [bindT] at h
      cases e : rdL m n with
      | none => rw [e] at h; cases h
      | some ds => rw [e] at h; exact bindTs_keep m i l ds σ σ' h hi
    | _ => simp [bindT] at h
theorem bindTs_keep (m : Mem) (i : Nat) : ∀ (l : List Tg) (ds : List D) (σ σ' : Sto), bindTs m l ds σ = some σ' → i ∉ tgNs l → σ'[i]? = σ[i]?
  | [], [], σ, σ', h, _ => by rw [bindTs] at h; cases h; rfl
  | t :: l, d :: ds, σ, σ', h, hi => by
    rw [bindTs] at h
    rw [tgNs_c, List.mem_append] at hi
    cases e : bindT m t d σ with
    | none => rw [e] at h; cases h
    | some σ1 =>
      rw [e] at h
      exact (bindTs_keep m i l ds σ1 σ' h fun z => hi (.inr z)).trans (bindT_keep m i t d σ σ1 e fun z => hi (.inl z))
  | [], _ :: _, σ, σ', h, _ => by rw [bindTs] at h; cases h
  | _ :: _, [], σ, σ', h, _ => by rw [bindTs] at h; cases h
end
def Keeps (i : Nat) (σ : Sto) : SR → Prop
  | .nx σ' _ | .bk σ' _ | .ct σ' _ => σ'[i]? = σ[i]?
  | _ => True
theorem Keeps.tr {i : Nat} {σ σ1 : Sto} (h : σ1[i]? = σ[i]?) {r : SR} (k : Keeps i σ1 r) : Keeps i σ r := by
  cases r <;> first | trivial | exact (show _ = _ from k).trans h
theorem fr_keep {i : Nat} {g : Guard} {tg : Tg} {body : Sto → Mem → SR} (ht : i ∉ tgN tg) (hb : ∀ σ m, Keeps i σ (body σ m)) : ∀ (l : List D) (σ : Sto) (m : Mem), Keeps i σ (frLoop g tg body l σ m)
  | [], σ, m => by
    rw [frLoop]; split
    · rfl
    · trivial
  | d :: l, σ, m => by
    rw [frLoop]; split
    · cases e : bindT m tg d σ with
      | none => trivial
      | some σ1 =>
        simp only
        have e1 := bindT_keep m i tg d σ σ1 e ht
        have k := hb σ1 m
        cases eb : body σ1 m <;> rw [eb] at k <;> simp only
        · exact (fr_keep ht hb l _ _).tr ((show _ = _ from k).trans e1)
        · trivial
        · exact (show _ = _ from k).trans e1
        · exact (fr_keep ht hb l _ _).tr ((show _ = _ from k).trans e1)
        · trivial
        · trivial
    · trivial
theorem wh_keep {i : Nat} {c : Sto → Mem → Res D} {body : Sto → Mem → SR} (hb : ∀ σ m, Keeps i σ (body σ m)) : ∀ (k : Nat) (σ : Sto) (m : Mem), Keeps i σ (whLoop c body k σ m)
  | 0, σ, m => trivial
  | k + 1, σ, m => by
    rw [whLoop]
    cases c σ m with
    | ok d m1 =>
      simp only [Res.toS]
      cases d <;> first | trivial | skip
      rename_i b
      cases b with
      | false => exact rfl
      | true =>
        simp only
        have kb := hb σ m1
        cases eb : body σ m1 <;> rw [eb] at kb <;> simp only
        · exact (wh_keep hb k _ _).tr kb
        · trivial
        · exact kb
        · exact (wh_keep hb k _ _).tr kb
        · trivial
        · trivial
    | ex c m1 => trivial
    | no => trivial
theorem toS_keep {i : Nat} {α : Type} {σ : Sto} {r : Res α} {f : α → Mem → SR} (h : ∀ a m, Keeps i σ (f a m)) : Keeps i σ (r.toS σ f) := by
  cases r with
  | ok a m => exact h a m
  | _ => trivial
mutual
theorem exec_keep (C : Ctx) (i : Nat) : ∀ (x : S), nbS i x = true → ∀ σ m, Keeps i σ (execS C x σ m)
  | .set j e, h, σ, m => by
    rw [execS]
    refine toS_keep fun d m1 => ?_
    show (σ.set j (some d))[i]? = σ[i]?
    rw [List.getElem?_set_ne (by simpa [nbS] using h)]
  | .unp t e, h, σ, m => by
    rw [execS]
    refine toS_keep fun d m1 => ?_
    cases eb : bindT m1 t d σ with
    | none => trivial
    | some σ1 => exact bindT_keep m1 i t d σ σ1 eb (by simpa [nbS] using h)
  | .ex e, h, σ, m => by rw [execS]; exact toS_keep fun d m1 => rfl
  | .ret e, h, σ, m => by rw [execS]; exact toS_keep fun d m1 => trivial
  | .retN, h, σ, m => by rw [execS]; trivial
  | .ifs c a b, h, σ, m => by
    simp only [nbS, Bool.and_eq_true] at h
    rw [execS]
    refine toS_keep fun d m1 => ?_
    cases d <;> first | trivial | skip
    rename_i k
    cases k with
    | true => exact execs_keep C i a h.1 σ m1
    | false => exact execs_keep C i b h.2 σ m1
  | .whl c b, h, σ, m => by rw [execS]; exact wh_keep (fun σ m => execs_keep C i b h σ m) _ _ _
  | .frs t it b, h, σ, m => by
    simp only [nbS, Bool.and_eq_true] at h
    rw [execS]
    exact toS_keep fun p m1 => fr_keep (by simpa using h.1) (fun σ m => execs_keep C i b h.2 σ m) _ _ _
  | .frsI _ _ _, h, σ, m => by simp [nbS] at h
  | .brk, h, σ, m => by rw [execS]; exact rfl
  | .cnt, h, σ, m => by rw [execS]; exact rfl
  | .pss, h, σ, m => by rw [execS]; exact rfl
  | .rse c, h, σ, m => by rw [execS]; trivial
  | .try_ b c s hd, h, σ, m => by simp [nbS] at h
  | .ndef j f cs, h, σ, m => by simp [nbS] at h
  | .cal b, h, σ, m => by simp [nbS] at h
  | .setI a j e, h, σ, m => by
    rw [execS]
    refine toS_keep fun v m1 => toS_keep fun x m2 => toS_keep fun k m3 => ?_
    cases storeI x k v m3 with
    | none => trivial
    | some m4 => exact rfl
  | .setF a f e, h, σ, m => by
    rw [execS]
    refine toS_keep fun v m1 => toS_keep fun x m2 => ?_
    cases x <;> first | trivial | skip
    rename_i n
    simp only
    cases m2[n]? with
    | none => trivial
    | some mo =>
      cases mo <;> first | trivial | skip
      simp only
      split
      · exact rfl
      · trivial
theorem execs_keep (C : Ctx) (i : Nat) : ∀ (x : Ss), nbSs i x = true → ∀ σ m, Keeps i σ (execSs C x σ m)
  | .nil, h, σ, m => by rw [execSs]; exact rfl
  | .cons x r, h, σ, m => by
    simp only [nbSs, Bool.and_eq_true] at h
    rw [execSs]
    have k := exec_keep C i x h.1 σ m
    cases e : execS C x σ m <;> rw [e] at k <;> first | trivial | exact k | skip
    exact (execs_keep C i r h.2 _ _).tr k
end
def All (m : Mem) : Nat → Prop := fun a => a < m.length
theorem call_all {P : Prog} {O : Ov} (hO : OvOk P O) {n f : Nat} {vs : List V} {fr : Bool} {v : V} (h : callV P O n f vs = .ok fr v) {ds : List D} {m : Mem} (r : Rs (All m) m vs ds) :
    ∃ d m' B', call P n f ds m = .ok d m' ∧ (∀ a, a < m.length → m'[a]? = m[a]?) ∧ VRc B' m m' fr v d := by
  have o := callV_ok hO n f vs ds m (All m) (fun a h => h) (RAs.ofRs r)
  rw [h] at o
  obtain ⟨d, m', B', e, c, q⟩ := o
  exact ⟨d, m', B', e, fun a ha => c.old a ha, q⟩
mutual
def nr : V → Bool
  | .lst _ | .dct _ _ | .ldc _ _ | .obj _ _ => false
  | .tup vs | .rol vs | .ins _ vs | .clo _ vs => nrs vs
  | _ => true
def nrs : List V → Bool
  | [] => true
  | v :: vs => nr v && nrs vs
end
mutual
theorem nr_R : ∀ {v : V} {d : D} {B : Nat → Prop} {m : Mem}, nr v = true → R B m v d → ∀ B' m', R B' m' v d
  | _, _, _, _, _, .non, B', m' => .non
  | _, _, _, _, _, .bl b, B', m' => .bl b
  | _, _, _, _, _, .int b, B', m' => .int b
  | _, _, _, _, _, .str b, B', m' => .str b
  | _, _, _, _, _, .exc b, B', m' => .exc b
  | _, _, _, _, h, .tup r, B', m' => .tup (nrs_R (by simpa [nr] using h) r B' m')
  | _, _, _, _, h, .rol r, B', m' => .rol (nrs_R (by simpa [nr] using h) r B' m')
  | _, _, _, _, h, .ins r, B', m' => .ins (nrs_R (by simpa [nr] using h) r B' m')
  | _, _, _, _, h, .clo r, B', m' => .clo (nrs_R (by simpa [nr] using h) r B' m')
  | _, _, _, _, h, .lst _ _ _, B', m' => by simp [nr] at h
  | _, _, _, _, h, .dct _ _ _, B', m' => by simp [nr] at h
  | _, _, _, _, h, .ldc _ _ _, B', m' => by simp [nr] at h
  | _, _, _, _, h, .obj _ _ _, B', m' => by simp [nr] at h
theorem nrs_R : ∀ {v : List V} {d : List D} {B : Nat → Prop} {m : Mem}, nrs v = true → Rs B m v d → ∀ B' m', Rs B' m' v d
  | _, _, _, _, _, .nil, B', m' => .nil
  | _, _, _, _, h, .cons a r, B', m' => by
    simp only [nrs, Bool.and_eq_true] at h
    exact .cons (nr_R h.1 a B' m') (nrs_R h.2 r B' m')
end
end FV
namespace FV
open FS
inductive Say where
  | nowhere (t : Tst) | behind (a : Tst) (d : Nat) (b : Tst) | through (t : Tst) (d : Nat)
  deriving DecidableEq, Repr
namespace Say
def V : Say → FV.V
  | nowhere t => .ins 18 [t.V]
  | behind a d b => .ins 19 [a.V, .str [d], b.V, .int (a.mask : Int), .int (b.mask : Int)]
  | through t d => .ins 20 [t.V, .str [d], .int (t.mask : Int)]
def cls : Say → Nat
  | nowhere _ => 18 | behind _ _ _ => 19 | through _ _ => 20
def ok : Say → Bool
  | nowhere t => t.ok
  | behind a _ b => a.ok && b.ok
  | through t _ => t.ok
def ht : Say → Nat
  | nowhere t => t.ht
  | behind a _ b => max a.ht b.ht
  | through t _ => t.ht
@[simp] theorem V_ref (t : Say) : t.V.isRef = false := by cases t <;> rfl
@[simp] theorem V_cls (t : Say) : clsV t.V = some t.cls := by cases t <;> rfl
@[simp] theorem V_tag (t : Say) : t.V.tag = some (.own t.cls) := by cases t <;> rfl
@[simp] theorem V_non (t : Say) : t.V.isNon = false := by cases t <;> rfl
end Say
def Sub (x y : Nat) : Prop := ∀ j, x.testBit j = true → y.testBit j = true
theorem Sub.refl (x : Nat) : Sub x x := fun _ h => h
theorem Sub.trans {x y z : Nat} (h : Sub x y) (g : Sub y z) : Sub x z := fun j a => g j (h j a)
theorem bit_lt {x : Nat} (h : x < 65536) {j : Nat} (b : x.testBit j = true) : j < 16 := by
  rcases Nat.lt_or_ge j 16 with g | g
  · exact g
  · have : x < 2 ^ j := Nat.lt_of_lt_of_le h (by simpa using Nat.pow_le_pow_right (n := 2) (by decide) g)
    rw [Nat.testBit_lt_two_pow this] at b; cases b
theorem Sub.lt {x y : Nat} (h : Sub x y) (hy : y < 65536) : x < 65536 := by
  have : x < 2 ^ 16 := Nat.lt_pow_two_of_testBit _ fun i hi => by
    cases e : x.testBit i with
    | false => rfl
    | true => have := bit_lt hy (h i e); omega
  simpa using this
def rmv (x s : Nat) : Nat := x &&& (65535 ^^^ 1 <<< s)
def turn (c : Nat → Nat → Bool) (x s : Nat) : Nat := if c x s then rmv x s else x
def sweep (c : Nat → Nat → Bool) (l : List Nat) (x : Nat) : Nat := l.foldl (turn c) x
def again (c : Nat → Nat → Bool) : Nat → Nat → Nat
  | 0, x => x
  | k + 1, x => if sweep c (List.range 16) x = x then x else again c k (sweep c (List.range 16) x)
def DD : List Nat := [80, 81, 82, 83, 84]
end FV
namespace FV
open FS
abbrev Y0 : Nat → Nat → Prop := fun _ _ => False
def app : Ss → Ss → Ss
  | .nil, b => b
  | .cons x a, b => .cons x (app a b)
theorem seq_assoc (r : SR) (f g : Sto → Mem → SR) : (r.seq f).seq g = r.seq fun σ m => (f σ m).seq g := by cases r <;> rfl
theorem exec_app (C : Ctx) : ∀ (a b : Ss) (σ : Sto) (m : Mem), execSs C (app a b) σ m = (execSs C a σ m).seq fun σ' m' => execSs C b σ' m'
  | .nil, b, σ, m => by rw [app, execSs]; rfl
  | .cons x a, b, σ, m => by
    rw [app, execSs, execSs, seq_assoc]
    congr 1
    funext σ' m'
    exact exec_app C a b σ' m'
theorem inv_sh {Z B : Nat → Prop} {s : VSto} {σ : Sto} {m : Mem} (hz : ∀ a, Z a → a < m.length ∧ ¬ B a) (hb : ∀ a, B a → a < m.length) (len : s.length = σ.length)
    (hs : ∀ (i : Nat) (y : Kd × V), s[i]? = some (some y) → ∃ (v : V) (d : D), y = (Kd.sh, v) ∧ σ[i]? = some (some d) ∧ FV.R B m v d) : FV.Inv Y0 Z B s σ m := by
  refine ⟨fun _ _ h => h.elim, hb, hz, len, fun i v h => ?_, fun i v h => ?_, fun i v h => ?_, fun i v h => ?_, fun i j v w n h => ?_⟩
  · obtain ⟨v', d, e, e2, r⟩ := hs i _ h
    cases e
    exact ⟨d, e2, r⟩
  all_goals (obtain ⟨v', d, e, _⟩ := hs i _ h; cases e)
theorem call_succ2 (P : Prog) (j f : Nat) (ds : List D) (m : Mem) : call P (j + 2) f ds m = match P.fns f with
    | some F => runFn (ctx P (call P (j + 1)) (call P j)) F ds m
    | none => .no := rfl
theorem vctx_h {P : Prog} {O : Ov} (hO : OvOk P O) (j : Nat) : CtxOk (vctx P O (j + 1) (callV P O (j + 1)) (callV P O j)) (ctx P (call P (j + 1)) (call P j)) :=
  vctx_ok hO (j + 1) (fun f => callV_ok hO (j + 1) f) (fun f => callV_ok hO j f)
abbrev Z0 : Nat → Prop := fun _ => False
theorem all_inv {s : VSto} {σ : Sto} {m : Mem} (len : s.length = σ.length)
    (hs : ∀ (i : Nat) (y : Kd × V), s[i]? = some (some y) → ∃ (v : V) (d : D), y = (Kd.sh, v) ∧ σ[i]? = some (some d) ∧ FV.R (All m) m v d) : FV.Inv Y0 Z0 (All m) s σ m :=
  inv_sh (fun _ h => h.elim) (fun _ h => h) len hs
theorem len_le {m m' : Mem} (h : ∀ a, a < m.length → m'[a]? = m[a]?) : m.length ≤ m'.length := by
  rcases Nat.lt_or_ge m'.length m.length with hl | hl
  · have := h m'.length hl
    rw [List.getElem?_eq_none (Nat.le_refl _), List.getElem?_eq_getElem hl] at this
    cases this
  · exact hl
theorem Rs.ints {B : Nat → Prop} {m : Mem} : ∀ {l : List Int} {ds : List D}, Rs B m (l.map V.int) ds → ds = l.map D.int
  | [], _, .nil => rfl
  | a :: l, _, .cons r rs => by
    cases r
    rw [List.map_cons, Rs.ints rs]
theorem ints_R {B : Nat → Prop} {m : Mem} : ∀ (l : List Int), Rs B m (l.map V.int) (l.map D.int)
  | [] => .nil
  | a :: l => .cons (.int a) (ints_R l)
end FV
namespace FV
open FS
theorem Rk.append {B : Nat → Prop} {m : Mem} {k : D} {v : V} {d : D} (r : R B m v d) : ∀ {l : List (D × V)} {ks : List (D × D)}, Rk B m l ks → Rk B m (l ++ [(k, v)]) (ks ++ [(k, d)])
  | _, _, .nil => .cons r .nil
  | _, _, .cons a rs => .cons a (Rk.append r rs)
theorem dPut_new {ks : List (D × D)} {k v : D} (h : k ∉ ks.map Prod.fst) : dPut ks k v = ks ++ [(k, v)] := by
  unfold dPut
  rw [if_neg]
  intro e
  rw [List.any_eq_true] at e
  obtain ⟨p, hp, e⟩ := e
  exact h (List.mem_map.mpr ⟨p, hp, D.beq_iff.mp e⟩)
end FV
namespace FV
open FS
def upd (g : Nat → Nat) (s v : Nat) : Nat → Nat := fun t => if t = s then v else g t
theorem upd_same {g : Nat → Nat} {s v : Nat} (h : v = g s) : upd g s v = g := by
  funext t
  unfold upd
  split
  · rename_i e; rw [h, e]
  · rfl
end FV
namespace FV
open FS
section
variable {C : Ctx} {σ σ' : Sto} {m m1 m2 m3 m4 : Mem}
theorem nx_seq (f : Sto → Mem → SR) : (SR.nx σ m).seq f = f σ m := rfl
theorem hx_c {s : S} {r : Ss} (h : execS C s σ m = .nx σ' m1) : execSs C (.cons s r) σ m = execSs C r σ' m1 := by rw [execSs, h]; rfl
theorem hx_r {s : S} {r : Ss} {d : D} (h : execS C s σ m = .rt d m1) : execSs C (.cons s r) σ m = .rt d m1 := by rw [execSs, h]; rfl
theorem hx_n : execSs C .nil σ m = .nx σ m := by rw [execSs]
theorem hx_set {i : Nat} {e : E} {d : D} (h : evalE C e σ m = .ok d m1) : execS C (.set i e) σ m = .nx (σ.set i (some d)) m1 := by rw [execS, h]; rfl
theorem hx_ret {e : E} {d : D} (h : evalE C e σ m = .ok d m1) : execS C (.ret e) σ m = .rt d m1 := by rw [execS, h]; rfl
theorem hx_ex {e : E} {d : D} (h : evalE C e σ m = .ok d m1) : execS C (.ex e) σ m = .nx σ m1 := by rw [execS, h]; rfl
theorem hx_setI {a i e : E} {v x k : D} (h1 : evalE C e σ m = .ok v m1) (h2 : evalE C a σ m1 = .ok x m2) (h3 : evalE C i σ m2 = .ok k m3) (h4 : storeI x k v m3 = some m4) : execS C (.setI a i e) σ m = .nx σ m4 := by
  rw [execS, h1]; simp only [Res.toS, h2, h3, h4]
theorem he_var {i : Nat} {d : D} (h : σ[i]? = some (some d)) : evalE C (.var i) σ m = .ok d m := by rw [evalE, h]
end
end FV
namespace FV
open FS
def isRest (s0 p : Stp) : Prop := p = s0 ∨ p ∈ s0.rests
structure Fit (k : Nat) (s : Stp) : Prop where
  ok : s.ok = true
  ht : s.ht ≤ k
  dd : ∀ c ∈ s.letters, c ∈ DD
theorem Fit.rest {k : Nat} {s p : Stp} (h : Fit k s) (r : isRest s p) : Fit (k + 1) p := by
  rcases r with rfl | r
  · exact ⟨h.ok, by have := h.ht; omega, h.dd⟩
  · exact ⟨Stp.rests_ok s p h.ok r, by have := Stp.rests_ht s p r; have := h.ht; omega, fun c hc => h.dd c (Stp.rests_letters s p r c hc)⟩
theorem Fit.mono {k j : Nat} {s : Stp} (h : Fit k s) (hj : k ≤ j) : Fit j s := ⟨h.ok, by have := h.ht; omega, h.dd⟩
structure Run where
  deeds : List Nat
  fin : List Nat
  at_ : Int
def Run.V (r : Run) : FV.V := .tup [.str r.deeds, .str r.fin, .int r.at_]
section
variable (set : Int → Nat) (led : Nat → Int → Int)
end
end FV
namespace HP
open FS FV
def OV : Ov := ⟨fun _ _ _ => none, fun _ _ _ => none, fun _ => []⟩
theorem OV_ok : OvOk T.P OV := ⟨fun _ _ _ _ h => by simp [OV] at h, fun _ _ _ _ h => by simp [OV] at h⟩
@[simp] theorem OV_f (k f : Nat) (vs : List V) : OV.f k f vs = none := rfl
@[simp] theorem OV_c (k f : Nat) (vs : List V) : OV.c k f vs = none := rfl
@[simp] theorem OV_bor (f : Nat) : OV.bor f = [] := rfl
@[simp] theorem OV_borC (c : Nat) : borC T.P OV c = [] := by unfold borC; split <;> rfl
@[simp] theorem borF_all_within : OV.bor F_all_within = [] := rfl
@[simp] theorem borF_looked_at : OV.bor F_looked_at = [] := rfl
@[simp] theorem borF_listed_world : OV.bor F_listed_world = [] := rfl
@[simp] theorem borF_law_cell_at : OV.bor F_law_cell_at = [] := rfl
@[simp] theorem borF_law_whole : OV.bor F_law_whole = [] := rfl
@[simp] theorem borF_law_mixed : OV.bor F_law_mixed = [] := rfl
@[simp] theorem borF_law_number : OV.bor F_law_number = [] := rfl
@[simp] theorem borF_law_endless : OV.bor F_law_endless = [] := rfl
@[simp] theorem borF_law_lists : OV.bor F_law_lists = [] := rfl
@[simp] theorem borF_law : OV.bor F_law = [] := rfl
@[simp] theorem borF_listed_worldsays_listed : OV.bor F_listed_worldsays_listed = [] := rfl
@[simp] theorem borF_listed_worldleads_listed : OV.bor F_listed_worldleads_listed = [] := rfl
@[simp] theorem borF_law_endless_law_says : OV.bor F_law_endless_law_says = [] := rfl
@[simp] theorem borF_law_endless_law_leads : OV.bor F_law_endless_law_leads = [] := rfl
@[simp] theorem mk_15 (k n : Nat) (v0 v1 : V) : mkV T.P OV k (callV T.P OV (n + 1)) 15 [v0, v1] = .ok false (.ins 15 [v0, v1]) := by rw [mkV_imm cini_15 rfl, callV_ini fns_115 rfl rfl]; simp [l_115, startV]
structure WOk (w : V) (k : Nat) (dom : Int → Prop) (set : Int → Nat) (led : Nat → Int → Int) : Prop where
  cls : clsV w = some 15
  ref : w.isRef = false
  says : ∀ n x, k ≤ n → dom x → callV T.P OV n 357 [w, .int x] = .ok false (.int (set x : Int))
  leads : ∀ n d x, k ≤ n → dom x → d ∈ DD → callV T.P OV n 358 [w, .str [d], .int x] = .ok false (.int (led d x))
  cl : ∀ d x, dom x → d ∈ DD → dom (led d x)
theorem mt_set : T.P.mt 15 7 = some 357 := rfl
theorem mt_led : T.P.mt 15 8 = some 358 := rfl
def natsV (l : List Nat) : V := .lst (l.map fun (k : Nat) => .int (k : Int))
theorem call_within (n : Nat) (l : List Int) (b : Int) (hl : l.length ≤ 100000) : callV T.P OV (n + 1) 359 [.lst (l.map .int), .int b] = .ok false (.bl (l.all fun x => decide (0 ≤ x) && decide (x < b))) := by
  rw [callV_fn fns_359 rfl rfl]
  have h := lcV_all (W := [2, 2]) (tg := .nm 2) (e := evF (vctx T.P OV n (callV T.P OV n) (callV T.P OV (n - 1))) C1_all_within) (enc := V.int) (s := [some (.sh, .lst (l.map .int)), some (.sh, .int b), none])
      (C := vctx T.P OV n (callV T.P OV n) (callV T.P OV (n - 1))) (fun x => .bl (decide (0 ≤ x) && decide (x < b))) l (fun x hx => by
        refine ⟨[some (.sh, .lst (l.map .int)), some (.sh, .int b), some (.sh, .int x)], by simp, by simp, false, ?_⟩
        by_cases h0 : 0 ≤ x <;> simp [C1_all_within, h0]) (show l.length ≤ 16777216 by omega)
  have ha : V.allB (l.map fun x => V.bl (decide (0 ≤ x) && decide (x < b))) = some (l.map fun x => decide (0 ≤ x) && decide (x < b)) := by
    clear h
    induction l with
    | nil => rfl
    | cons a l ih => rw [List.map_cons, List.map_cons, V.allB, ih (by simp at hl; omega)]; rfl
  simp [-lcV_c, B_all_within, startV, h, ha]
theorem within_nats (n : Nat) (l : List Nat) (b : Nat) (hl : l.length ≤ 100000) (h : ∀ x ∈ l, x < b) : callV T.P OV (n + 1) 359 [natsV l, .int (b : Int)] = .ok false (.bl true) := by
  have e := call_within n (l.map fun (k : Nat) => (k : Int)) b (by simpa using hl)
  rw [List.map_map] at e
  have e2 : ((l.map fun (k : Nat) => (k : Int)).all fun x => decide (0 ≤ x) && decide (x < (b : Int))) = true := by
    rw [List.all_eq_true]
    intro x hx
    obtain ⟨k, hk, rfl⟩ := List.mem_map.mp hx
    have := h k hk
    simp
    exact this
  rw [e2] at e
  exact e
structure LsOk (st : List Nat) (kvs : List (D × V)) (ld : Nat → List Nat) : Prop where
  ne : st ≠ []
  len : st.length ≤ 3000
  lt : ∀ x ∈ st, x < 16
  n5 : kvs.length = 5
  get : ∀ d ∈ DD, V.get kvs (.str [d]) = some (natsV (ld d))
  lens : ∀ d ∈ DD, (ld d).length = st.length
  lts : ∀ d ∈ DD, ∀ x ∈ ld d, x < st.length
theorem LsOk.idx {st : List Nat} {kvs : List (D × V)} {ld : Nat → List Nat} (h : LsOk st kvs ld) {d : Nat} (hd : d ∈ DD) : V.idx (.dct false kvs) (.str [d]) = some (natsV (ld d)) := by
  have : V.key false (.str [d]) = some (.str [d]) := rfl
  simp only [V.idx, this, Option.bind_some, h.get d hd]
theorem nats_len (l : List Nat) : V.len (natsV l) = some l.length := by simp [natsV]
theorem call_looked (n : Nat) {st : List Nat} {kvs : List (D × V)} {ld : Nat → List Nat} (h : LsOk st kvs ld) : callV T.P OV (n + 2) 360 [natsV st, .dct false kvs] = .ok false .non := by
  rw [callV_fn fns_360 rfl rfl]
  have hl := h.len
  have w0 := within_nats n st 16 (by omega) h.lt
  have ne : V.cmp .eq (natsV st) (.lst []) = some false := by
    have := h.ne
    cases st with
    | nil => exact absurd rfl this
    | cons a l => exact eq_cons_nil
  have l0 := nats_len st
  have n5 := h.n5
  have hin : ∀ d ∈ DD, V.inV (.str [d]) (.dct false kvs) = some true := fun d hd => by
    have : V.key false (.str [d]) = some (.str [d]) := rfl
    simp only [V.inV, this, Option.map_some, h.get d hd, Option.isSome_some]
  have hi : ∀ d ∈ DD, V.idx (.dct false kvs) (.str [d]) = some (natsV (ld d)) := fun d hd => h.idx hd
  have hw : ∀ d ∈ DD, callV T.P OV (n + 1) 359 [natsV (ld d), .int (st.length : Int)] = .ok false (.bl true) := fun d hd => within_nats n (ld d) st.length (by rw [h.lens d hd]; omega) (h.lts d hd)
  have hL : ∀ d ∈ DD, V.len (natsV (ld d)) = some st.length := fun d hd => by rw [nats_len, h.lens d hd]
  have body : ∀ (d : Nat) (y : Option (Kd × V)), d ∈ DD → exVs (vctx T.P OV (n + 1) (callV T.P OV (n + 1)) (callV T.P OV n)) L1_looked_at [some (.sh, natsV st), some (.sh, .dct false kvs), some (.sh, .str [d])] = .nx [some (.sh, natsV st), some (.sh, .dct false kvs), some (.sh, .str [d])] := fun d y hd => by
    simp [L1_looked_at, l0, hi d hd, hw d hd, hL d hd]
  have b1 := body 80 none (by decide)
  have b2 := body 81 none (by decide)
  have b3 := body 82 none (by decide)
  have b4 := body 83 none (by decide)
  have b5 := body 84 none (by decide)
  have hg : ¬ ((3000 : Int) < (st.length : Int)) := by omega
  have i1 := hin 80 (by decide)
  have i2 := hin 81 (by decide)
  have i3 := hin 82 (by decide)
  have i4 := hin 83 (by decide)
  have i5 := hin 84 (by decide)
  simp only [Int.cast_ofNat_Int] at w0
  simp [B_looked_at, startV, ne, l0, w0, hg, n5, C1_looked_at, i1, i2, i3, i4, i5, b1, b2, b3, b4, b5]
def rowsF (ld : Nat → List Nat) : List (D × V) := DD.map fun d => (.str [d], natsV (ld d))
def saysL (st : List Nat) : V := .clo 480 [natsV st]
def leadsL (ld : Nat → List Nat) : V := .clo 481 [.dct false (rowsF ld)]
def listedV (st : List Nat) (ld : Nat → List Nat) : V := .ins 15 [saysL st, leadsL ld]
@[simp] theorem nats_ref (l : List Nat) : (natsV l).isRef = true := rfl
@[simp] theorem nats_kd (l : List Nat) : kdOf true (natsV l) = .ow := rfl
theorem sto0 (v : V) : V.storeI (.dct false []) (.str [80]) v = some (.dct false [(.str [80], v)]) := rfl
theorem sto1 (a v : V) : V.storeI (.dct false [(.str [80], a)]) (.str [81]) v = some (.dct false [(.str [80], a), (.str [81], v)]) := rfl
theorem sto2 (a b v : V) : V.storeI (.dct false [(.str [80], a), (.str [81], b)]) (.str [82]) v = some (.dct false [(.str [80], a), (.str [81], b), (.str [82], v)]) := rfl
theorem sto3 (a b c v : V) : V.storeI (.dct false [(.str [80], a), (.str [81], b), (.str [82], c)]) (.str [83]) v = some (.dct false [(.str [80], a), (.str [81], b), (.str [82], c), (.str [83], v)]) := rfl
theorem sto4 (a b c d v : V) : V.storeI (.dct false [(.str [80], a), (.str [81], b), (.str [82], c), (.str [83], d)]) (.str [84]) v = some (.dct false [(.str [80], a), (.str [81], b), (.str [82], c), (.str [83], d), (.str [84], v)]) := rfl
theorem call_listed (n : Nat) {st : List Nat} {kvs : List (D × V)} {ld : Nat → List Nat} (h : LsOk st kvs ld) : callV T.P OV (n + 4) 361 [natsV st, .dct false kvs] = .ok false (listedV st ld) := by
  rw [callV_fn fns_361 rfl rfl]
  have hk := call_looked (n + 1) h
  have hi : ∀ d ∈ DD, V.idx (.dct false kvs) (.str [d]) = some (natsV (ld d)) := fun d hd => h.idx hd
  have i1 := hi 80 (by decide)
  have i2 := hi 81 (by decide)
  have i3 := hi 82 (by decide)
  have i4 := hi 83 (by decide)
  have i5 := hi 84 (by decide)
  have hL : ∀ l : List Nat, V.bi .list [natsV l] = some (natsV l) := fun l => by simp [natsV]
  simp [B_listed_world, startV, hk, hL, L1_listed_world, i1, i2, i3, i4, i5, sto0, sto1, sto2, sto3, sto4, listedV, saysL, leadsL, rowsF, DD]
theorem nats_idx {l : List Nat} {i : Nat} (h : i < l.length) : V.idx (natsV l) (.int (i : Int)) = some (.int ((l.getD i 0 : Nat) : Int)) := by
  rw [List.getD_eq_getElem?_getD, List.getElem?_eq_getElem h]
  simp [natsV, V.idx, h]
theorem rows_idx {ld : Nat → List Nat} {d : Nat} (h : d ∈ DD) : V.idx (.dct false (rowsF ld)) (.str [d]) = some (natsV (ld d)) := by
  simp only [DD, List.mem_cons, List.not_mem_nil, or_false] at h
  rcases h with rfl | rfl | rfl | rfl | rfl <;> rfl
def domL (st : List Nat) (x : Int) : Prop := ∃ i : Nat, i < st.length ∧ x = (i : Int)
def setL (st : List Nat) (x : Int) : Nat := st.getD x.toNat 0
def ledL (ld : Nat → List Nat) (d : Nat) (x : Int) : Int := ((ld d).getD x.toNat 0 : Nat)
theorem wok_listed {st : List Nat} {kvs : List (D × V)} {ld : Nat → List Nat} (h : LsOk st kvs ld) : WOk (listedV st ld) 3 (domL st) (setL st) (ledL ld) := by
  refine ⟨rfl, rfl, fun n x hn ⟨i, hi, e⟩ => ?_, fun n d x hn ⟨i, hi, e⟩ hd => ?_, fun d x ⟨i, hi, e⟩ hd => ?_⟩
  · subst e
    obtain ⟨n, rfl⟩ : ∃ j, n = j + 3 := ⟨n - 3, by omega⟩
    rw [callV_fn fns_357 rfl rfl]
    have e := nats_idx hi
    have : callV T.P OV (n + 2) 480 [.int (i : Int), natsV st] = .ok false (.int ((st.getD i 0 : Nat) : Int)) := by
      rw [callV_fn N_listed_worldsays_listed rfl rfl]
      simp [B_listed_worldsays_listed, startV, e]
    simp [b_357, startV, listedV, saysL, this, setL]
  · subst e
    obtain ⟨n, rfl⟩ : ∃ j, n = j + 3 := ⟨n - 3, by omega⟩
    rw [callV_fn fns_358 rfl rfl]
    have e := nats_idx (l := ld d) (i := i) (by rw [h.lens d hd]; exact hi)
    have e2 := rows_idx (ld := ld) hd
    have : callV T.P OV (n + 2) 481 [.str [d], .int (i : Int), .dct false (rowsF ld)] = .ok false (.int (((ld d).getD i 0 : Nat) : Int)) := by
      rw [callV_fn N_listed_worldleads_listed rfl rfl]
      simp [B_listed_worldleads_listed, startV, e, e2]
    simp [b_358, startV, listedV, leadsL, this, ledL]
  · subst e
    have hl := h.lens d hd
    refine ⟨(ld d).getD i 0, h.lts d hd _ ?_, rfl⟩
    rw [List.getD_eq_getElem?_getD, List.getElem?_eq_getElem (by omega)]
    exact List.getElem_mem _
def kvsI (L : List (List Nat × List Int)) : List (D × V) := L.map fun p => (.str p.1, .lst (p.2.map .int))
def lookL (L : List (List Nat × List Int)) (k : List Nat) : Option (List Int) := (L.find? fun p => decide (p.1 = k)).map (·.2)
theorem call_mixed (n : Nat) (c : Int) (k : Nat) : ∃ z : Int, 0 ≤ z ∧ callV T.P OV (n + 1) F_law_mixed [.int c, .int (k : Int)] = .ok false (.int z) := by
  rw [callV_fn N_law_mixed rfl rfl]
  have s1 : small 7919 = true := by decide
  have s2 : small 48271 = true := by decide
  have s3 : ∀ q : Int, small (q % 2147483647 / 1009 + 69621) = true := fun q => by
    unfold small
    simp only [Bool.and_eq_true, decide_eq_true_eq]
    omega
  have h : ∃ z : Int, 0 ≤ z ∧ finV (exVs (vctx T.P OV n (callV T.P OV n) (callV T.P OV (n - 1))) B_law_mixed (startV (OV.bor F_law_mixed) 3 [.int c, .int (k : Int)])) = .ok false (.int z) := by
    simp [B_law_mixed, startV, s1, s2, s3]
    omega
  exact h
theorem call_lists (n : Nat) (c : Int) (k : Nat) (h0 : 0 < k) (hk : k ≤ 100) : ∃ (st : List Nat) (ld : Nat → List Nat), callV T.P OV (n + 2) F_law_lists [.int c, .int (k : Int)] = .ok false (.tup [natsV st, .dct false (rowsF ld)]) ∧ st.length = k ∧ LsOk st (rowsF ld) ld := by
  rw [callV_fn N_law_lists rfl rfl]
  have hf := fun j => call_mixed n c j
  let f : Nat → Int := fun j => Classical.choose (hf j)
  have f1 : ∀ j, 0 ≤ f j := fun j => (Classical.choose_spec (hf j)).1
  have f2 : ∀ j : Nat, callV T.P OV (n + 1) F_law_mixed [.int c, .int (j : Int)] = .ok false (.int (f j)) := fun j => (Classical.choose_spec (hf j)).2
  clear_value f
  let st : List Nat := (List.range k).map fun i => (f i % 16).toNat
  let ld : Nat → List Nat := fun d => (List.range k).map fun i => (f (100 + (d - 80) * k + i) % (k : Int)).toNat
  have hr : rngOk 0 (k : Int) = true := rngOk_nat _ (by omega)
  have e1 : (List.range k).map (fun i => V.int (f i % 16)) = st.map fun (x : Nat) => V.int (x : Int) := by
    show _ = ((List.range k).map fun i => (f i % 16).toNat).map fun (x : Nat) => V.int (x : Int)
    rw [List.map_map]
    apply List.map_congr_left
    intro i _
    have := f1 i
    exact congrArg V.int (Int.toNat_of_nonneg (by omega)).symm
  have e2 : ∀ j : Nat, (List.range k).map (fun i => V.int (f (100 + j * k + i) % (k : Int))) = (ld (80 + j)).map fun (x : Nat) => V.int (x : Int) := fun j => by
    show _ = ((List.range k).map fun i => (f (100 + (80 + j - 80) * k + i) % (k : Int)).toNat).map fun (x : Nat) => V.int (x : Int)
    rw [List.map_map, Nat.add_sub_cancel_left]
    apply List.map_congr_left
    intro i _
    have := Int.emod_nonneg (f (100 + j * k + i)) (show (k : Int) ≠ 0 by omega)
    exact congrArg V.int (Int.toNat_of_nonneg this).symm
  have l1 := lcV_all (W := [5, 5]) (tg := .nm 5) (e := evF (vctx T.P OV (n + 1) (callV T.P OV (n + 1)) (callV T.P OV n)) C1_law_lists) (enc := fun (i : Nat) => V.int (i : Int)) (s := [some (.sh, .int c), some (.sh, .int (k : Int)), none, none, none, none])
    (C := vctx T.P OV (n + 1) (callV T.P OV (n + 1)) (callV T.P OV n)) (fun i => .int (f i % 16)) (List.range k) (fun i hi => by
      have := f2 i
      exact ⟨_, by simp; rfl, by simp, true, by simp [C1_law_lists, this]⟩) (by simp; omega)
  rw [e1] at l1
  have l2 : ∀ (j : Nat) (x2 x3 : Option (Kd × V)), lcLoopV [5, 5] (.nm 5) (evCV (vctx T.P OV (n + 1) (callV T.P OV (n + 1)) (callV T.P OV n)) .none) (evF (vctx T.P OV (n + 1) (callV T.P OV (n + 1)) (callV T.P OV n)) C2_law_lists) ((List.range k).map fun (i : Nat) => V.int (i : Int)) []
      [some (.sh, .int c), some (.sh, .int (k : Int)), x2, x3, some (.sh, .int (j : Int)), none] = .ok ((ld (80 + j)).map fun (x : Nat) => V.int (x : Int)) [some (.sh, .int c), some (.sh, .int (k : Int)), x2, x3, some (.sh, .int (j : Int)), none] := fun j x2 x3 => by
    have := lcV_all (W := [5, 5]) (tg := .nm 5) (e := evF (vctx T.P OV (n + 1) (callV T.P OV (n + 1)) (callV T.P OV n)) C2_law_lists) (enc := fun (i : Nat) => V.int (i : Int)) (s := [some (.sh, .int c), some (.sh, .int (k : Int)), x2, x3, some (.sh, .int (j : Int)), none])
      (C := vctx T.P OV (n + 1) (callV T.P OV (n + 1)) (callV T.P OV n)) (fun i => .int (f (100 + j * k + i) % (k : Int))) (List.range k) (fun i hi => by
        have h1 := f2 (100 + j * k + i)
        simp only [Int.natCast_add, Int.natCast_mul, Int.cast_ofNat_Int] at h1
        have hs : (small (j : Int) || small (k : Int)) = true := by rw [show small (k : Int) = true by unfold small; simp; omega]; simp
        have hm : V.op .mul (.int (j : Int)) (.int (k : Int)) = some (.int ((j : Int) * (k : Int))) := vo_mul hs
        have hmd : V.op .mod (.int (f (100 + j * k + i))) (.int (k : Int)) = some (.int (f (100 + j * k + i) % (k : Int))) := vo_mod (by omega)
        exact ⟨_, by simp; rfl, by simp, true, by simp [C2_law_lists, hm, h1, hmd]⟩) (by simp; omega)
    rw [this, e2]
  have body : ∀ (j : Nat) (kvs kvs' : List (D × V)) (x2 y4 : Option (Kd × V)), j < 5 → V.storeI (.dct false kvs) (.str [80 + j]) (natsV (ld (80 + j))) = some (.dct false kvs') →
      exVs (vctx T.P OV (n + 1) (callV T.P OV (n + 1)) (callV T.P OV n)) L1_law_lists [some (.sh, .int c), some (.sh, .int (k : Int)), x2, some (.ow, .dct false kvs), some (.sh, .int (j : Int)), none] = .nx [some (.sh, .int c), some (.sh, .int (k : Int)), x2, some (.ow, .dct false kvs'), some (.sh, .int (j : Int)), none] := fun j kvs kvs' x2 y4 hj hs => by
    have e0 : ([80, 81, 82, 83, 84] : List Nat).length ≤ LIM := by decide
    have hat := pqrst_at j hj
    have h2 := l2 j x2 (some (.ow, .dct false kvs))
    unfold natsV at hs
    simp [-lcV_c, L1_law_lists, hr, rngV_nat, h2, vi_str e0, hat, hs]
  have g0 := body 0 _ _ (some (.ow, natsV st)) none (by omega) (sto0 _)
  have g1 := body 1 _ _ (some (.ow, natsV st)) none (by omega) (sto1 (natsV (ld 80)) _)
  have g2 := body 2 _ _ (some (.ow, natsV st)) none (by omega) (sto2 (natsV (ld 80)) (natsV (ld 81)) _)
  have g3 := body 3 _ _ (some (.ow, natsV st)) none (by omega) (sto3 (natsV (ld 80)) (natsV (ld 81)) (natsV (ld 82)) _)
  have g4 := body 4 _ _ (some (.ow, natsV st)) none (by omega) (sto4 (natsV (ld 80)) (natsV (ld 81)) (natsV (ld 82)) (natsV (ld 83)) _)
  have r5 : rngOk 0 5 = true := by decide
  have rv5 : rngV 0 5 = [V.int 0, V.int 1, V.int 2, V.int 3, V.int 4] := rfl
  refine ⟨st, ld, ?_, by simp [st], ?_⟩
  · unfold natsV at g0 g1 g2 g3 g4
    simp only [Int.natCast_zero, Int.natCast_one, Int.cast_ofNat_Int, Nat.add_zero, Nat.reduceAdd] at g0 g1 g2 g3 g4
    simp [-lcV_c, B_law_lists, startV, hr, rngV_nat, l1, r5, rv5, g0, g1, g2, g3, g4, natsV, rowsF, DD]
  · have hst : st.length = k := by simp [st]
    refine ⟨?_, by omega, ?_, rfl, ?_, ?_, ?_⟩
    · intro e; rw [e] at hst; simp at hst; omega
    · intro x hx
      obtain ⟨i, _, rfl⟩ := List.mem_map.mp hx
      omega
    · intro d hd
      simp only [DD, List.mem_cons, List.not_mem_nil, or_false] at hd
      rcases hd with rfl | rfl | rfl | rfl | rfl <;> rfl
    · intro d hd; simp [ld, hst]
    · intro d hd x hx
      obtain ⟨i, _, rfl⟩ := List.mem_map.mp hx
      have h1 := Int.emod_lt_of_pos (f (100 + (d - 80) * k + i)) (show (0 : Int) < k by omega)
      have h2 := Int.emod_nonneg (f (100 + (d - 80) * k + i)) (show (k : Int) ≠ 0 by omega)
      omega
inductive KA (M : Mem) : List (D × D) → List (List Nat × List Int) → Prop where
  | nil : KA M [] []
  | cons {k : List Nat} {r : Nat} {l : List Int} {ks : List (D × D)} {L : List (List Nat × List Int)} : M[r]? = some (.lst (l.map D.int)) → KA M ks L → KA M ((.str k, .ref r) :: ks) ((k, l) :: L)
theorem KA.rk {M : Mem} : ∀ {ks : List (D × D)} {L : List (List Nat × List Int)}, KA M ks L → Rk (All M) M (kvsI L) ks
  | _, _, .nil => .nil
  | _, _, .cons (r := r) h q => .cons (.lst (List.getElem?_eq_some_iff.mp h).1 h (ints_R _)) q.rk
theorem KA.len {M : Mem} : ∀ {ks : List (D × D)} {L : List (List Nat × List Int)}, KA M ks L → ks.length = L.length
  | _, _, .nil => rfl
  | _, _, .cons h q => by rw [List.length_cons, List.length_cons, q.len]
theorem beq_str (a b : List Nat) : D.beq (.str a) (.str b) = decide (a = b) := by
  by_cases h : a = b
  · rw [h, decide_eq_true rfl]; exact D.beq_refl _
  · rw [decide_eq_false h]
    cases e : D.beq (.str a) (.str b) with
    | false => rfl
    | true => exact absurd (by have := D.eq_of_beq e; injection this) h
theorem KA.get {M : Mem} {k : List Nat} {l : List Int} : ∀ {ks : List (D × D)} {L : List (List Nat × List Int)}, KA M ks L → lookL L k = some l → ∃ r, dGet ks (.str k) = some (.ref r) ∧ M[r]? = some (.lst (l.map D.int)) ∧ (.str k, .ref r) ∈ ks
  | _, _, .nil, h => by cases h
  | _, _, .cons (k := k2) (r := r2) (l := l2) (ks := ks) (L := L) hr q, h => by
    unfold lookL at h
    rw [List.find?_cons] at h
    unfold dGet
    rw [List.find?_cons, beq_str]
    by_cases e : k2 = k
    · simp only [decide_eq_true e, Option.map_some, Option.some.injEq] at h ⊢
      subst e h
      exact ⟨r2, rfl, hr, List.mem_cons_self⟩
    · simp only [decide_eq_false e] at h ⊢
      obtain ⟨r, h1, h2, h3⟩ := q.get (k := k) (l := l) h
      exact ⟨r, h1, h2, List.mem_cons_of_mem _ h3⟩
def putL (L : List (List Nat × List Int)) (k : List Nat) (l : List Int) : List (List Nat × List Int) := if L.any (fun p => decide (p.1 = k)) then L.map (fun p => if p.1 = k then (p.1, l) else p) else L ++ [(k, l)]
theorem KA.map {M : Mem} {k : List Nat} {l : List Int} {n : Nat} (hn : M[n]? = some (.lst (l.map D.int))) : ∀ {ks : List (D × D)} {L : List (List Nat × List Int)}, KA M ks L →
    KA M (ks.map fun p => if D.beq p.1 (.str k) then (p.1, .ref n) else p) (L.map fun p => if p.1 = k then (p.1, l) else p) ∧ (ks.any fun p => D.beq p.1 (.str k)) = L.any fun p => decide (p.1 = k)
  | _, _, .nil => ⟨.nil, rfl⟩
  | _, _, .cons (k := k2) hr q => by
    obtain ⟨h1, h2⟩ := q.map hn
    refine ⟨?_, by rw [List.any_cons, List.any_cons, h2, beq_str]⟩
    simp only [List.map_cons, beq_str, decide_eq_true_eq]
    by_cases e : k2 = k
    · simp only [if_pos e]; exact .cons hn h1
    · simp only [if_neg e]; exact .cons hr h1
theorem KA.snoc {M : Mem} {k : List Nat} {l : List Int} {n : Nat} (hn : M[n]? = some (.lst (l.map D.int))) : ∀ {ks : List (D × D)} {L : List (List Nat × List Int)}, KA M ks L → KA M (ks ++ [(.str k, .ref n)]) (L ++ [(k, l)])
  | _, _, .nil => .cons hn .nil
  | _, _, .cons hr q => .cons hr (q.snoc hn)
theorem KA.put {M : Mem} {k : List Nat} {l : List Int} {n : Nat} (hn : M[n]? = some (.lst (l.map D.int))) {ks : List (D × D)} {L : List (List Nat × List Int)} (h : KA M ks L) : KA M (dPut ks (.str k) (.ref n)) (putL L k l) := by
  obtain ⟨h1, h2⟩ := h.map (k := k) hn
  unfold dPut putL
  rw [h2]
  split
  · exact h1
  · exact h.snoc hn
theorem KA.drop {M : Mem} {k : List Nat} : ∀ {ks : List (D × D)} {L : List (List Nat × List Int)}, KA M ks L → KA M (dDrop ks (.str k)) (L.filter fun p => !decide (p.1 = k))
  | _, _, .nil => .nil
  | _, _, .cons (k := k2) hr q => by
    have ih := q.drop (k := k)
    unfold dDrop at ih ⊢
    by_cases e : k2 = k
    · rw [List.filter_cons_of_neg (by simp [beq_str, e]), List.filter_cons_of_neg (by simp [e])]; exact ih
    · rw [List.filter_cons_of_pos (by simp [beq_str, e]), List.filter_cons_of_pos (by simp [e])]; exact .cons hr ih
theorem KA.mono {M M' : Mem} : ∀ {ks : List (D × D)} {L : List (List Nat × List Int)}, KA M ks L → (∀ k r, (k, .ref r) ∈ ks → ∀ o, M[r]? = some o → M'[r]? = some o) → KA M' ks L
  | _, _, .nil, _ => .nil
  | _, _, .cons hr q, h => .cons (h _ _ List.mem_cons_self _ hr) (q.mono fun k r hm => h k r (List.mem_cons_of_mem _ hm))
theorem KA.chg {M : Mem} {r : Nat} {l2 : List Int} (hlt : r < M.length) : ∀ {ks : List (D × D)} {L : List (List Nat × List Int)}, KA M ks L → ∃ L', KA (M.set r (.lst (l2.map D.int))) ks L' ∧ L'.length = L.length ∧ L'.map (·.1) = L.map (·.1) ∧ (∀ p ∈ L', p ∈ L ∨ p.2 = l2) ∧ ∀ k l, lookL L k = some l → ((.str k, .ref r) ∈ ks → dGet ks (.str k) = some (.ref r) → lookL L' k = some l2)
  | _, _, .nil => ⟨[], .nil, rfl, rfl, fun p hp => (by cases hp), fun k l h => by cases h⟩
  | _, _, .cons (k := k2) (r := r2) (l := l3) (ks := ks) (L := L) hr q => by
    obtain ⟨L', h1, h2, h3, h5, h4⟩ := q.chg (r := r) (l2 := l2) hlt
    have tail : ∀ k l, ¬ k2 = k → lookL ((k2, l3) :: L) k = some l → lookL L k = some l := fun k l e h => by
      unfold lookL at h ⊢
      rw [List.find?_cons] at h
      simpa only [decide_eq_false e] using h
    have dtail : ∀ k r1, ¬ k2 = k → dGet ((.str k2, .ref r2) :: ks) (.str k) = some (.ref r1) → dGet ks (.str k) = some (.ref r1) := fun k r1 e h => by
      unfold dGet at h ⊢
      rw [List.find?_cons, beq_str] at h
      simpa only [decide_eq_false e] using h
    have dmem : ∀ {ks : List (D × D)} {k : List Nat} {r1 : Nat}, dGet ks (.str k) = some (.ref r1) → (.str k, .ref r1) ∈ ks := fun {ks k r1} h => by
      unfold dGet at h
      obtain ⟨p, hp, e⟩ := Option.map_eq_some_iff.mp h
      have h1 := List.mem_of_find?_eq_some hp
      have h2 := List.find?_some hp
      have := D.eq_of_beq h2
      obtain ⟨p1, p2⟩ := p
      simp only at this e
      rw [this, e] at h1
      exact h1
    by_cases e : r2 = r
    · subst e
      refine ⟨(k2, l2) :: L', .cons (by rw [List.getElem?_set_self hlt]) h1, by simp [h2], by simp [h3], fun p hp => ?_, fun k l h _ hd => ?_⟩
      · rcases List.mem_cons.mp hp with rfl | hp
        · exact .inr rfl
        · rcases h5 p hp with h | h
          · exact .inl (List.mem_cons_of_mem _ h)
          · exact .inr h
      · by_cases ek : k2 = k
        · unfold lookL
          rw [List.find?_cons]
          simp only [decide_eq_true ek]; rfl
        · have := h4 k l (tail k l ek h) (dmem (dtail k _ ek hd)) (dtail k _ ek hd)
          unfold lookL at this ⊢
          rw [List.find?_cons]
          simpa only [decide_eq_false ek] using this
    · refine ⟨(k2, l3) :: L', .cons (by rw [List.getElem?_set_ne (fun z => e z.symm)]; exact hr) h1, by simp [h2], by simp [h3], fun p hp => ?_, fun k l h _ hd => ?_⟩
      · rcases List.mem_cons.mp hp with rfl | hp
        · exact .inl List.mem_cons_self
        · rcases h5 p hp with h | h
          · exact .inl (List.mem_cons_of_mem _ h)
          · exact .inr h
      · by_cases ek : k2 = k
        · exfalso
          unfold dGet at hd
          rw [List.find?_cons, beq_str] at hd
          simp only [decide_eq_true ek, Option.map_some, Option.some.injEq, D.ref.injEq] at hd
          exact e hd
        · have := h4 k l (tail k l ek h) (dmem (dtail k _ ek hd)) (dtail k _ ek hd)
          unfold lookL at this ⊢
          rw [List.find?_cons]
          simpa only [decide_eq_false ek] using this
theorem callH {f np nl : Nat} {b : Ss} {ds : List D} {n : Nat} {m : Mem} (h : T.P.fns f = some (.fn np nl b)) (hl : ds.length = np) : call T.P (n + 2) f ds m = fin (execSs (ctx T.P (call T.P (n + 1)) (call T.P n)) b (start nl ds) m) := by
  rw [call_succ2, h]
  simp only [runFn, hl, if_true]
def L0 (ld : Nat → List Int) : List (List Nat × List Int) := DD.map fun d => ([d], ld d)
theorem look0 {ld : Nat → List Int} {d : Nat} (hd : d ∈ DD) : lookL (L0 ld) [d] = some (ld d) := by
  simp only [DD, List.mem_cons, List.not_mem_nil, or_false] at hd
  rcases hd with rfl | rfl | rfl | rfl | rfl <;> rfl
theorem op_mulI {i j : Int} {m : Mem} (h : (small i || small j) = true) : opx .mul (.int i) (.int j) m = .ok (.int (i * j)) m := by simp only [opx_eq, op2, h, if_true]
def cloD (o : Option (Option D)) (k : Nat → List D → Res D) : Res D := match o with
  | some (some (.clo f cs)) => k f cs
  | _ => .no
theorem cloD_s {f : Nat} {cs : List D} {k : Nat → List D → Res D} : cloD (some (some (.clo f cs))) k = k f cs := id rfl
theorem ev_clo {C : Ctx} {i : Nat} {l : Es} {σ : Sto} {m : Mem} : evalE C (.clo i l) σ m = cloD σ[i]? fun f cs => (evalEs C l σ m).bind fun ds m1 => C.call f (ds ++ cs) m1 := by
  simp only [evalE]
  unfold cloD
  cases σ[i]? with
  | none => rfl
  | some o => cases o with
    | none => rfl
    | some d => cases d <;> rfl
theorem cellH (n k : Nat) (ns : List Int) (m : Mem) : call T.P (n + 2) F_law_cell_at [.rol (ns.map .int), .int (k : Int)] m = .ok (.int (cell ns k)) m := by
  rw [callH N_law_cell_at rfl]
  unfold cell
  by_cases h : k < ns.length
  · simp [B_law_cell_at, start, h]
  · simp [B_law_cell_at, start, h]
theorem wholeH (n : Nat) (x : Int) (m : Mem) : call T.P (n + 2) F_law_whole [.int x] m = .ok (.bl true) m := by
  rw [callH N_law_whole rfl]
  simp [B_law_whole, start]
theorem numbH (n : Nat) (x : Int) (m : Mem) : call T.P (n + 3) F_law_number [.int x, .int x] m = .ok (.bl true) m := by
  rw [callH N_law_number rfl]
  have := wholeH n x m
  simp [B_law_number, start, this]
theorem saysH (n : Nat) (x : Int) (m : Mem) : call T.P (n + 2) F_law_endless_law_says [.int x] m = .ok (.int (x % 16)) m := by
  rw [callH N_law_endless_law_says rfl]
  simp [B_law_endless_law_says, start]
abbrev five (f : Nat → Int) : MO := .lst [.int (f 0), .int (f 1), .int (f 2), .int (f 3), .int (f 4)]
theorem leadsH (n j : Nat) (hj : j < 5) (x : Int) (m : Mem) (p s : Nat → Int) (h0 : m[0]? = some (five p)) (h1 : m[1]? = some (five s)) (hp : ∀ j, small (p j) = true) :
    call T.P (n + 2) F_law_endless_law_leads [.str [80 + j], .int x, .ref 1, .ref 0] m = .ok (.int (x / 16 * p j + s j)) m := by
  rw [callH N_law_endless_law_leads rfl]
  have mu : ∀ j, opx .mul (.int (x / 16)) (.int (p j)) m = .ok (.int (x / 16 * p j)) m := fun j => op_mulI (by rw [hp j, Bool.or_true])
  have fd : findS [80 + j] [80, 81, 82, 83, 84] = (j : Int) := by
    rcases j with _ | _ | _ | _ | _ | j <;> first | rfl | decide | omega
  rcases j with _ | _ | _ | _ | _ | j
  · simp [B_law_endless_law_leads, start, h0, h1, mu, fd]
  · simp [B_law_endless_law_leads, start, h0, h1, mu, fd]
  · simp [B_law_endless_law_leads, start, h0, h1, mu, fd]
  · simp [B_law_endless_law_leads, start, h0, h1, mu, fd]
  · simp [B_law_endless_law_leads, start, h0, h1, mu, fd]
  · omega
abbrev wE : D := .ins 15 [.clo 207 [], .clo 208 [.ref 1, .ref 0]]
theorem setE (n : Nat) (x : Int) (m : Mem) : call T.P (n + 3) 357 [wE, .int x] m = .ok (.int (x % 16)) m := by
  rw [callH fns_357 rfl]
  have := saysH n x m
  simp [b_357, start, ev_clo, cloD_s, this]
theorem ledE (n j : Nat) (hj : j < 5) (x : Int) (m : Mem) (p s : Nat → Int) (h0 : m[0]? = some (five p)) (h1 : m[1]? = some (five s)) (hp : ∀ j, small (p j) = true) :
    call T.P (n + 3) 358 [wE, .str [80 + j], .int x] m = .ok (.int (x / 16 * p j + s j)) m := by
  rw [callH fns_358 rfl]
  have := leadsH n j hj x m p s h0 h1 hp
  simp [b_358, start, ev_clo, cloD_s, this]
theorem makeE (n : Nat) (m : Mem) : mk T.P (call T.P (n + 2)) 15 [.clo 207 [], .clo 208 [.ref 1, .ref 0]] m = .ok wE m := by
  have h : call T.P (n + 2) 115 [.clo 207 [], .clo 208 [.ref 1, .ref 0]] m = .ok wE m := by
    rw [call_succ2, fns_115]
    simp [runFn, start, l_115]
  unfold mk
  rw [cini_15]
  simp only [h]
  rfl
abbrev stE (ns : List Int) (c x y z : Option D) : Sto := [some (.rol (ns.map .int)), some (.ref 0), some (.ref 1), some (.clo 207 []), some (.clo 208 [.ref 1, .ref 0]), some wE, c, x, y, z]
theorem inE (n j : Nat) (hj : j < 5) (ns : List Int) (c z : Option D) (x : Int) (m : Mem) (p s : Nat → Int) (h0 : m[0]? = some (five p)) (h1 : m[1]? = some (five s)) (hp : ∀ j, small (p j) = true) :
    execSs (ctx T.P (call T.P (n + 4)) (call T.P (n + 3))) L1_law_endless (stE ns c (some (.int x)) (some (.int (j : Int))) z) m = .nx (stE ns c (some (.int x)) (some (.int (j : Int))) (some (.int (x / 16 * p j + s j)))) m := by
  have e0 : ([80, 81, 82, 83, 84] : List Nat).length ≤ LIM := by decide
  have mu : ∀ j, opx .mul (.int (x / 16)) (.int (p j)) m = .ok (.int (x / 16 * p j)) m := fun j => op_mulI (by rw [hp j, Bool.or_true])
  have hl := ledE (n + 1) j hj x m p s h0 h1 hp
  have hn := numbH (n + 1) (x / 16 * p j + s j) m
  rcases j with _ | _ | _ | _ | _ | j
  · simp [L1_law_endless, h0, h1, mu, hn, ix_str e0] at hl ⊢; simp [hl, hn]
  · simp [L1_law_endless, h0, h1, mu, hn, ix_str e0] at hl ⊢; simp [hl, hn]
  · simp [L1_law_endless, h0, h1, mu, hn, ix_str e0] at hl ⊢; simp [hl, hn]
  · simp [L1_law_endless, h0, h1, mu, hn, ix_str e0] at hl ⊢; simp [hl, hn]
  · simp [L1_law_endless, h0, h1, mu, hn, ix_str e0] at hl ⊢; simp [hl, hn]
  · omega
theorem outE (n : Nat) (ns : List Int) (c : Int) (x y z : Option D) (m : Mem) (p s : Nat → Int) (h0 : m[0]? = some (five p)) (h1 : m[1]? = some (five s)) (hp : ∀ j, small (p j) = true) :
    ∃ x' y' z', execSs (ctx T.P (call T.P (n + 4)) (call T.P (n + 3))) L2_law_endless (stE ns (some (.int c)) x y z) m = .nx (stE ns (some (.int c)) x' y' z') m := by
  have pw : ∀ m, opx .pow (.int 10) (.int 40) m = .ok (.int (10 ^ 40)) m := fun m => op_pow (by decide) (by decide) (by decide)
  have mu : ∀ m, opx .mul (.int 2) (.int (10 ^ 40)) m = .ok (.int (2 * 10 ^ 40)) m := fun m => op_mulI rfl
  have md : ∀ m, opx .mod (.int c) (.int (2 * 10 ^ 40)) m = .ok (.int (c % (2 * 10 ^ 40))) m := fun m => op_mod (by decide)
  obtain ⟨X, hX⟩ : ∃ X : Int, c % (2 * 10 ^ 40) - 10 ^ 40 = X := ⟨_, rfl⟩
  have se := setE (n + 1) X m
  have nu := numbH (n + 1) (X % 16) m
  have i0 := fun z => inE n 0 (by omega) ns (some (.int c)) z X m p s h0 h1 hp
  have i1 := fun z => inE n 1 (by omega) ns (some (.int c)) z X m p s h0 h1 hp
  have i2 := fun z => inE n 2 (by omega) ns (some (.int c)) z X m p s h0 h1 hp
  have i3 := fun z => inE n 3 (by omega) ns (some (.int c)) z X m p s h0 h1 hp
  have i4 := fun z => inE n 4 (by omega) ns (some (.int c)) z X m p s h0 h1 hp
  have hr : rngOk 0 5 = true := by decide
  have hl : rngL 0 5 = [.int 0, .int 1, .int 2, .int 3, .int 4] := by decide
  simp only [Int.natCast_zero, Int.natCast_one, Int.cast_ofNat_Int] at i0 i1 i2 i3 i4
  generalize (10 : Int) ^ 40 = t at *
  refine ⟨some (.int X), some (.int 4), some (.int (X / 16 * p 4 + s 4)), ?_⟩
  unfold L2_law_endless
  simp [pw, mu, md, hX, se, nu, hr, hl, frLoop_c, frLoop_n, i0, i1, i2, i3, i4]
theorem loopE (n : Nat) (ns : List Int) (m : Mem) (p s : Nat → Int) (h0 : m[0]? = some (five p)) (h1 : m[1]? = some (five s)) (hp : ∀ j, small (p j) = true) (g : Guard) (hg : gOk g m = true) :
    ∀ (l : List Int) (c x y z : Option D), ∃ c' x' y' z', frLoop g (.nm 6) (execSs (ctx T.P (call T.P (n + 4)) (call T.P (n + 3))) L2_law_endless) (l.map .int) (stE ns c x y z) m = .nx (stE ns c' x' y' z') m
  | [], c, x, y, z => ⟨c, x, y, z, by rw [List.map_nil, frLoop_n, if_pos hg]⟩
  | a :: l, c, x, y, z => by
    obtain ⟨x1, y1, z1, h⟩ := outE n ns a x y z m p s h0 h1 hp
    obtain ⟨c2, x2, y2, z2, h2⟩ := loopE n ns m p s h0 h1 hp g hg l (some (.int a)) x1 y1 z1
    refine ⟨c2, x2, y2, z2, ?_⟩
    rw [List.map_cons, frLoop_c, if_pos hg, bT_nm, bindK_s]
    have e : (stE ns c x y z).set 6 (some (.int a)) = stE ns (some (.int a)) x y z := rfl
    rw [e, h, loopK_nx, h2]
def prE (ns : List Int) (j : Nat) : Int := 1 + 2 * (cell ns 0 / ((j : Int) + 1) % 50)
def suE (ns : List Int) (j : Nat) : Int := cell ns 1 / ((j : Int) + 1) % 10 ^ 12 - 10 ^ 11
theorem prE_small (ns : List Int) (j : Nat) : small (prE ns j) = true := by
  unfold prE small
  simp only [Bool.and_eq_true, decide_eq_true_eq]
  omega
theorem clean_ints : ∀ l : List Int, cleanDs (l.map .int) = true
  | [] => rfl
  | a :: l => by rw [List.map_cons, cleanDs, clean_ints l]; rfl
theorem lcE1 (n : Nat) (ns : List Int) (r : List (Option D)) (hr : r.length = 8) : evalE (ctx T.P (call T.P (n + 4)) (call T.P (n + 3))) (.lc [8] (.rng (.cst (.int 0)) (.cst (.int 5))) (.nm 8) .none C1_law_endless) (some (.rol (ns.map .int)) :: (r ++ [none])) [] = .ok (.ref 0) [five (prE ns)] := by
  have c0 := fun m => cellH (n + 2) 0 ns m
  have mu : ∀ i m, opx .mul (.int 2) (.int i) m = .ok (.int (2 * i)) m := fun i m => op_mulI rfl
  have hr5 : rngOk 0 5 = true := by decide
  have hl : rngL 0 5 = [.int 0, .int 1, .int 2, .int 3, .int 4] := by decide
  have g : ∀ v : Option D, (some (D.rol (ns.map .int)) :: (r ++ [none])).set 8 v = some (D.rol (ns.map .int)) :: (r ++ [none]).set 7 v := fun v => rfl
  simp only [Int.natCast_zero] at c0
  match r, hr with
  | [r1, r2, r3, r4, r5, r6, r7, r8], _ =>
    unfold five prE
    simp [hr5, hl, lcLoop_c, lcLoop_n, C1_law_endless, c0, mu]
theorem lcE2 (n : Nat) (ns : List Int) (r : List (Option D)) (hr : r.length = 8) (o : MO) : evalE (ctx T.P (call T.P (n + 4)) (call T.P (n + 3))) (.lc [8] (.rng (.cst (.int 0)) (.cst (.int 5))) (.nm 8) .none C2_law_endless) (some (.rol (ns.map .int)) :: (r ++ [none])) [o] = .ok (.ref 1) [o, five (suE ns)] := by
  have c0 := fun m => cellH (n + 2) 1 ns m
  have p12 : ∀ m, opx .pow (.int 10) (.int 12) m = .ok (.int (10 ^ 12)) m := fun m => op_pow (by decide) (by decide) (by decide)
  have p11 : ∀ m, opx .pow (.int 10) (.int 11) m = .ok (.int (10 ^ 11)) m := fun m => op_pow (by decide) (by decide) (by decide)
  have md : ∀ c m, opx .mod (.int c) (.int (10 ^ 12)) m = .ok (.int (c % (10 ^ 12))) m := fun c m => op_mod (by decide)
  have hr5 : rngOk 0 5 = true := by decide
  have hl : rngL 0 5 = [.int 0, .int 1, .int 2, .int 3, .int 4] := by decide
  simp only [Int.natCast_one] at c0
  match r, hr with
  | [r1, r2, r3, r4, r5, r6, r7, r8], _ =>
    unfold five suE
    generalize (10 : Int) ^ 12 = t at *
    generalize (10 : Int) ^ 11 = u at *
    simp [hr5, hl, lcLoop_c, lcLoop_n, C2_law_endless, c0, p12, p11, md]
theorem lcE3 (n : Nat) (ns : List Int) (r : List (Option D)) (hr : r.length = 8) (o o' : MO) : evalE (ctx T.P (call T.P (n + 4)) (call T.P (n + 3))) (.lc [8] (.rng (.cst (.int 2)) (.cst (.int 6))) (.nm 8) .none C3_law_endless) (some (.rol (ns.map .int)) :: (r ++ [none])) [o, o'] = .ok (.ref 2) [o, o', .lst ([cell ns 2, cell ns 3, cell ns 4, cell ns 5].map .int)] := by
  have c2 := fun m => cellH (n + 2) 2 ns m
  have c3 := fun m => cellH (n + 2) 3 ns m
  have c4 := fun m => cellH (n + 2) 4 ns m
  have c5 := fun m => cellH (n + 2) 5 ns m
  have hr5 : rngOk 2 6 = true := by decide
  have hl : rngL 2 6 = [.int 2, .int 3, .int 4, .int 5] := by decide
  simp only [Int.cast_ofNat_Int] at c2 c3 c4 c5
  match r, hr with
  | [r1, r2, r3, r4, r5, r6, r7, r8], _ =>
    simp [hr5, hl, lcLoop_c, lcLoop_n, C3_law_endless, c2, c3, c4, c5]
theorem call_endless (n : Nat) (ns : List Int) : ∃ m, call T.P (n + 5) F_law_endless [.rol (ns.map .int)] [] = .ok (.bl true) m := by
  rw [callH N_law_endless rfl]
  have e1 := lcE1 n ns (List.replicate 8 none) rfl
  have e2 := lcE2 n ns (some (.ref 0) :: List.replicate 7 none) rfl (five (prE ns))
  have e3 := lcE3 n ns [some (.ref 0), some (.ref 1), none, none, none, none, none, none] rfl (five (prE ns)) (five (suE ns))
  let M : Mem := [five (prE ns), five (suE ns), .lst ([cell ns 2, cell ns 3, cell ns 4, cell ns 5].map .int)]
  obtain ⟨c', x', y', z', e4⟩ := loopE n ns M (prE ns) (suE ns) rfl rfl (prE_small ns) [(2, .lst ([cell ns 2, cell ns 3, cell ns 4, cell ns 5].map .int))] (by rw [gOk_c, gOk_n]; simp [M]) [cell ns 2, cell ns 3, cell ns 4, cell ns 5] none none none none
  refine ⟨M, ?_⟩
  have s1 : execS (ctx T.P (call T.P (n + 4)) (call T.P (n + 3))) (.set 1 (.lc [8] (.rng (.cst (.int 0)) (.cst (.int 5))) (.nm 8) .none C1_law_endless)) (start 10 [.rol (ns.map .int)]) [] = .nx (some (.rol (ns.map .int)) :: ((some (.ref 0) :: List.replicate 7 none) ++ [none])) [five (prE ns)] := hx_set e1
  have s2 : execS (ctx T.P (call T.P (n + 4)) (call T.P (n + 3))) (.set 2 (.lc [8] (.rng (.cst (.int 0)) (.cst (.int 5))) (.nm 8) .none C2_law_endless)) (some (.rol (ns.map .int)) :: ((some (.ref 0) :: List.replicate 7 none) ++ [none])) [five (prE ns)] = .nx [some (.rol (ns.map .int)), some (.ref 0), some (.ref 1), none, none, none, none, none, none, none] [five (prE ns), five (suE ns)] := hx_set e2
  have s3 : execS (ctx T.P (call T.P (n + 4)) (call T.P (n + 3))) (.ndef 3 207 []) [some (.rol (ns.map .int)), some (.ref 0), some (.ref 1), none, none, none, none, none, none, none] [five (prE ns), five (suE ns)] = .nx [some (.rol (ns.map .int)), some (.ref 0), some (.ref 1), some (.clo 207 []), none, none, none, none, none, none] [five (prE ns), five (suE ns)] := by rw [execS]; rfl
  have s4 : execS (ctx T.P (call T.P (n + 4)) (call T.P (n + 3))) (.ndef 4 208 [2, 1]) [some (.rol (ns.map .int)), some (.ref 0), some (.ref 1), some (.clo 207 []), none, none, none, none, none, none] [five (prE ns), five (suE ns)] = .nx [some (.rol (ns.map .int)), some (.ref 0), some (.ref 1), some (.clo 207 []), some (.clo 208 [.ref 1, .ref 0]), none, none, none, none, none] [five (prE ns), five (suE ns)] := by rw [execS]; rfl
  have mk := makeE (n + 1) [five (prE ns), five (suE ns)]
  have s5 : execS (ctx T.P (call T.P (n + 4)) (call T.P (n + 3))) (.set 5 (.make 15 (.cons (.var 3) (.cons (.var 4) .nil)))) [some (.rol (ns.map .int)), some (.ref 0), some (.ref 1), some (.clo 207 []), some (.clo 208 [.ref 1, .ref 0]), none, none, none, none, none] [five (prE ns), five (suE ns)] = .nx (stE ns none none none none) [five (prE ns), five (suE ns)] := by
    simp [mk]
  have hcm : cleanM [five (prE ns), five (suE ns)] = true := rfl
  have hcs : cleanS (stE ns none none none none) = some (.rol (ns.map .int)) :: ([some (.ref 0), some (.ref 1), none, none, none, none, none, none] ++ [none]) := by
    have := clean_ints ns
    simp [cleanS, stE, cleanD, cleanDs, this]
  have e5 : evalE (ctx T.P (call T.P (n + 4)) (call T.P (n + 3))) (.pur (.lc [8] (.rng (.cst (.int 2)) (.cst (.int 6))) (.nm 8) .none C3_law_endless)) (stE ns none none none none) [five (prE ns), five (suE ns)] = .ok (.ref 2) M := by
    rw [ev_pur, if_pos hcm, hcs, e3]
  have s6 : execS (ctx T.P (call T.P (n + 4)) (call T.P (n + 3))) (.frs (.nm 6) (.seq (.pur (.lc [8] (.rng (.cst (.int 2)) (.cst (.int 6))) (.nm 8) .none C3_law_endless))) L2_law_endless) (stE ns none none none none) [five (prE ns), five (suE ns)] = .nx (stE ns c' x' y' z') M := by
    rw [ex_frs, ev_seq, e5, FS.bind_ok, seqD_ref]
    have : M[2]? = some (.lst ([cell ns 2, cell ns 3, cell ns 4, cell ns 5].map .int)) := rfl
    rw [this, seqO_l, toS_ok]
    exact e4
  have s7 : execSs (ctx T.P (call T.P (n + 4)) (call T.P (n + 3))) (.cons (.cal (.cons (.set 5 (.make 15 (.cons (.var 3) (.cons (.var 4) .nil)))) (.cons (.frs (.nm 6) (.seq (.pur (.lc [8] (.rng (.cst (.int 2)) (.cst (.int 6))) (.nm 8) .none C3_law_endless))) L2_law_endless) (.cons (.ret (.cst (.bl true))) .nil)))) .nil) [some (.rol (ns.map .int)), some (.ref 0), some (.ref 1), some (.clo 207 []), some (.clo 208 [.ref 1, .ref 0]), none, none, none, none, none] [five (prE ns), five (suE ns)] = .rt (.bl true) M := by
    have : execSs (ctx T.P (call T.P (n + 4)) (call T.P (n + 3))) (.cons (.set 5 (.make 15 (.cons (.var 3) (.cons (.var 4) .nil)))) (.cons (.frs (.nm 6) (.seq (.pur (.lc [8] (.rng (.cst (.int 2)) (.cst (.int 6))) (.nm 8) .none C3_law_endless))) L2_law_endless) (.cons (.ret (.cst (.bl true))) .nil))) [some (.rol (ns.map .int)), some (.ref 0), some (.ref 1), some (.clo 207 []), some (.clo 208 [.ref 1, .ref 0]), none, none, none, none, none] [five (prE ns), five (suE ns)] = .rt (.bl true) M := by
      rw [hx_c s5, hx_c s6]
      exact hx_r (hx_ret ev_cst)
    rw [execSs, execS, this]; rfl
  unfold B_law_endless
  rw [hx_c s1, hx_c s2, hx_c s3, hx_c s4, s7]
  rfl
theorem copy_step {C : Ctx} {M : Mem} {A : MO} {kv : List (D × D)} {ls : List MO} {σ : Sto} {p i l b d r : Nat} {kds : List (D × D)} {x : List D}
    (hp : σ[p]? = some (some (.ref (M.length + 1)))) (hi : σ[i]? = some (some (.str [d]))) (hl : σ[l]? = some (some (.ref b))) (hb : M[b]? = some (.dct false false kds)) (hg : dGet kds (.str [d]) = some (.ref r)) (hr : M[r]? = some (.lst x)) (hk : kv.length < 100) :
    execSs C (.cons (.setI (.var p) (.var i) (.bi .list (.cons (.idx (.var l) (.var i)) .nil))) .nil) σ (M ++ (A :: .dct false false kv :: ls)) = .nx σ (M ++ (A :: .dct false false (dPut kv (.str [d]) (.ref (M.length + 2 + ls.length))) :: (ls ++ [.lst x]))) := by
  have bl := (List.getElem?_eq_some_iff.mp hb).1
  have rl := (List.getElem?_eq_some_iff.mp hr).1
  have hb2 : (M ++ (A :: MO.dct false false kv :: ls))[b]? = some (.dct false false kds) := by rw [List.getElem?_append_left bl]; exact hb
  have hr2 : (M ++ (A :: MO.dct false false kv :: ls))[r]? = some (.lst x) := by rw [List.getElem?_append_left rl]; exact hr
  have kk : keyOk false (.str [d]) = true := rfl
  have n1 : (M ++ (A :: MO.dct false false kv :: ls)).length = M.length + 2 + ls.length := by simp; omega
  have g3 : (M ++ (A :: MO.dct false false kv :: ls) ++ [MO.lst x])[M.length + 1]? = some (.dct false false kv) := by
    rw [List.append_assoc, List.getElem?_append_right (by omega)]
    simp
  have e1 : evalE C (.bi .list (.cons (.idx (.var l) (.var i)) .nil)) σ (M ++ (A :: MO.dct false false kv :: ls)) = .ok (.ref (M.length + 2 + ls.length)) (M ++ (A :: MO.dct false false kv :: ls) ++ [MO.lst x]) := by
    simp only [ev_bi, ev_es1, ev_idx, ev_var, hl, hi, varD_s, FS.bind_ok, ix_ref, hb2, ixO_d, kk, if_true, hg, opt_some, ev_es0, bi_list, hr2, lstK_l, n1]
  have e2 : storeI (.ref (M.length + 1)) (.str [d]) (.ref (M.length + 2 + ls.length)) (M ++ (A :: MO.dct false false kv :: ls) ++ [MO.lst x]) = some (M ++ (A :: MO.dct false false (dPut kv (.str [d]) (.ref (M.length + 2 + ls.length))) :: (ls ++ [MO.lst x]))) := by
    have hlim : decide (kv.length < LIM) = true := decide_eq_true (show kv.length < 16777216 by omega)
    unfold storeI
    dsimp only
    rw [g3]
    dsimp only
    rw [hlim, kk]
    simp only [Bool.and_self, if_true]
    congr 1
    rw [List.append_assoc, List.set_append_right _ _ (by omega), show M.length + 1 - M.length = 1 by omega]
    rfl
  rw [hx_c (hx_setI e1 (he_var hp) (he_var hi) e2), hx_n]
theorem put_new {kv : List (D × D)} {d : Nat} {v : D} (h : ∀ p ∈ kv, p.1 ≠ .str [d]) : dPut kv (.str [d]) v = kv ++ [(.str [d], v)] := dPut_new fun e => by
  obtain ⟨p, hp, e⟩ := List.mem_map.mp e
  exact h p hp e
def cpK (a : Nat) : List Nat → List (D × D)
  | [] => []
  | d :: l => (.str [d], .ref a) :: cpK (a + 1) l
theorem cpK_snoc (d : Nat) : ∀ (l : List Nat) (a : Nat), cpK a (l ++ [d]) = cpK a l ++ [(.str [d], .ref (a + l.length))]
  | [], a => rfl
  | x :: l, a => by
    rw [List.cons_append, cpK, cpK_snoc d l (a + 1), cpK, List.cons_append, List.length_cons, show a + 1 + l.length = a + (l.length + 1) by omega]
theorem cpK_mem : ∀ (l : List Nat) (a : Nat) (p : D × D), p ∈ cpK a l → ∃ d ∈ l, p.1 = .str [d]
  | [], _, p, h => by cases h
  | x :: l, a, p, h => by
    rcases List.mem_cons.mp h with rfl | h
    · exact ⟨x, List.mem_cons_self, rfl⟩
    · obtain ⟨d, hd, e⟩ := cpK_mem l (a + 1) p h
      exact ⟨d, List.mem_cons_of_mem _ hd, e⟩
theorem cpK_len : ∀ (l : List Nat) (a : Nat), (cpK a l).length = l.length
  | [], _ => rfl
  | x :: l, a => by rw [cpK, List.length_cons, cpK_len l, List.length_cons]
theorem copies {C : Ctx} {M : Mem} {A : MO} {p i l b : Nat} {kds : List (D × D)} {rf : Nat → Nat} {x : Nat → List D} (hb : M[b]? = some (.dct false false kds)) (hpi : p ≠ i) (hli : l ≠ i) :
    ∀ (ds done : List Nat) (σ : Sto), i < σ.length → (done ++ ds).length < 100 → (done ++ ds).Nodup → (∀ d ∈ ds, dGet kds (.str [d]) = some (.ref (rf d)) ∧ M[rf d]? = some (.lst (x d))) → σ[p]? = some (some (.ref (M.length + 1))) → σ[l]? = some (some (.ref b)) →
    ∃ y, frLoop [] (.nm i) (execSs C (.cons (.setI (.var p) (.var i) (.bi .list (.cons (.idx (.var l) (.var i)) .nil))) .nil)) (ds.map fun d => .str [d]) σ (M ++ (A :: .dct false false (cpK (M.length + 2) done) :: done.map fun d => .lst (x d)))
      = .nx (σ.set i y) (M ++ (A :: .dct false false (cpK (M.length + 2) (done ++ ds)) :: (done ++ ds).map fun d => .lst (x d)))
  | [], done, σ, hi, _, _, _, hp, hl => ⟨σ[i], by rw [List.map_nil, frLoop_n, gOk_n, if_pos rfl, List.append_nil, List.set_getElem_self]⟩
  | d :: ds, done, σ, hi, h100, hn, hr, hp, hl => by
    obtain ⟨h1, h2⟩ := hr d List.mem_cons_self
    have hd : d ∉ done := by
      intro hd
      rw [List.nodup_append] at hn
      exact hn.2.2 d hd d List.mem_cons_self rfl
    have hp' : (σ.set i (some (.str [d])))[p]? = some (some (.ref (M.length + 1))) := by rw [List.getElem?_set_ne (Ne.symm hpi)]; exact hp
    have hl' : (σ.set i (some (.str [d])))[l]? = some (some (.ref b)) := by rw [List.getElem?_set_ne (Ne.symm hli)]; exact hl
    have hi' : (σ.set i (some (.str [d])))[i]? = some (some (.str [d])) := List.getElem?_set_self hi
    have st := copy_step (C := C) (A := A) (kv := cpK (M.length + 2) done) (ls := done.map fun d => MO.lst (x d)) hp' hi' hl' hb h1 h2 (by rw [cpK_len]; rw [List.length_append] at h100; omega)
    rw [put_new (fun q hq e => by
      obtain ⟨d', hd', e'⟩ := cpK_mem _ _ q hq
      rw [e'] at e
      cases e
      exact hd hd'), List.length_map, ← cpK_snoc] at st
    obtain ⟨y, ih⟩ := copies (C := C) (A := A) (x := x) (rf := rf) hb hpi hli ds (done ++ [d]) (σ.set i (some (.str [d]))) (by simpa using hi) (by simpa using h100) (by simpa using hn) (fun e he => hr e (List.mem_cons_of_mem _ he)) hp' hl'
    refine ⟨y, ?_⟩
    rw [List.map_cons, frLoop_c, gOk_n, if_pos rfl, bT_nm, bindK_s, st, loopK_nx]
    rw [List.map_append, List.set_set, List.append_assoc] at ih
    exact ih
theorem makeG (n : Nat) (u v : D) (m : Mem) : mk T.P (call T.P (n + 2)) 15 [u, v] m = .ok (.ins 15 [u, v]) m := by
  have h : call T.P (n + 2) 115 [u, v] m = .ok (.ins 15 [u, v]) m := by
    rw [call_succ2, fns_115]
    simp [runFn, start, l_115]
  unfold mk
  rw [cini_15]
  simp only [h]
  rfl
abbrev intsD (l : List Nat) : List D := (l.map fun (x : Nat) => (x : Int)).map D.int
theorem nats_R {B : Nat → Prop} {M : Mem} {a : Nat} {l : List Nat} (hb : B a) (h : M[a]? = some (.lst (intsD l))) : FV.R B M (natsV l) (.ref a) := by
  unfold natsV
  have e : (l.map fun (k : Nat) => V.int (k : Int)) = (l.map fun (x : Nat) => (x : Int)).map V.int := by rw [List.map_map]; rfl
  rw [e]
  exact .lst hb h (ints_R _)
abbrev wL (a : Nat) : D := .ins 15 [.clo 480 [.ref a], .clo 481 [.ref (a + 1)]]
abbrev memL (M1 : Mem) (st : List Nat) (ld : Nat → List Nat) (ds : List Nat) : Mem := M1 ++ (.lst (intsD st) :: .dct false false (cpK (M1.length + 2) ds) :: ds.map fun d => .lst (intsD (ld d)))
theorem listedH (n : Nat) {M : Mem} {a b : Nat} {st : List Nat} {kvs : List (D × V)} {ld : Nat → List Nat} {kds : List (D × D)} {rf : Nat → Nat} (h : LsOk st kvs ld) (ha : M[a]? = some (.lst (intsD st))) (hb : M[b]? = some (.dct false false kds)) (hk : Rk (All M) M kvs kds)
    (hg : ∀ d ∈ DD, dGet kds (.str [d]) = some (.ref (rf d)) ∧ M[rf d]? = some (.lst (intsD (ld d)))) :
    ∃ M1 : Mem, (∀ x, x < M.length → M1[x]? = M[x]?) ∧ call T.P (n + 5) F_listed_world [.ref a, .ref b] M = .ok (wL M1.length) (memL M1 st ld DD) := by
  have al := (List.getElem?_eq_some_iff.mp ha).1
  have bl := (List.getElem?_eq_some_iff.mp hb).1
  have ra : FV.R (All M) M (natsV st) (.ref a) := nats_R al ha
  have rb : FV.R (All M) M (.dct false kvs) (.ref b) := .dct bl hb hk
  obtain ⟨d, M1, B1, x1, old, v1⟩ := call_all OV_ok (call_looked (n + 2) h) (.cons ra (.cons rb .nil))
  cases v1
  refine ⟨M1, old, ?_⟩
  rw [callH N_listed_world rfl]
  have ha1 : M1[a]? = some (.lst (intsD st)) := by rw [old a al]; exact ha
  have hb1 : (M1)[b]? = some (.dct false false kds) := by rw [old b bl]; exact hb
  obtain ⟨y, cp⟩ := copies (C := ctx T.P (call T.P (n + 4)) (call T.P (n + 3))) (M := M1) (A := .lst (intsD st)) (p := 3) (i := 4) (l := 1) (b := b) (kds := kds) (rf := rf) (x := fun d => intsD (ld d)) hb1 (by decide) (by decide) DD []
    [some (.ref a), some (.ref b), some (.ref M1.length), some (.ref (M1.length + 1)), none, none, none] (by simp) (by decide) (by decide) (fun d hd => by
      obtain ⟨h1, h2⟩ := hg d hd
      exact ⟨h1, by rw [old _ (List.getElem?_eq_some_iff.mp h2).1]; exact h2⟩) rfl rfl
  have s1 : execS (ctx T.P (call T.P (n + 4)) (call T.P (n + 3))) (.ex (.call 360 (.cons (.var 0) (.cons (.var 1) .nil)))) (start 7 [.ref a, .ref b]) M = .nx [some (.ref a), some (.ref b), none, none, none, none, none] M1 := by
    simp [start, x1]
  have s2 : execS (ctx T.P (call T.P (n + 4)) (call T.P (n + 3))) (.set 2 (.bi .list (.cons (.var 0) .nil))) [some (.ref a), some (.ref b), none, none, none, none, none] M1 = .nx [some (.ref a), some (.ref b), some (.ref M1.length), none, none, none, none] (M1 ++ [.lst (intsD st)]) := by
    simp only [ex_set, ev_bi, ev_es1, ev_es0, ev_var, List.getElem?_cons_zero, varD_s, FS.bind_ok, bi_list, ha1, lstK_l, toS_ok]
    rfl
  have s3 : execS (ctx T.P (call T.P (n + 4)) (call T.P (n + 3))) (.set 3 (.dct0 false)) [some (.ref a), some (.ref b), some (.ref M1.length), none, none, none, none] (M1 ++ [.lst (intsD st)]) = .nx [some (.ref a), some (.ref b), some (.ref M1.length), some (.ref (M1.length + 1)), none, none, none] (M1 ++ [.lst (intsD st), .dct false false []]) := by
    simp
  have s4 : execS (ctx T.P (call T.P (n + 4)) (call T.P (n + 3))) (.frs (.nm 4) (.seq (.cst (.str [80, 81, 82, 83, 84]))) L1_listed_world) [some (.ref a), some (.ref b), some (.ref M1.length), some (.ref (M1.length + 1)), none, none, none] (M1 ++ [.lst (intsD st), .dct false false []])
      = .nx [some (.ref a), some (.ref b), some (.ref M1.length), some (.ref (M1.length + 1)), y, none, none] (memL M1 st ld DD) := by
    rw [ex_frs, ev_seq, ev_cst, FS.bind_ok, seqD_str, toS_ok]
    exact cp
  have s5 : execS (ctx T.P (call T.P (n + 4)) (call T.P (n + 3))) (.ndef 5 480 [2]) [some (.ref a), some (.ref b), some (.ref M1.length), some (.ref (M1.length + 1)), y, none, none] (memL M1 st ld DD) = .nx [some (.ref a), some (.ref b), some (.ref M1.length), some (.ref (M1.length + 1)), y, some (.clo 480 [.ref M1.length]), none] (memL M1 st ld DD) := by rw [execS]; rfl
  have s6 : execS (ctx T.P (call T.P (n + 4)) (call T.P (n + 3))) (.ndef 6 481 [3]) [some (.ref a), some (.ref b), some (.ref M1.length), some (.ref (M1.length + 1)), y, some (.clo 480 [.ref M1.length]), none] (memL M1 st ld DD) = .nx [some (.ref a), some (.ref b), some (.ref M1.length), some (.ref (M1.length + 1)), y, some (.clo 480 [.ref M1.length]), some (.clo 481 [.ref (M1.length + 1)])] (memL M1 st ld DD) := by rw [execS]; rfl
  have mk := makeG (n + 1) (.clo 480 [.ref M1.length]) (.clo 481 [.ref (M1.length + 1)]) (memL M1 st ld DD)
  generalize hM : memL M1 st ld DD = M2 at *
  have s7 : execS (ctx T.P (call T.P (n + 4)) (call T.P (n + 3))) (.ret (.make 15 (.cons (.var 5) (.cons (.var 6) .nil)))) [some (.ref a), some (.ref b), some (.ref M1.length), some (.ref (M1.length + 1)), y, some (.clo 480 [.ref M1.length]), some (.clo 481 [.ref (M1.length + 1)])] M2 = .rt (wL M1.length) M2 := by
    simp [mk]
  unfold B_listed_world
  rw [hx_c s1, hx_c s2, hx_c s3, hx_c s4, hx_c s5, hx_c s6, hx_r s7]
  rfl
theorem memL_0 (M1 : Mem) (st : List Nat) (ld : Nat → List Nat) (ds : List Nat) : (memL M1 st ld ds)[M1.length]? = some (.lst (intsD st)) := by
  unfold memL; rw [List.getElem?_append_right (Nat.le_refl _), Nat.sub_self]; rfl
theorem memL_1 (M1 : Mem) (st : List Nat) (ld : Nat → List Nat) (ds : List Nat) : (memL M1 st ld ds)[M1.length + 1]? = some (.dct false false (cpK (M1.length + 2) ds)) := by
  unfold memL; rw [List.getElem?_append_right (by omega), show M1.length + 1 - M1.length = 1 by omega]; rfl
theorem memL_k (M1 : Mem) (st : List Nat) (ld : Nat → List Nat) (ds : List Nat) (j d : Nat) (h : ds[j]? = some d) : (memL M1 st ld ds)[M1.length + 2 + j]? = some (.lst (intsD (ld d))) := by
  unfold memL; rw [List.getElem?_append_right (by omega), show M1.length + 2 + j - M1.length = j + 2 by omega]
  rw [List.getElem?_cons_succ, List.getElem?_cons_succ, List.getElem?_map, h]; rfl
theorem memL_old {M1 : Mem} {st : List Nat} {ld : Nat → List Nat} {ds : List Nat} {x : Nat} (h : x < M1.length) : (memL M1 st ld ds)[x]? = M1[x]? := List.getElem?_append_left h
theorem world_R {M' : Mem} {a : Nat} {st : List Nat} {ld : Nat → List Nat} (h0 : M'[a]? = some (.lst (intsD st))) (h1 : M'[a + 1]? = some (.dct false false (cpK (a + 2) DD))) (hk : ∀ j d, DD[j]? = some d → M'[a + 2 + j]? = some (.lst (intsD (ld d)))) : FV.R (All M') M' (listedV st ld) (wL a) := by
  have lt : ∀ {x : Nat} {o : MO}, M'[x]? = some o → All M' x := fun h => (List.getElem?_eq_some_iff.mp h).1
  have k0 := hk 0 80 rfl
  have k1 := hk 1 81 rfl
  have k2 := hk 2 82 rfl
  have k3 := hk 3 83 rfl
  have k4 := hk 4 84 rfl
  refine .ins (.cons (.clo (.cons (nats_R (lt h0) h0) .nil)) (.cons (.clo (.cons (.dct (lt h1) h1 ?_) .nil)) .nil))
  exact .cons (nats_R (lt k0) k0) (.cons (nats_R (lt k1) k1) (.cons (nats_R (lt k2) k2) (.cons (nats_R (lt k3) k3) (.cons (nats_R (lt k4) k4) .nil))))
theorem nats_eq (l : List Nat) : V.cmp .ne (natsV l) (natsV l) = some false := ne_self rfl (dat_lst fun v hv => by
  obtain ⟨x, _, rfl⟩ := List.mem_map.mp hv
  exact dat_int)
theorem dat_nats (n : Nat) (l : List Nat) : ∃ d, V.dat (n + 2) (natsV l) = some d := Option.isSome_iff_exists.mp (dat_lst (n := n + 1) fun v hv => by
  obtain ⟨x, _, rfl⟩ := List.mem_map.mp hv
  exact dat_int)
def TT : List Nat := [84, 83, 82, 81, 80]
def rowsT (ld : Nat → List Nat) : List (D × V) := TT.map fun d => (.str [d], natsV (ld d))
theorem rows_eqT (ld : Nat → List Nat) : V.cmp .ne (.dct false (rowsT ld)) (.dct false (rowsF ld)) = some false := by
  have e : V.cmp .ne (.dct false (rowsT ld)) (.dct false (rowsF ld)) = (V.eqv (.dct false (rowsT ld)) (.dct false (rowsF ld))).map (!·) := rfl
  rw [e]
  have h1 : V.dat 60 (.dct false (rowsT ld)) = none := by simp [V.dat]
  have h2 : V.neqL (.dct false (rowsT ld)) (.dct false (rowsF ld)) = none := rfl
  have hq : ∀ d, V.datEq (natsV (ld d)) (natsV (ld d)) = some true := fun d => by
    obtain ⟨x, hx⟩ := dat_nats 56 (ld d)
    unfold V.datEq
    rw [hx]
    simp [dat_refl]
  have h3 : V.eqDct (.dct false (rowsT ld)) (.dct false (rowsF ld)) = some true := by
    have hk : V.eqKv (rowsF ld) (rowsT ld) = some true := by
      have g : ∀ d ∈ TT, V.get (rowsF ld) (.str [d]) = some (natsV (ld d)) := fun d hd => by
        simp only [TT, List.mem_cons, List.not_mem_nil, or_false] at hd
        rcases hd with rfl | rfl | rfl | rfl | rfl <;> rfl
      have go : ∀ l : List Nat, (∀ d ∈ l, d ∈ TT) → V.eqKv (rowsF ld) (l.map fun d => (.str [d], natsV (ld d))) = some true := by
        intro l
        induction l with
        | nil => intro _; rfl
        | cons d l ih =>
          intro h
          rw [List.map_cons, V.eqKv, g d (h d List.mem_cons_self)]
          simp only [hq, ih fun x hx => h x (List.mem_cons_of_mem _ hx)]; rfl
      exact go TT fun d h => h
    have hl : (rowsT ld).length = (rowsF ld).length := rfl
    have hne : rowsT ld ≠ [] := by simp [rowsT, TT]
    unfold V.eqDct V.dctV
    simp only [hl, if_true, hk, if_neg hne]
    rfl
  unfold V.eqv
  rw [h1, h2]
  simp only [h3]
  rfl
theorem ls_T {st : List Nat} {ld : Nat → List Nat} (h : LsOk st (rowsF ld) ld) : LsOk st (rowsT ld) ld := ⟨h.ne, h.len, h.lt, rfl, fun d hd => by
  simp only [DD, List.mem_cons, List.not_mem_nil, or_false] at hd
  rcases hd with rfl | rfl | rfl | rfl | rfl <;> rfl, h.lens, h.lts⟩
theorem clears {C : Ctx} {lo hi q : Nat} {kds : List (D × D)} {rf : Nat → Nat} (hq : q < lo) : ∀ (ds : List Nat) (σ : Sto) (M : Mem), 6 < σ.length → σ[5]? = some (some (.ref q)) → M[q]? = some (.dct false false kds) →
    (∀ d ∈ ds, dGet kds (.str [d]) = some (.ref (rf d)) ∧ lo ≤ rf d ∧ rf d < hi ∧ ∃ l, M[rf d]? = some (.lst l)) →
    ∃ y M', frLoop [] (.nm 6) (execSs C L2_law) (ds.map fun d => .str [d]) σ M = .nx (σ.set 6 y) M' ∧ M'.length = M.length ∧ ∀ x, x < lo ∨ hi ≤ x → M'[x]? = M[x]?
  | [], σ, M, h6, h5, hM, hd => ⟨σ[6], M, by rw [List.map_nil, frLoop_n, gOk_n, if_pos rfl, List.set_getElem_self], rfl, fun _ _ => rfl⟩
  | d :: ds, σ, M, h6, h5, hM, hd => by
    obtain ⟨g1, g2, g3, l, g4⟩ := hd d List.mem_cons_self
    have rl := (List.getElem?_eq_some_iff.mp g4).1
    have h5' : (σ.set 6 (some (.str [d])))[5]? = some (some (.ref q)) := by rw [List.getElem?_set_ne (by decide)]; exact h5
    have h6' : (σ.set 6 (some (.str [d])))[6]? = some (some (.str [d])) := List.getElem?_set_self h6
    have kk : keyOk false (.str [d]) = true := rfl
    have eb : bm .clear (.ref (rf d)) [] M = .ok .non (M.set (rf d) (.lst [])) := by
      show (match M[rf d]? with | some (.lst _) => Res.ok D.non (M.set (rf d) (.lst [])) | _ => Res.no) = _
      rw [g4]
    have bs : execSs C L2_law (σ.set 6 (some (.str [d]))) M = .nx (σ.set 6 (some (.str [d]))) (M.set (rf d) (.lst [])) := by
      unfold L2_law
      have e1 : evalE C (.bm (.idx (.var 5) (.var 6)) .clear .nil) (σ.set 6 (some (.str [d]))) M = .ok .non (M.set (rf d) (.lst [])) := by
        simp only [ev_bm, ev_idx, ev_var, h5', h6', varD_s, FS.bind_ok, ix_ref, hM, ixO_d, kk, if_true, g1, opt_some, bmD_ref, g4, kindO_l, bmO_s, bmK_cl, ev_es0, eb]
      rw [hx_c (hx_ex e1), hx_n]
    obtain ⟨y, M', e, el, eo⟩ := clears (C := C) (lo := lo) (hi := hi) (rf := rf) hq ds (σ.set 6 (some (.str [d]))) (M.set (rf d) (.lst [])) (by simpa using h6) h5' (by rw [List.getElem?_set_ne (by omega)]; exact hM) (fun e he => by
      obtain ⟨k1, k2, k3, l', k4⟩ := hd e (List.mem_cons_of_mem _ he)
      refine ⟨k1, k2, k3, ?_⟩
      by_cases c : rf e = rf d
      · exact ⟨[], by rw [c, List.getElem?_set_self rl]⟩
      · exact ⟨l', by rw [List.getElem?_set_ne (fun z => c z.symm)]; exact k4⟩)
    refine ⟨y, M', ?_, by rw [el, List.length_set], fun x hx => by rw [eo x hx, List.getElem?_set_ne (by omega)]⟩
    rw [List.map_cons, frLoop_c, gOk_n, if_pos rfl, bT_nm, bindK_s, bs, loopK_nx, e, List.set_set]
theorem call_numb (n : Nat) (x : Int) : callV T.P OV (n + 2) F_law_number [.int x, .int x] = .ok false (.bl true) := by
  rw [callV_fn N_law_number rfl rfl]
  have : callV T.P OV (n + 1) F_law_whole [.int x] = .ok false (.bl true) := by
    rw [callV_fn N_law_whole rfl rfl]
    simp [B_law_whole, startV]
  simp [B_law_number, startV, this]
abbrev stT (k : Nat) (st : List Nat) (ld : Nat → List Nat) (y6 y10 : Option (Kd × V)) : VSto := [none, some (.sh, .int (k : Int)), some (.sh, natsV st), some (.sh, .dct false (rowsF ld)), none, none, y6, some (.sh, listedV st ld), none, none, y10]
theorem law_tail (k : Nat) (st : List Nat) (ld : Nat → List Nat) (hk : k ≤ 100) (hst : st.length = k) (h : LsOk st (rowsF ld) ld) :
    exVs (vctx T.P OV 229 (callV T.P OV 229) (callV T.P OV 228)) (dropS 13 B_law) (stT k st ld none none) = .rt false (.bl true) := by
  have W := wok_listed h
  have wc := W.cls
  have nu := fun x => call_numb 227 x
  have r1 := fun d (hd : d ∈ DD) => rows_idx (ld := ld) hd
  have q1 := r1 80 (by decide)
  have q2 := r1 81 (by decide)
  have q3 := r1 82 (by decide)
  have q4 := r1 83 (by decide)
  have q5 := r1 84 (by decide)
  have hr : rngOk 0 (k : Int) = true := rngOk_nat _ (by omega)
  have body : ∀ (i : Nat) (y6 : Option (Kd × V)), i < k → exVs (vctx T.P OV 229 (callV T.P OV 229) (callV T.P OV 228)) L4_law (stT k st ld y6 (some (.sh, .int (i : Int)))) = .nx (stT k st ld (some (.sh, .str [84])) (some (.sh, .int (i : Int)))) := fun i y6 hi => by
    have dom : domL st (i : Int) := ⟨i, by omega, rfl⟩
    have w1 := W.says 229 i (by omega) dom
    have w2 := fun d hd => W.leads 229 d i (by omega) dom hd
    have n1 := nats_idx (l := st) (i := i) (by omega)
    have n2 := fun d (hd : d ∈ DD) => nats_idx (l := ld d) (i := i) (by rw [h.lens d hd]; omega)
    unfold setL at w1
    unfold ledL at w2
    simp only [Int.toNat_natCast] at w1 w2
    have a1 := w2 80 (by decide)
    have a2 := w2 81 (by decide)
    have a3 := w2 82 (by decide)
    have a4 := w2 83 (by decide)
    have a5 := w2 84 (by decide)
    have b1 := n2 80 (by decide)
    have b2 := n2 81 (by decide)
    have b3 := n2 82 (by decide)
    have b4 := n2 83 (by decide)
    have b5 := n2 84 (by decide)
    clear w2 n2 r1 W h
    unfold stT
    generalize listedV st ld = w at *
    generalize rowsF ld = rr at *
    generalize natsV (ld 80) = l0 at *
    generalize natsV (ld 81) = l1 at *
    generalize natsV (ld 82) = l2 at *
    generalize natsV (ld 83) = l3 at *
    generalize natsV (ld 84) = l4 at *
    generalize natsV st = ls at *
    simp [L4_law, L3_law, wc, mt_set, mt_led, w1, a1, a2, a3, a4, a5, b1, b2, b3, b4, b5, n1, nu, q1, q2, q3, q4, q5]
  obtain ⟨s', e, y6, y10, rfl⟩ := frV_inv (tg := .nm 10) (body := exVs (vctx T.P OV 229 (callV T.P OV 229) (callV T.P OV 228)) L4_law) (enc := fun (i : Nat) => V.int (i : Int)) (fun _ s => ∃ y6 y10, s = stT k st ld y6 y10) (List.range k) [] (stT k st ld none none) ⟨_, _, rfl⟩ (fun pre i post s hi hs => by
    obtain ⟨y6, y10, rfl⟩ := hs
    have hik : i < k := by
      have : i ∈ List.range k := by
        rw [List.nil_append] at hi
        rw [hi]; simp
      simpa using this
    exact ⟨stT k st ld y6 (some (.sh, .int (i : Int))), rfl, _, .inl (body i y6 hik), _, _, rfl⟩)
  have e13 : dropS 13 B_law = .cons (.frs (.nm 10) (.rng (.cst (.int 0)) (.var 1)) L4_law) (.cons (.ret (.cst (.bl true))) .nil) := rfl
  rw [e13]
  simp [-frV_c, hr, rngV_nat, e]
theorem R_all {B : Nat → Prop} {m : Mem} {v : V} {d : D} (r : FV.R B m v d) : FV.R (All m) m v d := r.mono fun a o _ h => ⟨(List.getElem?_eq_some_iff.mp h).1, h⟩
theorem nats_ref' {B : Nat → Prop} {m : Mem} {l : List Nat} {d : D} (r : FV.R B m (natsV l) d) : ∃ a, d = .ref a ∧ m[a]? = some (.lst (intsD l)) := by
  unfold natsV at r
  have e : (l.map fun (k : Nat) => V.int (k : Int)) = (l.map fun (x : Nat) => (x : Int)).map V.int := by rw [List.map_map]; rfl
  rw [e] at r
  cases r with
  | lst b e r => rw [Rs.ints r] at e; exact ⟨_, rfl, e⟩
theorem rows_ref' {B : Nat → Prop} {m : Mem} {ld : Nat → List Nat} {d : D} (r : FV.R B m (.dct false (rowsF ld)) d) : ∃ b kds, d = .ref b ∧ m[b]? = some (.dct false false kds) ∧ KA m kds (L0 fun d => (ld d).map fun (x : Nat) => (x : Int)) := by
  cases r with
  | dct b e r =>
    refine ⟨_, _, rfl, e, ?_⟩
    have go : ∀ (l : List Nat) (kds : List (D × D)), Rk B m (l.map fun d => (.str [d], natsV (ld d))) kds → KA m kds (l.map fun d => ([d], (ld d).map fun (x : Nat) => (x : Int))) := by
      intro l
      induction l with
      | nil => intro kds h; cases h; exact .nil
      | cons d l ih =>
        intro kds h
        rw [List.map_cons] at h
        cases h with
        | cons r1 rs =>
          obtain ⟨a, rfl, ha⟩ := nats_ref' r1
          exact .cons ha (ih _ rs)
    exact go DD _ r
theorem lists_H (ns : List Int) (i k : Nat) (m : Mem) (h0 : 0 < k) (hk : k ≤ 100) : ∃ (st : List Nat) (ld : Nat → List Nat) (d2 d3 : D) (m' : Mem), call T.P 229 F_law_lists [.int (cell ns i), .int (k : Int)] m = .ok (.tup [d2, d3]) m' ∧
    (∀ x, x < m.length → m'[x]? = m[x]?) ∧ FV.R (All m') m' (natsV st) d2 ∧ FV.R (All m') m' (.dct false (rowsF ld)) d3 ∧ st.length = k ∧ LsOk st (rowsF ld) ld := by
  obtain ⟨st, ld, hl, hs, ok⟩ := call_lists 227 (cell ns i) k h0 hk
  obtain ⟨d, m', B', x, old, v⟩ := call_all OV_ok hl (ds := [.int (cell ns i), .int (k : Int)]) (m := m) (.cons (.int _) (.cons (.int _) .nil))
  cases v with
  | tup v =>
    cases v with
    | cons w1 v =>
      cases v with
      | cons w2 v =>
        cases v
        exact ⟨st, ld, _, _, m', x, old, R_all w1, R_all w2, hs, ok⟩
theorem dget_T (h j d : Nat) (e : TT[j]? = some d) : dGet (cpK (h + 2) TT) (.str [d]) = some (.ref (h + 2 + j)) := by
  match j, e with
  | 0, e | 1, e | 2, e | 3, e | 4, e => cases e; rfl
  | j + 5, e => simp [TT] at e
theorem inT {d : Nat} (hd : d ∈ DD) : TT[84 - d]? = some d := by
  simp only [DD, List.mem_cons, List.not_mem_nil, or_false] at hd
  rcases hd with rfl | rfl | rfl | rfl | rfl <;> rfl
theorem rk_T {B : Nat → Prop} {M : Mem} {h : Nat} {ld : Nat → List Nat} (hk : ∀ j d, TT[j]? = some d → M[h + 2 + j]? = some (.lst (intsD (ld d)))) (hb : ∀ x, x < M.length → B x) : Rk B M (rowsT ld) (cpK (h + 2) TT) := by
  have lt : ∀ {x : Nat} {o : MO}, M[x]? = some o → B x := fun h => hb _ (List.getElem?_eq_some_iff.mp h).1
  have k0 := hk 0 84 rfl
  have k1 := hk 1 83 rfl
  have k2 := hk 2 82 rfl
  have k3 := hk 3 81 rfl
  have k4 := hk 4 80 rfl
  exact .cons (nats_R (lt k0) k0) (.cons (nats_R (lt k1) k1) (.cons (nats_R (lt k2) k2) (.cons (nats_R (lt k3) k3) (.cons (nats_R (lt k4) k4) .nil))))
theorem pure_law (ns : List Int) (hns : ns.length ≤ 63) : ∃ m, call T.P 230 F_law [.rol (ns.map .int)] [] = .ok (.bl true) m := by
  obtain ⟨m0, x0⟩ := call_endless 224 ns
  have c6 := cellH 227 6 ns
  have c7 := cellH 227 7 ns
  have c8 := cellH 227 8 ns
  simp only [Int.cast_ofNat_Int] at c6 c7 c8
  obtain ⟨k, hk0, hk12, ek⟩ : ∃ k : Nat, 0 < k ∧ k ≤ 12 ∧ 1 + cell ns 6 % 12 = (k : Int) := ⟨(1 + cell ns 6 % 12).toNat, by omega, by omega, by omega⟩
  obtain ⟨st, ld, d2, d3, m1, x1, _, r2, r3, hst, ok⟩ := lists_H ns 7 k m0 hk0 (by omega)
  obtain ⟨a, rfl, ha⟩ := nats_ref' r2
  obtain ⟨b, kds, rfl, hb, hK⟩ := rows_ref' r3
  have al := (List.getElem?_eq_some_iff.mp ha).1
  have bl := (List.getElem?_eq_some_iff.mp hb).1
  have hex : ∀ d ∈ DD, ∃ r, dGet kds (.str [d]) = some (.ref r) ∧ m1[r]? = some (.lst (intsD (ld d))) := fun d hd => by
    obtain ⟨r, h1, h2, _⟩ := hK.get (look0 hd)
    exact ⟨r, h1, h2⟩
  obtain ⟨rf, hrf⟩ : ∃ rf : Nat → Nat, ∀ d ∈ DD, dGet kds (.str [d]) = some (.ref (rf d)) ∧ m1[rf d]? = some (.lst (intsD (ld d))) :=
    ⟨fun d => if h : d ∈ DD then Classical.choose (hex d h) else 0, fun d hd => by simp only [dif_pos hd]; exact Classical.choose_spec (hex d hd)⟩
  have tD : ∀ d ∈ TT, d ∈ DD := by decide
  obtain ⟨y6, cp⟩ := copies (C := ctx T.P (call T.P 229) (call T.P 228)) (M := m1) (A := .lst (intsD st)) (p := 5) (i := 6) (l := 3) (b := b) (kds := kds) (rf := rf) (x := fun d => intsD (ld d)) hb (by decide) (by decide) TT []
    [some (.rol (ns.map .int)), some (.int (k : Int)), some (.ref a), some (.ref b), some (.ref m1.length), some (.ref (m1.length + 1)), none, none, none, none, none] (by simp) (by decide) (by decide) (fun d hd => hrf d (tD d hd)) rfl rfl
  have hM3k : ∀ j d, TT[j]? = some d → (memL m1 st ld TT)[m1.length + 2 + j]? = some (.lst (intsD (ld d))) := fun j d => memL_k m1 st ld TT j d
  have hM3a := memL_0 m1 st ld TT
  have hM3b := memL_1 m1 st ld TT
  have hM3o : ∀ x, x < m1.length → (memL m1 st ld TT)[x]? = m1[x]? := fun x hx => memL_old hx
  have hM3l : (memL m1 st ld TT).length = m1.length + 7 := by unfold memL; simp [TT]
  have cp' : frLoop [] (.nm 6) (execSs (ctx T.P (call T.P 229) (call T.P 228)) L1_law) (TT.map fun d => .str [d]) [some (.rol (ns.map .int)), some (.int (k : Int)), some (.ref a), some (.ref b), some (.ref m1.length), some (.ref (m1.length + 1)), none, none, none, none, none] (m1 ++ [.lst (intsD st), .dct false false []])
      = .nx [some (.rol (ns.map .int)), some (.int (k : Int)), some (.ref a), some (.ref b), some (.ref m1.length), some (.ref (m1.length + 1)), y6, none, none, none, none] (memL m1 st ld TT) := cp
  clear cp
  generalize memL m1 st ld TT = M3 at *
  obtain ⟨m4, old4, x4⟩ := listedH 224 (M := M3) (a := m1.length) (b := m1.length + 1) (st := st) (kvs := rowsT ld) (ld := ld) (kds := cpK (m1.length + 2) TT) (rf := fun d => m1.length + 2 + (84 - d)) (ls_T ok) hM3a hM3b (rk_T hM3k fun x hx => hx) (fun d hd => ⟨dget_T _ _ _ (inT hd), hM3k _ _ (inT hd)⟩)
  have l34 : M3.length ≤ m4.length := len_le old4
  have hM5o : ∀ x, x < m4.length → (memL m4 st ld DD)[x]? = m4[x]? := fun x hx => memL_old hx
  have hW0 := memL_0 m4 st ld DD
  have hW1 := memL_1 m4 st ld DD
  have hWk : ∀ j d, DD[j]? = some d → (memL m4 st ld DD)[m4.length + 2 + j]? = some (.lst (intsD (ld d))) := fun j d => memL_k m4 st ld DD j d
  generalize memL m4 st ld DD = M5 at *
  have old5 : ∀ x, x < M3.length → M5[x]? = M3[x]? := fun x hx => (hM5o x (by omega)).trans (old4 x hx)
  have a5 : M5[a]? = some (.lst (intsD st)) := by rw [old5 a (by omega), hM3o a al]; exact ha
  have b5 : M5[b]? = some (.dct false false kds) := by rw [old5 b (by omega), hM3o b bl]; exact hb
  have h5 : M5[m1.length]? = some (.lst (intsD st)) := by rw [old5 _ (by omega)]; exact hM3a
  have q5 : M5[m1.length + 1]? = some (.dct false false (cpK (m1.length + 2) TT)) := by rw [old5 _ (by omega)]; exact hM3b
  have k5 : ∀ j d, TT[j]? = some d → M5[m1.length + 2 + j]? = some (.lst (intsD (ld d))) := fun j d e => by
    have : j < 5 := (List.getElem?_eq_some_iff.mp e).1
    rw [old5 _ (by omega)]; exact hM3k j d e
  have lt5 : ∀ {x : Nat} {o : MO}, M5[x]? = some o → All M5 x := fun h => (List.getElem?_eq_some_iff.mp h).1
  have rk5 : Rk (All M5) M5 (rowsF ld) kds := by
    have k1 : KA M5 kds (L0 fun d => (ld d).map fun (x : Nat) => (x : Int)) := hK.mono fun key r hm o ho => by
      have := (List.getElem?_eq_some_iff.mp ho).1
      rw [old5 r (by omega), hM3o r this]; exact ho
    have e : kvsI (L0 fun d => (ld d).map fun (x : Nat) => (x : Int)) = rowsF ld := by
      unfold kvsI L0 rowsF natsV
      rw [List.map_map]
      apply List.map_congr_left
      intro d _
      show (_, V.lst (((ld d).map fun (x : Nat) => (x : Int)).map V.int)) = _
      rw [List.map_map]; rfl
    rw [← e]; exact k1.rk
  have ne1 : cmp2 .ne (.ref m1.length) (.ref a) M5 = some false := cmp_R (B := All M5) (nats_eq st) (.sh (nats_R (lt5 h5) h5)) (.sh (nats_R (lt5 a5) a5))
  have ne2 : cmp2 .ne (.ref (m1.length + 1)) (.ref b) M5 = some false := cmp_R (B := All M5) (rows_eqT ld) (.sh (.dct (lt5 q5) q5 (rk_T k5 fun x hx => hx))) (.sh (.dct (lt5 b5) b5 rk5))
  obtain ⟨y6', M6, cl, l6, old6⟩ := clears (C := ctx T.P (call T.P 229) (call T.P 228)) (lo := m1.length + 2) (hi := m1.length + 7) (q := m1.length + 1) (kds := cpK (m1.length + 2) TT) (rf := fun d => m1.length + 2 + (84 - d)) (by omega) DD
    [some (.rol (ns.map .int)), some (.int (k : Int)), some (.ref a), some (.ref b), some (.ref m1.length), some (.ref (m1.length + 1)), y6, some (wL m4.length), none, none, none] M5 (by simp) rfl q5 (fun d hd => ⟨dget_T _ _ _ (inT hd), by omega, by
      have : 84 - d < 5 := (List.getElem?_eq_some_iff.mp (inT hd)).1
      show m1.length + 2 + (84 - d) < m1.length + 7
      omega, _, k5 _ _ (inT hd)⟩)
  have cl' : frLoop [] (.nm 6) (execSs (ctx T.P (call T.P 229) (call T.P 228)) L2_law) (DD.map fun d => .str [d]) [some (.rol (ns.map .int)), some (.int (k : Int)), some (.ref a), some (.ref b), some (.ref m1.length), some (.ref (m1.length + 1)), y6, some (wL m4.length), none, none, none] M5
      = .nx [some (.rol (ns.map .int)), some (.int (k : Int)), some (.ref a), some (.ref b), some (.ref m1.length), some (.ref (m1.length + 1)), y6', some (wL m4.length), none, none, none] M6 := cl
  clear cl
  have q6 : M6[m1.length + 1]? = some (.dct false false (cpK (m1.length + 2) TT)) := by rw [old6 _ (.inl (by omega))]; exact q5
  have h6 : M6[m1.length]? = some (.lst (intsD st)) := by rw [old6 _ (.inl (by omega))]; exact h5
  have l5 : m4.length + 7 ≤ M5.length := by
    have := (List.getElem?_eq_some_iff.mp (hWk 4 84 rfl)).1
    omega
  let M7 : Mem := (M6.set (m1.length + 1) (.dct false false [])).set m1.length (.lst (intsD st ++ [.int 3]))
  have e7a : bm .dclear (.ref (m1.length + 1)) [] M6 = .ok .non (M6.set (m1.length + 1) (.dct false false [])) := by
    show (match M6[m1.length + 1]? with | some (.dct false false _) => Res.ok D.non (M6.set (m1.length + 1) (.dct false false [])) | _ => Res.no) = _
    rw [q6]
  have h6' : (M6.set (m1.length + 1) (.dct false false []))[m1.length]? = some (.lst (intsD st)) := by rw [List.getElem?_set_ne (by omega)]; exact h6
  have old7 : ∀ x, x < m1.length ∨ m1.length + 7 ≤ x → M7[x]? = M5[x]? := fun x hx => by
    show ((M6.set (m1.length + 1) (.dct false false [])).set m1.length (.lst (intsD st ++ [.int 3])))[x]? = _
    rw [List.getElem?_set_ne (by omega), List.getElem?_set_ne (by omega), old6 x (by omega)]
  have l7 : M7.length = M5.length := by
    show ((M6.set (m1.length + 1) (.dct false false [])).set m1.length (.lst (intsD st ++ [.int 3]))).length = _
    rw [List.length_set, List.length_set, l6]
  have hl3 : (intsD st).length < 16777216 := by rw [List.length_map, List.length_map]; omega
  have e7b : ((M6.set (m1.length + 1) (.dct false false [])).set m1.length (.lst (intsD st ++ [.int 3]))) = M7 := rfl
  clear_value M7
  obtain ⟨st2, ld2, d8, d9, M8, x8, old8, r8, r9, hst2, ok2⟩ := lists_H ns 8 (k + 1) M7 (by omega) (by omega)
  obtain ⟨dw, M9, B9, x9, old9, _⟩ := call_all OV_ok (call_listed 225 ok2) (.cons r8 (.cons r9 .nil))
  have l89 := len_le old9
  have l78 := len_le old8
  have old9' : ∀ x, x < m1.length ∨ (m1.length + 7 ≤ x ∧ x < M5.length) → M9[x]? = M5[x]? := fun x hx => by
    rw [old9 x (by omega), old8 x (by omega), old7 x (by omega)]
  have r79 : FV.R (All M9) M9 (listedV st ld) (wL m4.length) := world_R (by rw [old9' _ (.inr ⟨by omega, by omega⟩)]; exact hW0) (by rw [old9' _ (.inr ⟨by omega, by omega⟩)]; exact hW1) (fun j d e => by
    have : j < 5 := (List.getElem?_eq_some_iff.mp e).1
    rw [old9' _ (.inr ⟨by omega, by omega⟩)]; exact hWk j d e)
  have a9 : M9[a]? = some (.lst (intsD st)) := by rw [old9' a (.inl al)]; exact a5
  have b9 : M9[b]? = some (.dct false false kds) := by rw [old9' b (.inl bl)]; exact b5
  have rk9 : Rk (All M9) M9 (rowsF ld) kds := by
    have k1 : KA M9 kds (L0 fun d => (ld d).map fun (x : Nat) => (x : Int)) := hK.mono fun key r hm o ho => by
      have := (List.getElem?_eq_some_iff.mp ho).1
      rw [old9' r (.inl this), old5 r (by omega), hM3o r this]; exact ho
    have e : kvsI (L0 fun d => (ld d).map fun (x : Nat) => (x : Int)) = rowsF ld := by
      unfold kvsI L0 rowsF natsV
      rw [List.map_map]
      apply List.map_congr_left
      intro d _
      show (_, V.lst (((ld d).map fun (x : Nat) => (x : Int)).map V.int)) = _
      rw [List.map_map]; rfl
    rw [← e]; exact k1.rk
  have lt9 : ∀ {x : Nat} {o : MO}, M9[x]? = some o → All M9 x := fun h => (List.getElem?_eq_some_iff.mp h).1
  have hC : CtxOk (vctx T.P OV 229 (callV T.P OV 229) (callV T.P OV 228)) (ctx T.P (call T.P 229) (call T.P 228)) := vctx_h OV_ok 228
  have I9 : FV.Inv Y0 Z0 (All M9) (stT k st ld none none) [some (.rol (ns.map .int)), some (.int (k : Int)), some (.ref a), some (.ref b), some (.ref m1.length), some (.ref (m1.length + 1)), y6', some (wL m4.length), some d8, some d9, none] M9 := by
    refine all_inv rfl fun i y h => ?_
    unfold stT at h
    match i, h with
    | 0, h => cases h
    | 1, h => cases h; exact ⟨_, _, rfl, rfl, .int _⟩
    | 2, h => cases h; exact ⟨_, _, rfl, rfl, nats_R (lt9 a9) a9⟩
    | 3, h => cases h; exact ⟨_, _, rfl, rfl, .dct (lt9 b9) b9 rk9⟩
    | 4, h => cases h
    | 5, h => cases h
    | 6, h => cases h
    | 7, h => cases h; exact ⟨_, _, rfl, rfl, r79⟩
    | 8, h => cases h
    | 9, h => cases h
    | 10, h => cases h
    | i + 11, h => simp at h
  obtain ⟨tl, htl⟩ : ∃ tl, dropS 13 B_law = tl := ⟨_, rfl⟩
  have lt0 := law_tail k st ld (by omega) hst ok
  rw [htl] at lt0
  have o := exVs_ok hC tl I9
  rw [lt0] at o
  obtain ⟨dr, M10, B10, x10, _, _, _, v10⟩ := o
  have hd : dr = .bl true := by cases v10; rfl
  subst hd
  refine ⟨M10, ?_⟩
  rw [callH N_law rfl]
  have s1 : execSs (ctx T.P (call T.P 229) (call T.P 228)) (takeS 3 B_law) (start 11 [.rol (ns.map .int)]) [] = .nx [some (.rol (ns.map .int)), some (.int (k : Int)), some (.ref a), some (.ref b), none, none, none, none, none, none, none] m1 := by
    simp only [B_law, takeS_c, takeS_0]
    simp [start, x0, c6, c7, ek, x1]
  have s2 : execSs (ctx T.P (call T.P 229) (call T.P 228)) (takeS 3 (dropS 3 B_law)) [some (.rol (ns.map .int)), some (.int (k : Int)), some (.ref a), some (.ref b), none, none, none, none, none, none, none] m1
      = .nx [some (.rol (ns.map .int)), some (.int (k : Int)), some (.ref a), some (.ref b), some (.ref m1.length), some (.ref (m1.length + 1)), y6, none, none, none, none] M3 := by
    have t1 : execS (ctx T.P (call T.P 229) (call T.P 228)) (.set 4 (.bi .list (.cons (.var 2) .nil))) [some (.rol (ns.map .int)), some (.int (k : Int)), some (.ref a), some (.ref b), none, none, none, none, none, none, none] m1
        = .nx [some (.rol (ns.map .int)), some (.int (k : Int)), some (.ref a), some (.ref b), some (.ref m1.length), none, none, none, none, none, none] (m1 ++ [.lst (intsD st)]) := by
      simp only [ex_set, ev_bi, ev_es1, ev_es0, ev_var, List.getElem?_cons_zero, List.getElem?_cons_succ, varD_s, FS.bind_ok, bi_list, ha, lstK_l, toS_ok]
      rfl
    have t2 : execS (ctx T.P (call T.P 229) (call T.P 228)) (.set 5 (.dct0 false)) [some (.rol (ns.map .int)), some (.int (k : Int)), some (.ref a), some (.ref b), some (.ref m1.length), none, none, none, none, none, none] (m1 ++ [.lst (intsD st)])
        = .nx [some (.rol (ns.map .int)), some (.int (k : Int)), some (.ref a), some (.ref b), some (.ref m1.length), some (.ref (m1.length + 1)), none, none, none, none, none] (m1 ++ [.lst (intsD st), .dct false false []]) := by
      simp
    have t3 : execS (ctx T.P (call T.P 229) (call T.P 228)) (.frs (.nm 6) (.seq (.cst (.str [84, 83, 82, 81, 80]))) L1_law) [some (.rol (ns.map .int)), some (.int (k : Int)), some (.ref a), some (.ref b), some (.ref m1.length), some (.ref (m1.length + 1)), none, none, none, none, none] (m1 ++ [.lst (intsD st), .dct false false []])
        = .nx [some (.rol (ns.map .int)), some (.int (k : Int)), some (.ref a), some (.ref b), some (.ref m1.length), some (.ref (m1.length + 1)), y6, none, none, none, none] M3 := by
      rw [ex_frs, ev_seq, ev_cst, FS.bind_ok, seqD_str, toS_ok]
      exact cp'
    simp only [B_law, dropS_c, dropS_0, takeS_c, takeS_0]
    rw [hx_c t1, hx_c t2, hx_c t3, hx_n]
  have s3 : execSs (ctx T.P (call T.P 229) (call T.P 228)) (takeS 2 (dropS 6 B_law)) [some (.rol (ns.map .int)), some (.int (k : Int)), some (.ref a), some (.ref b), some (.ref m1.length), some (.ref (m1.length + 1)), y6, none, none, none, none] M3
      = .nx [some (.rol (ns.map .int)), some (.int (k : Int)), some (.ref a), some (.ref b), some (.ref m1.length), some (.ref (m1.length + 1)), y6, some (wL m4.length), none, none, none] M5 := by
    simp only [B_law, dropS_c, dropS_0, takeS_c, takeS_0]
    simp [x4, ne1, ne2]
  have s4 : execSs (ctx T.P (call T.P 229) (call T.P 228)) (takeS 3 (dropS 8 B_law)) [some (.rol (ns.map .int)), some (.int (k : Int)), some (.ref a), some (.ref b), some (.ref m1.length), some (.ref (m1.length + 1)), y6, some (wL m4.length), none, none, none] M5
      = .nx [some (.rol (ns.map .int)), some (.int (k : Int)), some (.ref a), some (.ref b), some (.ref m1.length), some (.ref (m1.length + 1)), y6', some (wL m4.length), none, none, none] M7 := by
    have t1 : execS (ctx T.P (call T.P 229) (call T.P 228)) (.frs (.nm 6) (.seq (.cst (.str [80, 81, 82, 83, 84]))) L2_law) [some (.rol (ns.map .int)), some (.int (k : Int)), some (.ref a), some (.ref b), some (.ref m1.length), some (.ref (m1.length + 1)), y6, some (wL m4.length), none, none, none] M5
        = .nx [some (.rol (ns.map .int)), some (.int (k : Int)), some (.ref a), some (.ref b), some (.ref m1.length), some (.ref (m1.length + 1)), y6', some (wL m4.length), none, none, none] M6 := by
      rw [ex_frs, ev_seq, ev_cst, FS.bind_ok, seqD_str, toS_ok]
      exact cl'
    have t2 : execS (ctx T.P (call T.P 229) (call T.P 228)) (.ex (.bm (.var 5) .dclear .nil)) [some (.rol (ns.map .int)), some (.int (k : Int)), some (.ref a), some (.ref b), some (.ref m1.length), some (.ref (m1.length + 1)), y6', some (wL m4.length), none, none, none] M6
        = .nx [some (.rol (ns.map .int)), some (.int (k : Int)), some (.ref a), some (.ref b), some (.ref m1.length), some (.ref (m1.length + 1)), y6', some (wL m4.length), none, none, none] (M6.set (m1.length + 1) (.dct false false [])) := by
      refine hx_ex (d := .non) ?_
      simp only [ev_bm, ev_var, List.getElem?_cons_zero, List.getElem?_cons_succ, varD_s, FS.bind_ok, bmD_ref, q6, kindO_d, bmO_s, bmK_dc, if_true, ev_es0, e7a]
    have t3 : execS (ctx T.P (call T.P 229) (call T.P 228)) (.ex (.bm (.var 4) .append (.cons (.cst (.int 3)) .nil))) [some (.rol (ns.map .int)), some (.int (k : Int)), some (.ref a), some (.ref b), some (.ref m1.length), some (.ref (m1.length + 1)), y6', some (wL m4.length), none, none, none] (M6.set (m1.length + 1) (.dct false false []))
        = .nx [some (.rol (ns.map .int)), some (.int (k : Int)), some (.ref a), some (.ref b), some (.ref m1.length), some (.ref (m1.length + 1)), y6', some (wL m4.length), none, none, none] M7 := by
      refine hx_ex (d := .non) ?_
      have hlim : ((intsD st).length < LIM) = True := eq_true hl3
      simp only [ev_bm, ev_var, List.getElem?_cons_zero, List.getElem?_cons_succ, varD_s, FS.bind_ok, bmD_ref, h6', kindO_l, bmO_s, bmK_al, if_true, ev_es1, ev_es0, ev_cst, bm_app, lstO_l, appM_s, hlim, e7b]
    simp only [B_law, dropS_c, dropS_0, takeS_c, takeS_0]
    rw [hx_c t1, hx_c t2, hx_c t3, hx_n]
  have s5 : execSs (ctx T.P (call T.P 229) (call T.P 228)) (takeS 2 (dropS 11 B_law)) [some (.rol (ns.map .int)), some (.int (k : Int)), some (.ref a), some (.ref b), some (.ref m1.length), some (.ref (m1.length + 1)), y6', some (wL m4.length), none, none, none] M7
      = .nx [some (.rol (ns.map .int)), some (.int (k : Int)), some (.ref a), some (.ref b), some (.ref m1.length), some (.ref (m1.length + 1)), y6', some (wL m4.length), some d8, some d9, none] M9 := by
    simp only [Int.natCast_add, Int.natCast_one] at x8
    simp only [B_law, dropS_c, dropS_0, takeS_c, takeS_0]
    simp [c8, x8, x9]
  have eB : B_law = app (takeS 3 B_law) (app (takeS 3 (dropS 3 B_law)) (app (takeS 2 (dropS 6 B_law)) (app (takeS 3 (dropS 8 B_law)) (app (takeS 2 (dropS 11 B_law)) (dropS 13 B_law))))) := rfl
  rw [eB, htl, exec_app, s1, nx_seq, exec_app, s2, nx_seq, exec_app, s3, nx_seq, exec_app, s4, nx_seq, exec_app, s5, nx_seq, x10]
  rfl
end HP
namespace HP
open PySem PySem.Spec PyProof.Rows L2 FS
theorem chk0 : T.chk0 = true := by decide +kernel
theorem s_0 : ("PQRST" : Str) = ⟨([80, 81, 82, 83, 84] : List Nat).toArray⟩ := by rfl
theorem s_1 : ("TSRQP" : Str) = ⟨([84, 83, 82, 81, 80] : List Nat).toArray⟩ := by rfl
section
variable {K : PySem.W.Frag}
theorem fn_10 : ("says" : Str) = (T.G K).fnm 10 := rfl
theorem kf_10 (K : PySem.W.Frag) : (T.G K).kf 10 = true := rfl
theorem fn_11 : ("leads" : Str) = (T.G K).fnm 11 := rfl
theorem kf_11 (K : PySem.W.Frag) : (T.G K).kf 11 = true := rfl
theorem mn_7 : ("setting" : Str) = (T.G K).mn 7 := rfl
theorem mnf_7 (K : PySem.W.Frag) : ∀ f, (T.G K).kf f = true → (T.G K).fnm f ≠ (T.G K).mn 7 := mnf_of chk0 rfl
theorem mn_8 : ("led" : Str) = (T.G K).mn 8 := rfl
theorem mnf_8 (K : PySem.W.Frag) : ∀ f, (T.G K).kf f = true → (T.G K).fnm f ≠ (T.G K).mn 8 := mnf_of chk0 rfl
theorem clf (K : PySem.W.Frag) : ∀ f I, (T.G K).clo f = some I → isFn T.P f := clf_of (by decide +kernel)
def p_480 : Pos := ⟨39, 4, 40, 26⟩
theorem st_480 : I_480.st = .FunctionDef I_480.name (C8.fnArgs I_480.st) (C8.fnBody I_480.st) [] none [] (C8.fnScope I_480.st) none I_480.name p_480 := rfl
theorem q_480 : I_480.qual = (("listed_world" : Str) ++ ".<locals>.") ++ I_480.name := by decide +kernel
theorem n_480 : nmT (p_480).line (p_480).col = (("listed_world" : Str) ++ ".<locals>.") ++ I_480.name := by decide +kernel
theorem nb_480 : NdefX.ndefB (defScope (top 9)) (C8.fnScope I_480.st) I_480.fr = true := by decide +kernel
theorem fr_480 : ∀ y, (y, NameKind.free) ∈ (C8.fnScope I_480.st).names → y ∈ I_480.fr := fun y hy => by
  have h : ((C8.fnScope I_480.st).names.all fun q => !decide (q.2 = .free) || decide (q.1 ∈ I_480.fr)) = true := by decide +kernel
  have := List.all_eq_true.mp h _ hy
  simpa using this
def p_481 : Pos := ⟨42, 4, 43, 33⟩
theorem st_481 : I_481.st = .FunctionDef I_481.name (C8.fnArgs I_481.st) (C8.fnBody I_481.st) [] none [] (C8.fnScope I_481.st) none I_481.name p_481 := rfl
theorem q_481 : I_481.qual = (("listed_world" : Str) ++ ".<locals>.") ++ I_481.name := by decide +kernel
theorem n_481 : nmT (p_481).line (p_481).col = (("listed_world" : Str) ++ ".<locals>.") ++ I_481.name := by decide +kernel
theorem nb_481 : NdefX.ndefB (defScope (top 9)) (C8.fnScope I_481.st) I_481.fr = true := by decide +kernel
theorem fr_481 : ∀ y, (y, NameKind.free) ∈ (C8.fnScope I_481.st).names → y ∈ I_481.fr := fun y hy => by
  have h : ((C8.fnScope I_481.st).names.all fun q => !decide (q.2 = .free) || decide (q.1 ∈ I_481.fr)) = true := by decide +kernel
  have := List.all_eq_true.mp h _ hy
  simpa using this
def p_207 : Pos := ⟨61, 4, 62, 30⟩
theorem st_207 : I_207.st = .FunctionDef I_207.name (C8.fnArgs I_207.st) (C8.fnBody I_207.st) [] none [] (C8.fnScope I_207.st) none I_207.name p_207 := rfl
theorem q_207 : I_207.qual = (("_law_endless" : Str) ++ ".<locals>.") ++ I_207.name := by decide +kernel
theorem n_207 : nmT (p_207).line (p_207).col = (("_law_endless" : Str) ++ ".<locals>.") ++ I_207.name := by decide +kernel
theorem nb_207 : NdefX.ndefB (defScope (top 15)) (C8.fnScope I_207.st) I_207.fr = true := by decide +kernel
theorem fr_207 : ∀ y, (y, NameKind.free) ∈ (C8.fnScope I_207.st).names → y ∈ I_207.fr := fun y hy => by
  have h : ((C8.fnScope I_207.st).names.all fun q => !decide (q.2 = .free) || decide (q.1 ∈ I_207.fr)) = true := by decide +kernel
  have := List.all_eq_true.mp h _ hy
  simpa using this
def p_208 : Pos := ⟨64, 4, 66, 75⟩
theorem st_208 : I_208.st = .FunctionDef I_208.name (C8.fnArgs I_208.st) (C8.fnBody I_208.st) [] none [] (C8.fnScope I_208.st) none I_208.name p_208 := rfl
theorem q_208 : I_208.qual = (("_law_endless" : Str) ++ ".<locals>.") ++ I_208.name := by decide +kernel
theorem n_208 : nmT (p_208).line (p_208).col = (("_law_endless" : Str) ++ ".<locals>.") ++ I_208.name := by decide +kernel
theorem nb_208 : NdefX.ndefB (defScope (top 15)) (C8.fnScope I_208.st) I_208.fr = true := by decide +kernel
theorem fr_208 : ∀ y, (y, NameKind.free) ∈ (C8.fnScope I_208.st).names → y ∈ I_208.fr := fun y hy => by
  have h : ((C8.fnScope I_208.st).names.all fun q => !decide (q.2 = .free) || decide (q.1 ∈ I_208.fr)) = true := by decide +kernel
  have := List.all_eq_true.mp h _ hy
  simpa using this
theorem nm_one : ∀ p ∈ T.tn, p.2 = nmT := by intro p hp; simp only [T, List.mem_cons, List.not_mem_nil, or_false] at hp; rcases hp with rfl | rfl <;> rfl
theorem kfn_359 (K : PySem.W.Frag) : (T.G K).kfn 359 = true := rfl
theorem isf_359 : isFn T.P 359 := ⟨_, _, _, rfl⟩
theorem kfn_360 (K : PySem.W.Frag) : (T.G K).kfn 360 = true := rfl
theorem isf_360 : isFn T.P 360 := ⟨_, _, _, rfl⟩
theorem kfn_361 (K : PySem.W.Frag) : (T.G K).kfn 361 = true := rfl
theorem isf_361 : isFn T.P 361 := ⟨_, _, _, rfl⟩
theorem kfn_200 (K : PySem.W.Frag) : (T.G K).kfn 200 = true := rfl
theorem isf_200 : isFn T.P 200 := ⟨_, _, _, rfl⟩
theorem kfn_201 (K : PySem.W.Frag) : (T.G K).kfn 201 = true := rfl
theorem isf_201 : isFn T.P 201 := ⟨_, _, _, rfl⟩
theorem kfn_202 (K : PySem.W.Frag) : (T.G K).kfn 202 = true := rfl
theorem isf_202 : isFn T.P 202 := ⟨_, _, _, rfl⟩
theorem kfn_203 (K : PySem.W.Frag) : (T.G K).kfn 203 = true := rfl
theorem isf_203 : isFn T.P 203 := ⟨_, _, _, rfl⟩
theorem kfn_204 (K : PySem.W.Frag) : (T.G K).kfn 204 = true := rfl
theorem isf_204 : isFn T.P 204 := ⟨_, _, _, rfl⟩
theorem kfn_205 (K : PySem.W.Frag) : (T.G K).kfn 205 = true := rfl
theorem isf_205 : isFn T.P 205 := ⟨_, _, _, rfl⟩
theorem kfn_206 (K : PySem.W.Frag) : (T.G K).kfn 206 = true := rfl
theorem isf_206 : isFn T.P 206 := ⟨_, _, _, rfl⟩
variable {n : Nat} {X : Cx} {W : WX} {C : FS.Ctx}
theorem kpO_15 {o : List (Nat × Addr × L2.V)} {sl : Nat → Bool} (E0 : EnvO ((T.G K).ow o sl) T.P n X W C) : PySem.W.keepIn X.K (.ref (((T.G K).ow o sl).cls 15)) = true := (E0.st.imm 15 115 rfl).1.kp
theorem ci_15 : T.P.cini 15 = some (.imm 115) := rfl
theorem ne_15 : T.P.cini 15 ≠ some .bare := by rw [ci_15]; exact nofun
end
structure Mg (K : PySem.W.Frag) (mg : Str → Option Value) : Prop where
  k_DEEDS : ∃ t, mg "DEEDS" = some (.str "PQRST" t)
  k_MOST_STATES : ∃ t, mg "MOST_STATES" = some (.int 3000 t)
  g_all : mg "all" = none
  g_bool : mg "bool" = none
  g_int : mg "int" = none
  g_isinstance : mg "isinstance" = none
  g_len : mg "len" = none
  g_list : mg "list" = none
  g_range : mg "range" = none
  c_15 : mg "World" = some (.ref ((T.G K).cls 15))
  c_30 : mg "MeaningError" = some (.ref ((T.G K).cls 30))
  c_33 : mg "NoWorld" = some (.ref ((T.G K).cls 33))
  f_359 : mg "all_within" = some (.ref ((T.G K).fa 359))
  f_360 : mg "looked_at" = some (.ref ((T.G K).fa 360))
  f_361 : mg "listed_world" = some (.ref ((T.G K).fa 361))
  f_200 : mg "_law_cell_at" = some (.ref ((T.G K).fa 200))
  f_201 : mg "_law_whole" = some (.ref ((T.G K).fa 201))
  f_202 : mg "_law_mixed" = some (.ref ((T.G K).fa 202))
  f_203 : mg "_law_number" = some (.ref ((T.G K).fa 203))
  f_204 : mg "_law_endless" = some (.ref ((T.G K).fa 204))
  f_205 : mg "_law_lists" = some (.ref ((T.G K).fa 205))
  f_206 : mg "law" = some (.ref ((T.G K).fa 206))
theorem mg_of {K : PySem.W.Frag} {h : Heap} {mg : Str → Option Value} (X : K.In h) (G : h.Ns mainGlobals mg) (c : He.SaysD fa fnl K) : Mg K mg :=
  ⟨He.str_ok X G (c.fact 0 (f := .str "DEEDS" "PQRST") rfl),
   He.int_ok X G (c.fact 1 (f := .int "MOST_STATES" 3000) rfl),
   He.free_ok X G (c.fact 2 (f := .free "all") rfl),
   He.free_ok X G (c.fact 3 (f := .free "bool") rfl),
   He.free_ok X G (c.fact 4 (f := .free "int") rfl),
   He.free_ok X G (c.fact 5 (f := .free "isinstance") rfl),
   He.free_ok X G (c.fact 6 (f := .free "len") rfl),
   He.free_ok X G (c.fact 7 (f := .free "list") rfl),
   He.free_ok X G (c.fact 8 (f := .free "range") rfl),
   He.glo_ok X G (c.fact 9 (f := .glo "World") rfl),
   He.glo_ok X G (c.fact 10 (f := .glo "MeaningError") rfl),
   He.glo_ok X G (c.fact 11 (f := .glo "NoWorld") rfl),
   He.glo_ok X G (c.fact 12 (f := .glo "all_within") rfl),
   He.glo_ok X G (c.fact 13 (f := .glo "looked_at") rfl),
   He.glo_ok X G (c.fact 14 (f := .glo "listed_world") rfl),
   He.glo_ok X G (c.fact 15 (f := .glo "_law_cell_at") rfl),
   He.glo_ok X G (c.fact 16 (f := .glo "_law_whole") rfl),
   He.glo_ok X G (c.fact 17 (f := .glo "_law_mixed") rfl),
   He.glo_ok X G (c.fact 18 (f := .glo "_law_number") rfl),
   He.glo_ok X G (c.fact 19 (f := .glo "_law_endless") rfl),
   He.glo_ok X G (c.fact 20 (f := .glo "_law_lists") rfl),
   He.glo_ok X G (c.fact 21 (f := .glo "law") rfl)⟩
section
variable {prog : Program} {w : World} {K : PySem.W.Frag} {mg : Str → Option Value} {base : Heap}
variable (hTBs : ∀ p ∈ T.tn, LamX.TabB base mg (He.cT K p.1).1 (He.cT K p.1).2)
theorem w_480 (c : He.SaysD fa fnl K) (M : Mg K mg) (XO : XOk K (T.G K) T.P.sub xsT) : BodyCl prog w K mg base (T.G K) T.P I_480 2 2 b_480 := by
  have S : NdefX.NScope ["state", "told"] I_480.ps I_480.fr (C8.fnScope I_480.st) := NdefX.nscope_by (by decide +kernel)
  have nd := S.nd
  exact ⟨_, S, (fun cl c doc pm ctv us hl => match us, hl with | [_], _ => rfl), rfl, rfl, fun n cl c1 p1 A outer s H E own E0 =>
 (ss_cons (ss_ret (es_idx E0.hu (es_var 1) (es_var 0)))
 ss_nil)⟩
theorem w_481 (c : He.SaysD fa fnl K) (M : Mg K mg) (XO : XOk K (T.G K) T.P.sub xsT) : BodyCl prog w K mg base (T.G K) T.P I_481 3 3 b_481 := by
  have S : NdefX.NScope ["deed", "state", "moves"] I_481.ps I_481.fr (C8.fnScope I_481.st) := NdefX.nscope_by (by decide +kernel)
  have nd := S.nd
  exact ⟨_, S, (fun cl c doc pm ctv us hl => match us, hl with | [_, _], _ => rfl), rfl, rfl, fun n cl c1 p1 A outer s H E own E0 =>
 (ss_cons (ss_ret (es_idx E0.hu (es_idx E0.hu (es_var 2) (es_var 0)) (es_var 1)))
 ss_nil)⟩
theorem w_207 (c : He.SaysD fa fnl K) (M : Mg K mg) (XO : XOk K (T.G K) T.P.sub xsT) : BodyCl prog w K mg base (T.G K) T.P I_207 1 1 b_207 := by
  have S : NdefX.NScope ["_law_state"] I_207.ps I_207.fr (C8.fnScope I_207.st) := NdefX.nscope_by (by decide +kernel)
  have nd := S.nd
  exact ⟨_, S, (fun cl c doc pm ctv us hl => match us, hl with | [_], _ => rfl), rfl, rfl, fun n cl c1 p1 A outer s H E own E0 =>
 (ss_cons (ss_ret (es_mod (es_var 0) es_int))
 ss_nil)⟩
theorem w_208 (c : He.SaysD fa fnl K) (M : Mg K mg) (XO : XOk K (T.G K) T.P.sub xsT) : BodyCl prog w K mg base (T.G K) T.P I_208 4 5 b_208 := by
  have S : NdefX.NScope ["_law_deed", "_law_state", "_law_sums", "_law_products", "_law_k"] I_208.ps I_208.fr (C8.fnScope I_208.st) := NdefX.nscope_by (by decide +kernel)
  have nd := S.nd
  exact ⟨_, S, (fun cl c doc pm ctv us hl => match us, hl with | [_, _], _ => rfl), rfl, rfl, fun n cl c1 p1 A outer s H E own E0 =>
 (ss_cons (ss_set (i := 4) nd (es_bm (bm' := .find) (k := .s) PySem.F.plainAttrs_str PySem.F.slot_str_find PySem.F.type_str_find mt_find (by decide) bmk_find mo_find (es_str s_0) (ea_cons (es_var 0) ea_nil)))
 (ss_cons (ss_ret (es_add (es_mul (es_fdiv (es_var 1) es_int) (es_idx E0.hu (es_var 3) (es_var 4))) (es_idx E0.hu (es_var 2) (es_var 4))))
 ss_nil))⟩
theorem sc_357 : FnScope ["self", "state", "says"] ["self", "state"] (defScope (inClass (top 6) 1)) := ⟨rfl, rfl, rfl, by decide +kernel, rfl, by decide +kernel, by decide +kernel⟩
theorem w_357 (c : He.SaysD fa fnl K) (M : Mg K mg) (XO : XOk K (T.G K) T.P.sub xsT) : BodyFn prog w K mg base (T.G K) T.P 357 2 3 b_357 := by
  obtain ⟨fd, F⟩ := c.def_ 0 (d := d_357) rfl
  have nd := sc_357.nd
  exact ⟨_, _, _, _, _, fd, _, F, sc_357, (F.bindsN fun _ _ _ _ _ _ us hl => match us, hl with | [_, _], _ => rfl), rfl, rfl, fun n cdv A outer s H E E0 =>
 (ss_cons (ss_set (i := 2) nd (es_fld E0.st.GO (fn_10 (K := K)) (kf_10 K) E0.flds (es_var 0)))
 (ss_cons (ss_ret (es_cloO (i := 2) (E0.o rfl) (clf K) (ea_cons (es_var 1) ea_nil)))
 ss_nil))⟩
theorem sc_358 : FnScope ["self", "deed", "state", "leads"] ["self", "deed", "state"] (defScope (inClass (top 6) 2)) := ⟨rfl, rfl, rfl, by decide +kernel, rfl, by decide +kernel, by decide +kernel⟩
theorem w_358 (c : He.SaysD fa fnl K) (M : Mg K mg) (XO : XOk K (T.G K) T.P.sub xsT) : BodyFn prog w K mg base (T.G K) T.P 358 3 4 b_358 := by
  obtain ⟨fd, F⟩ := c.def_ 1 (d := d_358) rfl
  have nd := sc_358.nd
  exact ⟨_, _, _, _, _, fd, _, F, sc_358, (F.bindsN fun _ _ _ _ _ _ us hl => match us, hl with | [_, _, _], _ => rfl), rfl, rfl, fun n cdv A outer s H E E0 =>
 (ss_cons (ss_set (i := 3) nd (es_fld E0.st.GO (fn_11 (K := K)) (kf_11 K) E0.flds (es_var 0)))
 (ss_cons (ss_ret (es_cloO (i := 3) (E0.o rfl) (clf K) (ea_cons (es_var 1) (ea_cons (es_var 2) ea_nil))))
 ss_nil))⟩
theorem sc_359 : FnScope ["numbers", "bound", "number"] ["numbers", "bound"] (defScope (top 7)) := ⟨rfl, rfl, rfl, by decide +kernel, rfl, by decide +kernel, by decide +kernel⟩
theorem w_359 (c : He.SaysD fa fnl K) (M : Mg K mg) (XO : XOk K (T.G K) T.P.sub xsT) : BodyFn prog w K mg base (T.G K) T.P 359 2 3 b_359 := by
  obtain ⟨fd, F⟩ := c.def_ 2 (d := d_359) rfl
  have nd := sc_359.nd
  exact ⟨_, _, _, _, _, fd, _, F, sc_359, (F.bindsN fun _ _ _ _ _ _ us hl => match us, hl with | [_, _], _ => rfl), rfl, rfl, fun n cdv A outer s H E E0 =>
 (ss_cons (ss_ret (es_bi (cr_all E0.calm) bo_all rfl M.g_all boot_all' (ea_cons (es_lc (own := [("number", 2)]) E0.calm nd (ei_seq (es_var 0)) (blkOk_by (by rfl)) (fun _ _ _ _ _ => (gg_name (i := 2) nd)) (fun _ _ _ _ _ => tt_none) (fun _ _ _ _ _ => (es_chn op_le (op_lt.or op_lt_str) cm_le cm_lt es_int (es_var 2) (es_var 1))) (by decide)) ea_nil)))
 ss_nil)⟩
theorem sc_360 : FnScope ["settings", "leads", "deed"] ["settings", "leads"] (defScope (top 8)) := ⟨rfl, rfl, rfl, by decide +kernel, rfl, by decide +kernel, by decide +kernel⟩
theorem w_360 (c : He.SaysD fa fnl K) (M : Mg K mg) (XO : XOk K (T.G K) T.P.sub xsT) : BodyFn prog w K mg base (T.G K) T.P 360 2 3 b_360 := by
  obtain ⟨fd, F⟩ := c.def_ 3 (d := d_360) rfl
  have nd := sc_360.nd
  exact ⟨_, _, _, _, _, fd, _, F, sc_360, (F.bindsN fun _ _ _ _ _ _ us hl => match us, hl with | [_, _], _ => rfl), rfl, rfl, fun n cdv A outer s H E E0 =>
 (ss_cons (ss_if (PW.pt (ws_or (ts_cmp (op_eq.or ((op_eqD E0.room.units).or ((op_eqLn E0.room.units).or (op_eqDc E0.hu2)))) rfl cm_eq (es_var 0) (es_lst ea_nil)) (ws_or (ts_cmp op_gt rfl cm_gt (es_bi cr_len' bo_len rfl M.g_len boot_len' (ea_cons (es_var 0) ea_nil)) (es_gint rfl M.k_MOST_STATES)) (ws_or1 (ts_not (ts_val (es_call E0 (kfn_359 K) isf_359 rfl M.f_359 (ea_cons (es_var 0) (ea_cons es_int ea_nil)))))))))
 (ss_cons (ss_rse E0 XO (c := 33) (by decide) rfl M.c_33)
 ss_nil)
 ss_nil)
 (ss_cons (ss_if (PW.pt (ws_or (ts_cmp (op_ne.or ((op_neD E0.room.units).or ((op_neLn E0.room.units).or (op_neDc E0.hu2)))) rfl cm_ne (es_bi cr_len' bo_len rfl M.g_len boot_len' (ea_cons (es_var 1) ea_nil)) (es_bi cr_len' bo_len rfl M.g_len boot_len' (ea_cons (es_gstr rfl M.k_DEEDS s_0) ea_nil))) (ws_or1 (ts_not (ts_val (es_bi (cr_all E0.calm) bo_all rfl M.g_all boot_all' (ea_cons (es_lc (own := [("deed", 2)]) E0.calm nd (ei_seq (es_gstr rfl M.k_DEEDS s_0)) (blkOk_by (by rfl)) (fun _ _ _ _ _ => (gg_name (i := 2) nd)) (fun _ _ _ _ _ => tt_none) (fun _ _ _ _ _ => (es_cmp (or_in E0.blk.hu2) rfl cm_in (es_var 2) (es_var 1))) (by decide)) ea_nil)))))))
 (ss_cons (ss_rse E0 XO (c := 33) (by decide) rfl M.c_33)
 ss_nil)
 ss_nil)
 (ss_cons (ss_for E0.own E0.calm (ei_seq (es_gstr rfl M.k_DEEDS s_0)) (gg_name (i := 2) nd)
 (ss_cons (ss_if (PW.pt (ws_or (ts_cmp (op_ne.or ((op_neD E0.room.units).or ((op_neLn E0.room.units).or (op_neDc E0.hu2)))) rfl cm_ne (es_bi cr_len' bo_len rfl M.g_len boot_len' (ea_cons (es_idx E0.hu (es_var 1) (es_var 2)) ea_nil)) (es_bi cr_len' bo_len rfl M.g_len boot_len' (ea_cons (es_var 0) ea_nil))) (ws_or1 (ts_not (ts_val (es_call E0 (kfn_359 K) isf_359 rfl M.f_359 (ea_cons (es_idx E0.hu (es_var 1) (es_var 2)) (ea_cons (es_bi cr_len' bo_len rfl M.g_len boot_len' (ea_cons (es_var 0) ea_nil)) ea_nil))))))))
 (ss_cons (ss_rse E0 XO (c := 33) (by decide) rfl M.c_33)
 ss_nil)
 ss_nil)
 ss_nil))
 ss_nil)))⟩
theorem sc_361 : FnScope ["settings", "leads", "told", "moves", "deed", "says_listed", "leads_listed"] ["settings", "leads"] (defScope (top 9)) := ⟨rfl, rfl, rfl, by decide +kernel, rfl, by decide +kernel, by decide +kernel⟩
include hTBs in
theorem w_361 (c : He.SaysD fa fnl K) (M : Mg K mg) (XO : XOk K (T.G K) T.P.sub xsT) : BodyMk prog w K mg base (T.G K) T.P 361 2 7 b_361 := by
  obtain ⟨fd, F⟩ := c.def_ 4 (d := d_361) rfl
  have nd := sc_361.nd
  have hTB := hTBs (("listed_world", none), nmT) (by simp [T])
  refine ⟨_, _, _, _, _, fd, _, F, sc_361, (F.bindsN fun _ _ _ _ _ _ us hl => match us, hl with | [_, _], _ => rfl), rfl, rfl, fun n cdv A outer s H E E0 hcd => ?_⟩
  have hcode := code_of F hcd
  exact
 (sr_cons (ss_expr (es_call E0 (kfn_360 K) isf_360 rfl M.f_360 (ea_cons (es_var 0) (ea_cons (es_var 1) ea_nil))))
 (sr_cons (ss_set (i := 2) nd (es_bty (cr_list E0.calm) bo_list rfl M.g_list boot_list' (ea_cons (es_var 0) ea_nil)))
 (sr_cons (ss_set (i := 3) nd es_dct0K)
 (sr_cons (ss_for E0.own E0.calm (ei_seq (es_gstr rfl M.k_DEEDS s_0)) (gg_name (i := 4) nd)
 (ss_cons (ss_setI E0.hu (es_bty (cr_list E0.calm) bo_list rfl M.g_list boot_list' (ea_cons (es_idx E0.hu (es_var 1) (es_var 4)) ea_nil)) (es_var 3) (es_var 4))
 ss_nil))
 (sr_own0 [2] rfl rfl (by intro j hj; simp only [List.mem_cons, List.not_mem_nil, or_false] at hj; subst hj; exact ⟨_, rfl, rfl⟩) (fun own1 hc1 hj1 =>
 have o1 := E0.ow (by rfl) (slL [2]) hc1
 (sr_ndef (ss_ndef (I := I_480) (i := 5) (f := 480) (cs := [2]) (nm := nmT) (pos := p_480) o1 rfl st_480 q_480 hTB hcode (tab_mem (by simp [T])) n_480 (tab_one nm_one) rfl hj1 nb_480 fr_480 rfl rfl rfl nd rfl (by first | exact Or.inl rfl | exact Or.inr rfl) (.inl rfl) rfl) (sr_own1 [3] rfl (by intro j hj; simp only [List.mem_cons, List.not_mem_nil, or_false] at hj; subst hj; exact ⟨_, rfl, rfl⟩) hc1 (fun own2 hc2 hj2 =>
 have o2 := E0.ow (by rfl) (slL ([2] ++ [3])) hc2
 (sr_ndef (ss_ndef (I := I_481) (i := 6) (f := 481) (cs := [3]) (nm := nmT) (pos := p_481) o2 rfl st_481 q_481 hTB hcode (tab_mem (by simp [T])) n_481 (tab_one nm_one) rfl hj2 nb_481 fr_481 rfl rfl rfl nd rfl (by first | exact Or.inl rfl | exact Or.inr rfl) (.inl rfl) rfl) (sr_ret o2 (es_makeO o2 ne_15 (kpO_15 o2) rfl M.c_15 (ea_cons (es_var 5) (ea_cons (es_var 6) ea_nil)))))) (ndef_no (by decide))))) (ndef_no (by decide)))))))
theorem sc_200 : FnScope ["_law_script", "_law_k"] ["_law_script", "_law_k"] (defScope (top 11)) := ⟨rfl, rfl, rfl, by decide +kernel, rfl, by decide +kernel, by decide +kernel⟩
theorem w_200 (c : He.SaysD fa fnl K) (M : Mg K mg) (XO : XOk K (T.G K) T.P.sub xsT) : BodyFn prog w K mg base (T.G K) T.P 200 2 2 b_200 := by
  obtain ⟨fd, F⟩ := c.def_ 5 (d := d_200) rfl
  have nd := sc_200.nd
  exact ⟨_, _, _, _, _, fd, _, F, sc_200, (F.bindsN fun _ _ _ _ _ _ us hl => match us, hl with | [_, _], _ => rfl), rfl, rfl, fun n cdv A outer s H E E0 =>
 (ss_cons (ss_if (ts_cmp (op_lt.or op_lt_str) rfl cm_lt (es_var 1) (es_bi cr_len' bo_len rfl M.g_len boot_len' (ea_cons (es_var 0) ea_nil)))
 (ss_cons (ss_ret (es_idx E0.hu (es_var 0) (es_var 1)))
 ss_nil)
 ss_nil)
 (ss_cons (ss_ret es_int)
 ss_nil))⟩
theorem sc_201 : FnScope ["_law_found"] ["_law_found"] (defScope (top 12)) := ⟨rfl, rfl, rfl, by decide +kernel, rfl, by decide +kernel, by decide +kernel⟩
theorem w_201 (c : He.SaysD fa fnl K) (M : Mg K mg) (XO : XOk K (T.G K) T.P.sub xsT) : BodyFn prog w K mg base (T.G K) T.P 201 1 1 b_201 := by
  obtain ⟨fd, F⟩ := c.def_ 6 (d := d_201) rfl
  have nd := sc_201.nd
  exact ⟨_, _, _, _, _, fd, _, F, sc_201, (F.bindsN fun _ _ _ _ _ _ us hl => match us, hl with | [_], _ => rfl), rfl, rfl, fun n cdv A outer s H E E0 =>
 (ss_cons (ss_ret (es_and (es_isi E0.st.GO E0.sub rfl M.g_isinstance boot_isinstance' (es_var 0) (pe_bltn (by rfl) M.g_int boot_int' rfl) rfl) (es_one (es_not (es_isi E0.st.GO E0.sub rfl M.g_isinstance boot_isinstance' (es_var 0) (pe_bltn (by rfl) M.g_bool boot_bool' rfl) rfl)))))
 ss_nil)⟩
theorem sc_202 : FnScope ["_law_cell", "_law_k", "_law_number_here"] ["_law_cell", "_law_k"] (defScope (top 13)) := ⟨rfl, rfl, rfl, by decide +kernel, rfl, by decide +kernel, by decide +kernel⟩
theorem w_202 (c : He.SaysD fa fnl K) (M : Mg K mg) (XO : XOk K (T.G K) T.P.sub xsT) : BodyFn prog w K mg base (T.G K) T.P 202 2 3 b_202 := by
  obtain ⟨fd, F⟩ := c.def_ 7 (d := d_202) rfl
  have nd := sc_202.nd
  exact ⟨_, _, _, _, _, fd, _, F, sc_202, (F.bindsN fun _ _ _ _ _ _ us hl => match us, hl with | [_, _], _ => rfl), rfl, rfl, fun n cdv A outer s H E E0 =>
 (ss_cons (ss_set (i := 2) nd (es_mod (es_mul (es_add (es_add (es_mod (es_var 0) es_int) (es_mul es_int (es_var 1))) es_int) es_int) es_int))
 (ss_cons (ss_ret (es_mod (es_mul (es_var 2) (es_add (es_fdiv (es_var 2) es_int) es_int)) es_int))
 ss_nil))⟩
theorem sc_203 : FnScope ["_law_found", "_law_due"] ["_law_found", "_law_due"] (defScope (top 14)) := ⟨rfl, rfl, rfl, by decide +kernel, rfl, by decide +kernel, by decide +kernel⟩
theorem w_203 (c : He.SaysD fa fnl K) (M : Mg K mg) (XO : XOk K (T.G K) T.P.sub xsT) : BodyFn prog w K mg base (T.G K) T.P 203 2 2 b_203 := by
  obtain ⟨fd, F⟩ := c.def_ 8 (d := d_203) rfl
  have nd := sc_203.nd
  exact ⟨_, _, _, _, _, fd, _, F, sc_203, (F.bindsN fun _ _ _ _ _ _ us hl => match us, hl with | [_, _], _ => rfl), rfl, rfl, fun n cdv A outer s H E E0 =>
 (ss_cons (ss_ret (es_and (es_call E0 (kfn_201 K) isf_201 rfl M.f_201 (ea_cons (es_var 0) ea_nil)) (es_one (es_cmp (op_eq.or ((op_eqD E0.room.units).or ((op_eqLn E0.room.units).or (op_eqDc E0.hu2)))) rfl cm_eq (es_var 0) (es_var 1)))))
 ss_nil)⟩
theorem sc_204 : FnScope ["_law_script", "_law_products", "_law_sums", "_law_says", "_law_leads", "_law_world", "_law_cell", "_law_state", "_law_k", "_law_due"] ["_law_script"] (defScope (top 15)) := ⟨rfl, rfl, rfl, by decide +kernel, rfl, by decide +kernel, by decide +kernel⟩
include hTBs in
theorem w_204 (c : He.SaysD fa fnl K) (M : Mg K mg) (XO : XOk K (T.G K) T.P.sub xsT) : BodyMk prog w K mg base (T.G K) T.P 204 1 10 b_204 := by
  obtain ⟨fd, F⟩ := c.def_ 9 (d := d_204) rfl
  have nd := sc_204.nd
  have hTB := hTBs (("_law_endless", none), nmT) (by simp [T])
  refine ⟨_, _, _, _, _, fd, _, F, sc_204, (F.bindsN fun _ _ _ _ _ _ us hl => match us, hl with | [_], _ => rfl), rfl, rfl, fun n cdv A outer s H E E0 hcd => ?_⟩
  have hcode := code_of F hcd
  exact
 (sr_cons (ss_set (i := 1) nd (es_lc (own := [("_law_k", 8)]) E0.calm nd (ei_rng1 rfl M.g_range es_int) (blkOk_by (by rfl)) (fun _ _ _ _ _ => (gg_name (i := 8) nd)) (fun _ _ _ _ _ => tt_none) (fun _ _ _ _ _ => (es_add es_int (es_mul es_int (es_mod (es_fdiv (es_call E0.blk (kfn_200 K) isf_200 rfl M.f_200 (ea_cons (es_var 0) (ea_cons es_int ea_nil))) (es_add (es_var 8) es_int)) es_int)))) (by decide)))
 (sr_cons (ss_set (i := 2) nd (es_lc (own := [("_law_k", 8)]) E0.calm nd (ei_rng1 rfl M.g_range es_int) (blkOk_by (by rfl)) (fun _ _ _ _ _ => (gg_name (i := 8) nd)) (fun _ _ _ _ _ => tt_none) (fun _ _ _ _ _ => (es_sub (es_mod (es_fdiv (es_call E0.blk (kfn_200 K) isf_200 rfl M.f_200 (ea_cons (es_var 0) (ea_cons es_int ea_nil))) (es_add (es_var 8) es_int)) (es_pow es_int es_int)) (es_pow es_int es_int))) (by decide)))
 (sr_own0 [] rfl rfl (by intro j hj; cases hj) (fun own1 hc1 hj1 =>
 have o1 := E0.ow (by rfl) (slL []) hc1
 (sr_ndef (ss_ndef (I := I_207) (i := 3) (f := 207) (cs := []) (nm := nmT) (pos := p_207) o1 rfl st_207 q_207 hTB hcode (tab_mem (by simp [T])) n_207 (tab_one nm_one) rfl hj1 nb_207 fr_207 rfl rfl rfl nd rfl (by first | exact Or.inl rfl | exact Or.inr rfl) (.inl rfl) rfl) (sr_own1 [2, 1] rfl (by intro j hj; simp only [List.mem_cons, List.not_mem_nil, or_false] at hj; rcases hj with rfl | rfl <;> exact ⟨_, rfl, rfl⟩) hc1 (fun own2 hc2 hj2 =>
 have o2 := E0.ow (by rfl) (slL ([] ++ [2, 1])) hc2
 (sr_ndef (ss_ndef (I := I_208) (i := 4) (f := 208) (cs := [2, 1]) (nm := nmT) (pos := p_208) o2 rfl st_208 q_208 hTB hcode (tab_mem (by simp [T])) n_208 (tab_one nm_one) rfl hj2 nb_208 fr_208 rfl rfl rfl nd rfl (by first | exact Or.inl rfl | exact Or.inr rfl) (.inl rfl) rfl) (have oq := o2.w0
 sr_cal hc2 (pssq_cons (psq_of (ss_set (i := 5) nd (es_makeO oq ne_15 (kpO_15 oq) rfl M.c_15 (ea_cons (es_var 3) (ea_cons (es_var 4) ea_nil)))))
 (pssq_cons (psq_for oq.own oq.calm (ei_seq (es_pur (by rfl) (es_lc (own := [("_law_k", 8)]) E0.calm nd (ei_rng2 rfl M.g_range es_int es_int) (blkOk_by (by rfl)) (fun _ _ _ _ _ => (gg_name (i := 8) nd)) (fun _ _ _ _ _ => tt_none) (fun _ _ _ _ _ => (es_call E0.blk (kfn_200 K) isf_200 rfl M.f_200 (ea_cons (es_var 0) (ea_cons (es_var 8) ea_nil)))) (by decide)))) (gg_name (i := 6) nd)
 (pssq_cons (psq_of (ss_set (i := 7) nd (es_sub (es_mod (es_var 6) (es_mul es_int (es_pow es_int es_int))) (es_pow es_int es_int))))
 (pssq_cons (psq_if (ts_not (ts_val (es_callO oq (kfn_203 K) isf_203 rfl M.f_203 (ea_cons (es_methO oq (mn_7 (K := K)) (mnf_7 K) (es_var 5) (ea_cons (es_var 7) ea_nil)) (ea_cons (es_mod (es_var 7) es_int) ea_nil)))))
 (pssq_cons (psq_ret es_bl)
 pssq_nil)
 pssq_nil)
 (pssq_cons (psq_for oq.own oq.calm (ei_rng1 rfl M.g_range es_int) (gg_name (i := 8) nd)
 (pssq_cons (psq_of (ss_set (i := 9) nd (es_add (es_mul (es_fdiv (es_var 7) es_int) (es_idx oq.hu (es_var 1) (es_var 8))) (es_idx oq.hu (es_var 2) (es_var 8)))))
 (pssq_cons (psq_if (ts_not (ts_val (es_callO oq (kfn_203 K) isf_203 rfl M.f_203 (ea_cons (es_methO oq (mn_8 (K := K)) (mnf_8 K) (es_var 5) (ea_cons (es_idx oq.hu (es_str s_0) (es_var 8)) (ea_cons (es_var 7) ea_nil))) (ea_cons (es_var 9) ea_nil)))))
 (pssq_cons (psq_ret es_bl)
 pssq_nil)
 pssq_nil)
 pssq_nil)))
 pssq_nil))))
 (pssq_cons (psq_ret es_bl)
 pssq_nil)))))) (ndef_no (by decide))))) (ndef_no (by decide)))))
theorem sc_205 : FnScope ["_law_cell", "_law_many", "_law_settings", "_law_leads", "_law_j", "_law_k"] ["_law_cell", "_law_many"] (defScope (top 16)) := ⟨rfl, rfl, rfl, by decide +kernel, rfl, by decide +kernel, by decide +kernel⟩
theorem w_205 (c : He.SaysD fa fnl K) (M : Mg K mg) (XO : XOk K (T.G K) T.P.sub xsT) : BodyFn prog w K mg base (T.G K) T.P 205 2 6 b_205 := by
  obtain ⟨fd, F⟩ := c.def_ 10 (d := d_205) rfl
  have nd := sc_205.nd
  exact ⟨_, _, _, _, _, fd, _, F, sc_205, (F.bindsN fun _ _ _ _ _ _ us hl => match us, hl with | [_, _], _ => rfl), rfl, rfl, fun n cdv A outer s H E E0 =>
 (ss_cons (ss_setLc (own := [("_law_k", 5)]) (i := 2) E0.calm nd rfl rfl (sw_true rfl rfl rfl (by decide +kernel)) (ei_rng1 rfl M.g_range (es_var 1)) (blkOk_by (by rfl)) (fun _ _ _ _ _ => (gg_name (i := 5) nd)) (fun _ _ _ _ _ => tt_none) (fun _ _ _ _ _ => (es_mod (es_call E0.blk (kfn_202 K) isf_202 rfl M.f_202 (ea_cons (es_var 0) (ea_cons (es_var 5) ea_nil))) es_int)) (by decide))
 (ss_cons (ss_set (i := 3) nd es_dct0K)
 (ss_cons (ss_for E0.own E0.calm (ei_rng1 rfl M.g_range es_int) (gg_name (i := 4) nd)
 (ss_cons (ss_setI E0.hu (es_lc (own := [("_law_k", 5)]) E0.calm nd (ei_rng1 rfl M.g_range (es_var 1)) (blkOk_by (by rfl)) (fun _ _ _ _ _ => (gg_name (i := 5) nd)) (fun _ _ _ _ _ => tt_none) (fun _ _ _ _ _ => (es_mod (es_call E0.blk (kfn_202 K) isf_202 rfl M.f_202 (ea_cons (es_var 0) (ea_cons (es_add (es_add es_int (es_mul (es_var 4) (es_var 1))) (es_var 5)) ea_nil))) (es_var 1))) (by decide)) (es_var 3) (es_idx E0.hu (es_str s_0) (es_var 4)))
 ss_nil))
 (ss_cons (ss_ret (es_tup (ea_cons (es_var 2) (ea_cons (es_var 3) ea_nil))))
 ss_nil))))⟩
theorem sc_206 : FnScope ["_law_script", "_law_many", "_law_settings", "_law_leads", "_law_handed", "_law_moves", "_law_deed", "_law_world", "_law_other", "_law_led", "_law_state"] ["_law_script"] (defScope (top 17)) := ⟨rfl, rfl, rfl, by decide +kernel, rfl, by decide +kernel, by decide +kernel⟩
theorem w_206 (c : He.SaysD fa fnl K) (M : Mg K mg) (XO : XOk K (T.G K) T.P.sub xsT) : BodyFn prog w K mg base (T.G K) T.P 206 1 11 b_206 := by
  obtain ⟨fd, F⟩ := c.def_ 11 (d := d_206) rfl
  have nd := sc_206.nd
  exact ⟨_, _, _, _, _, fd, _, F, sc_206, (F.bindsN fun _ _ _ _ _ _ us hl => match us, hl with | [_], _ => rfl), rfl, rfl, fun n cdv A outer s H E E0 =>
 (ss_cons (ss_if (ts_not (ts_val (es_call E0 (kfn_204 K) isf_204 rfl M.f_204 (ea_cons (es_var 0) ea_nil))))
 (ss_cons (ss_ret es_bl)
 ss_nil)
 ss_nil)
 (ss_cons (ss_set (i := 1) nd (es_add es_int (es_mod (es_call E0 (kfn_200 K) isf_200 rfl M.f_200 (ea_cons (es_var 0) (ea_cons es_int ea_nil))) es_int)))
 (ss_cons (ss_unp (es_call E0 (kfn_205 K) isf_205 rfl M.f_205 (ea_cons (es_call E0 (kfn_200 K) isf_200 rfl M.f_200 (ea_cons (es_var 0) (ea_cons es_int ea_nil))) (ea_cons (es_var 1) ea_nil))) (gg_tup E0.calm (ggs_cons (gg_name (i := 2) nd) (ggs_cons (gg_name (i := 3) nd) ggs_nil))))
 (ss_cons (ss_set (i := 4) nd (es_bty (cr_list E0.calm) bo_list rfl M.g_list boot_list' (ea_cons (es_var 2) ea_nil)))
 (ss_cons (ss_set (i := 5) nd es_dct0K)
 (ss_cons (ss_for E0.own E0.calm (ei_seq (es_str s_1)) (gg_name (i := 6) nd)
 (ss_cons (ss_setI E0.hu (es_bty (cr_list E0.calm) bo_list rfl M.g_list boot_list' (ea_cons (es_idx E0.hu (es_var 3) (es_var 6)) ea_nil)) (es_var 5) (es_var 6))
 ss_nil))
 (ss_cons (ss_set (i := 7) nd (es_call E0 (kfn_361 K) isf_361 rfl M.f_361 (ea_cons (es_var 4) (ea_cons (es_var 5) ea_nil))))
 (ss_cons (ss_if (PW.pt (ws_or (ts_cmp (op_ne.or ((op_neD E0.room.units).or ((op_neLn E0.room.units).or (op_neDc E0.hu2)))) rfl cm_ne (es_var 4) (es_var 2)) (ws_or1 (ts_cmp (op_ne.or ((op_neD E0.room.units).or ((op_neLn E0.room.units).or (op_neDc E0.hu2)))) rfl cm_ne (es_var 5) (es_var 3)))))
 (ss_cons (ss_ret es_bl)
 ss_nil)
 ss_nil)
 (ss_cons (ss_for E0.own E0.calm (ei_seq (es_str s_0)) (gg_name (i := 6) nd)
 (ss_cons (ss_expr (es_bm0 (bm' := .clear) (k := .l) PySem.F.plainAttrs_list PySem.F.slot_list_clear PySem.F.type_list_clear (MtM_R mt_clear) (by decide) bmk_clear mo_clear (es_idx E0.hu (es_var 5) (es_var 6))))
 ss_nil))
 (ss_cons (ss_expr (es_dclear (es_var 5)))
 (ss_cons (ss_expr (es_bm (bm' := .append) (k := .l) PySem.F.plainAttrs_list PySem.F.slot_list_append PySem.F.type_list_append (MtM_R mt_append) (by decide) bmk_append mo_append (es_var 4) (ea_cons es_int ea_nil)))
 (ss_cons (ss_unp (es_call E0 (kfn_205 K) isf_205 rfl M.f_205 (ea_cons (es_call E0 (kfn_200 K) isf_200 rfl M.f_200 (ea_cons (es_var 0) (ea_cons es_int ea_nil))) (ea_cons (es_add (es_var 1) es_int) ea_nil))) (gg_tup E0.calm (ggs_cons (gg_name (i := 8) nd) (ggs_cons (gg_name (i := 9) nd) ggs_nil))))
 (ss_cons (ss_expr (es_call E0 (kfn_361 K) isf_361 rfl M.f_361 (ea_cons (es_var 8) (ea_cons (es_var 9) ea_nil))))
 (ss_cons (ss_for E0.own E0.calm (ei_rng1 rfl M.g_range (es_var 1)) (gg_name (i := 10) nd)
 (ss_cons (ss_if (ts_not (ts_val (es_call E0 (kfn_203 K) isf_203 rfl M.f_203 (ea_cons (es_meth E0 (mn_7 (K := K)) (mnf_7 K) (es_var 7) (ea_cons (es_var 10) ea_nil)) (ea_cons (es_idx E0.hu (es_var 2) (es_var 10)) ea_nil)))))
 (ss_cons (ss_ret es_bl)
 ss_nil)
 ss_nil)
 (ss_cons (ss_for E0.own E0.calm (ei_seq (es_str s_0)) (gg_name (i := 6) nd)
 (ss_cons (ss_if (ts_not (ts_val (es_call E0 (kfn_203 K) isf_203 rfl M.f_203 (ea_cons (es_meth E0 (mn_8 (K := K)) (mnf_8 K) (es_var 7) (ea_cons (es_var 6) (ea_cons (es_var 10) ea_nil))) (ea_cons (es_idx E0.hu (es_idx E0.hu (es_var 3) (es_var 6)) (es_var 10)) ea_nil)))))
 (ss_cons (ss_ret es_bl)
 ss_nil)
 ss_nil)
 ss_nil))
 ss_nil)))
 (ss_cons (ss_ret es_bl)
 ss_nil)))))))))))))))⟩
theorem sc_115 : FnScope ["self", "says", "leads"] ["self", "says", "leads"] (defScope (inClass (top 6) 0)) := ⟨rfl, rfl, rfl, by decide +kernel, rfl, by decide +kernel, by decide +kernel⟩
theorem w_115 (c : He.SaysD fa fnl K) (M : Mg K mg) (XO : XOk K (T.G K) T.P.sub xsT) : BodyIni prog w K mg base (T.G K) T.P 115 15 2 3 l_115 := by
  obtain ⟨fd, F⟩ := c.def_ 12 (d := d_115) rfl
  have nd := sc_115.nd
  exact ⟨_, _, _, _, _, fd, _, _, F, sc_115, (F.bindsN fun _ _ _ _ _ _ us hl => match us, hl with | [_, _, _], _ => rfl), rfl, rfl, rfl, fun n cdv A outer s H E E0 =>
 (sn_cons E0.st.GO rfl rfl fn_10 (pv 0) (es_var 1) (sn_cons E0.st.GO rfl rfl fn_11 (pv 0) (es_var 2) (sn_nil rfl rfl)))⟩
include hTBs in
theorem all_ok (c : He.SaysD fa fnl K) (M : Mg K mg) (XO : XOk K (T.G K) T.P.sub xsT) : ∀ p ∈ T.pr, BodyAny prog w K mg base T p.1 p.2 :=
  List.forall_mem_cons.mpr ⟨any_fn (w_357 c M XO), List.forall_mem_cons.mpr ⟨any_fn (w_358 c M XO), List.forall_mem_cons.mpr ⟨any_fn (w_359 c M XO), List.forall_mem_cons.mpr ⟨any_fn (w_360 c M XO), List.forall_mem_cons.mpr ⟨any_mk (w_361 hTBs c M XO), List.forall_mem_cons.mpr ⟨any_fn (w_200 c M XO), List.forall_mem_cons.mpr ⟨any_fn (w_201 c M XO), List.forall_mem_cons.mpr ⟨any_fn (w_202 c M XO), List.forall_mem_cons.mpr ⟨any_fn (w_203 c M XO), List.forall_mem_cons.mpr ⟨any_mk (w_204 hTBs c M XO), List.forall_mem_cons.mpr ⟨any_fn (w_205 c M XO), List.forall_mem_cons.mpr ⟨any_fn (w_206 c M XO), List.forall_mem_cons.mpr ⟨any_cl (w_480 c M XO), List.forall_mem_cons.mpr ⟨any_cl (w_481 c M XO), List.forall_mem_cons.mpr ⟨any_cl (w_207 c M XO), List.forall_mem_cons.mpr ⟨any_cl (w_208 c M XO), List.forall_mem_cons.mpr ⟨w_115 c M XO, List.forall_mem_nil _⟩⟩⟩⟩⟩⟩⟩⟩⟩⟩⟩⟩⟩⟩⟩⟩⟩
end
theorem law_fn {P : Program} {w : World} {K : PySem.W.Frag} {h : Heap} {mg : Str → Option Value} {f : Addr} (X : K.In h) (G : h.Ns mainGlobals mg) (hfa : mg ("law" : Str) = some (.ref f)) (c : He.SaysX fa fnl [] tf chkA w h K) :
    ∃ fd : FuncData, (∀ (s : Shared) (v : Value), BindsTo s fd ⟨[v], []⟩ [("_law_script", v)]) ∧ ∀ base : Heap, K.In base → base.Ns mainGlobals mg → (∀ p ∈ tf.map (He.cT K), LamX.TabB base mg p.1 p.2) → FnOk P w K mg base CX0 230 f fd ["_law_script"] (spL (T.G K) K T.P 230 206) := by
  have cd := c.t.d
  have M := mg_of X G cd
  have e := hfa.symm.trans M.f_206
  cases e
  obtain ⟨fd, F⟩ := cd.def_ 11 (d := d_206) rfl
  have b := FunD.bindsA (ps := ["_law_script"]) F fun _ _ _ _ _ _ us hl => match us, hl with | [_], _ => rfl
  refine ⟨fd, fun s v => b s [v] rfl, fun base _ _ hT => ?_⟩
  have hTBs : ∀ p ∈ T.tn, LamX.TabB base mg (He.cT K p.1).1 (He.cT K p.1).2 := fun p hp => hT _ (List.mem_map.mpr ⟨p.1, List.mem_map.mpr ⟨p, hp, rfl⟩, rfl⟩)
  exact calm_ok (fn_at F (kn_of (stc_of chk0 (He.ba c.more).1) rfl (all_ok hTBs cd M (xok_of (He.ba c.more).2)) 230) (kfn_206 K) isf_206)
end HP
open PySem PySem.W PySem.Calls PyProof.Rows
theorem PySem.Challenge.cw_anymeaning_k21_worlds_holds : PySem.Challenge.rw_anymeaning_k21_worlds.Holds := by
  w_on; o_law
  refine HandSHeadRun.head_any (r := OpenLaw.row PySem.Challenge.rw_anymeaning_k21_worlds) (q := view (OpenLaw.row PySem.Challenge.rw_anymeaning_k21_worlds).prog [17]) (H := HP.hk) (ob := HP.ob) (M := 12000) (loose := HP.names) (d := HandSHeadRun.topDef (OpenLaw.row PySem.Challenge.rw_anymeaning_k21_worlds).prog 17) (kwd := []) HP.ob_eq
    (by kernel_rfl) (fun s => by kernel_rfl) HP.run (by kernel_rfl) (by kernel_rfl) (by kernel_rfl) (by rfl) (by first | assumption | decide +kernel) (by decide +kernel) ⟨rfl, rfl, rfl, rfl, rfl, by decide +kernel⟩ ?hw ?hc
  case hw => w_witness2
  case hc =>
    refine LamX.walk_ofTsE (l := PySem.Challenge.rw_anymeaning_k21_worlds) (n := 63) (k := 230) (x := "_law_script") (CX := fun _ => L2.CX0) rfl (by decide) (by kernel_rfl) ⟨rfl, by decide, by decide⟩ ?F (fun _ _ _ _ _ z => z)
    intro w mg fa h Y G hmg0
    obtain ⟨K, KX, c⟩ := Y
    have hmg : mg ("law" : PySem.Str) = some (.ref fa) := by
      have e : (HandSHeadRun.topDef (OpenLaw.row PySem.Challenge.rw_anymeaning_k21_worlds).prog 17).name = ("law" : PySem.Str) := by kernel_rfl
      rw [← e]
      exact hmg0
    obtain ⟨fd, hb, hF⟩ := HP.law_fn (P := (PySem.Challenge.rw_anymeaning_k21_worlds).prog) (w := w) KX G hmg c
    exact ⟨K, KX, fd, HP.tf.map (He.cT K), FS.spL (HP.T.G K) K HP.T.P 230 206, (fun p hp => by obtain ⟨q, hq, rfl⟩ := List.mem_map.mp hp; exact c.empty q hq), (fun p hp => by obtain ⟨q, hq, rfl⟩ := List.mem_map.mp hp; exact c.out q hq), (fun p hp => by obtain ⟨q, hq, rfl⟩ := List.mem_map.mp hp; exact PySem.W.codeHd_of_K KX (c.hd q hq)), hb, (fun H a ns hl _ hT hS => FS.law_sp (FS.tabs_at hT) hS (HP.pure_law ns hl)), hF⟩
