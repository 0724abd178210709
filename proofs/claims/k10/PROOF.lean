import PyProof.Rows.All
import Wide.All
import OpenK.AllK
import Wide.FinOn
import HandS.ForMost
import HandS.Exc
import KE.SortData
import HandS.TupAny
import HandS.Deep
import HandS.Flow
import HandS.Wide
import HandS.TupMul
import HandS.IsInst
import HandS.Iter
import HandS.Zip
import HandS.Conv
import HandS.SortInts
import HandS.Defaults
import HandS.Star
import HandS.Style
import HandS.SetFor
import HandS.SortKw
import KE.DataMinMax
import KE.KTupSum
import KE.DataFind
import PyProof.SeqIndex
import PyProof.Rows.SortWalk
import KE.GoesEnum
import KE.GoesMore
import HandS.Strs
import PyProof.Rows.SetFrom
import HandS.NoneIn
import HandS.Comp
import HandS.Codes
import HandS.Head0
import HandS.Head1
import HandS.Head2
import HandS.HeadEnd
import HandS.HeadHook1
import HandS.HeadHook2
import PySem.Challenge.RW_saltlayers_k10_stretches_and_turned_lots
set_option Elab.async false
set_option linter.all false
set_option maxRecDepth 100000
set_option maxHeartbeats 7654321
/-! DI1: a small language of data, lists and calls (no positions, names are slots), and what it computes. -/
namespace DI

/-! ### values -/
inductive Val where
  | non | bl (b : Bool) | int (i : Int) | str (s : List Nat) | tup (xs : List Val) | lst (xs : List Val) | loc (n : Nat) | scr (ns : List Int)
deriving Inhabited

mutual
def Val.beq : Val → Val → Bool
  | .non, .non => true
  | .bl a, .bl b => a == b
  | .int a, .int b => a == b
  | .str a, .str b => a == b
  | .tup xs, .tup ys => Val.beqs xs ys
  | .lst xs, .lst ys => Val.beqs xs ys
  | .loc a, .loc b => a == b
  | .scr a, .scr b => a == b
  | _, _ => false
def Val.beqs : List Val → List Val → Bool
  | [], [] => true
  | x :: xs, y :: ys => Val.beq x y && Val.beqs xs ys
  | _, _ => false
end
mutual
theorem Val.beq_of : ∀ {x y : Val}, Val.beq x y = true → x = y
  | .non, y, h => by cases y <;> simp_all [Val.beq]
  | .bl a, y, h => by cases y <;> simp_all [Val.beq]
  | .int a, y, h => by cases y <;> simp_all [Val.beq]
  | .str a, y, h => by cases y <;> simp_all [Val.beq]
  | .loc a, y, h => by cases y <;> simp_all [Val.beq]
  | .scr a, y, h => by cases y <;> simp_all [Val.beq]
  | .tup xs, y, h => by
    cases y with
    | tup ys => rw [Val.beqs_of (xs := xs) (ys := ys) (by simpa [Val.beq] using h)]
    | _ => simp [Val.beq] at h
  | .lst xs, y, h => by
    cases y with
    | lst ys => rw [Val.beqs_of (xs := xs) (ys := ys) (by simpa [Val.beq] using h)]
    | _ => simp [Val.beq] at h
theorem Val.beqs_of : ∀ {xs ys : List Val}, Val.beqs xs ys = true → xs = ys
  | [], [], _ => rfl
  | [], _ :: _, h => by simp [Val.beqs] at h
  | _ :: _, [], h => by simp [Val.beqs] at h
  | x :: xs, y :: ys, h => by
    have h2 : Val.beq x y = true ∧ Val.beqs xs ys = true := by simpa [Val.beqs] using h
    rw [Val.beq_of h2.1, Val.beqs_of h2.2]
end
mutual
theorem Val.beq_self : ∀ x : Val, Val.beq x x = true
  | .non => by simp [Val.beq]
  | .bl a => by simp [Val.beq]
  | .int a => by simp [Val.beq]
  | .str a => by simp [Val.beq]
  | .loc a => by simp [Val.beq]
  | .scr a => by simp [Val.beq]
  | .tup xs => by simp [Val.beq, Val.beqs_self xs]
  | .lst xs => by simp [Val.beq, Val.beqs_self xs]
theorem Val.beqs_self : ∀ xs : List Val, Val.beqs xs xs = true
  | [] => by simp [Val.beqs]
  | x :: xs => by simp [Val.beqs, Val.beq_self x, Val.beqs_self xs]
end

mutual
/-- every place that a value names is below n -/
def Val.bel (n : Nat) : Val → Bool
  | .loc k => decide (k < n)
  | .tup xs => Val.bels n xs
  | .lst xs => Val.bels n xs
  | _ => true
def Val.bels (n : Nat) : List Val → Bool
  | [] => true
  | x :: xs => Val.bel n x && Val.bels n xs
end
mutual
/-- plain data: no places -/
def Val.pure : Val → Bool
  | .loc _ => false
  | .tup xs => Val.pures xs
  | .lst xs => Val.pures xs
  | _ => true
def Val.pures : List Val → Bool
  | [] => true
  | x :: xs => Val.pure x && Val.pures xs
end
mutual
theorem Val.bel_of_pure (n : Nat) : ∀ {x : Val}, x.pure = true → x.bel n = true
  | .non, _ => by simp [Val.bel]
  | .bl a, _ => by simp [Val.bel]
  | .int a, _ => by simp [Val.bel]
  | .str a, _ => by simp [Val.bel]
  | .loc a, h => by simp [Val.pure] at h
  | .scr a, _ => by simp [Val.bel]
  | .tup xs, h => by simpa [Val.bel] using Val.bels_of_pures n (xs := xs) (by simpa [Val.pure] using h)
  | .lst xs, h => by simpa [Val.bel] using Val.bels_of_pures n (xs := xs) (by simpa [Val.pure] using h)
theorem Val.bels_of_pures (n : Nat) : ∀ {xs : List Val}, Val.pures xs = true → Val.bels n xs = true
  | [], _ => by simp [Val.bels]
  | x :: xs, h => by
    have h2 : x.pure = true ∧ Val.pures xs = true := by simpa [Val.pures] using h
    simp [Val.bels, Val.bel_of_pure n h2.1, Val.bels_of_pures n h2.2]
end

/-! ### equality and order of data -/
mutual
def Val.eqv : Val → Val → Bool
  | .non, .non => true
  | .bl a, .bl b => a == b
  | .bl a, .int j => (if a then 1 else 0) == j
  | .int i, .bl b => i == (if b then 1 else 0)
  | .int i, .int j => i == j
  | .str x, .str y => x == y
  | .lst xs, .lst ys => Val.eqvs xs ys
  | .tup xs, .tup ys => Val.eqvs xs ys
  | _, _ => false
def Val.eqvs : List Val → List Val → Bool
  | [], [] => true
  | x :: xs, y :: ys => Val.eqv x y && Val.eqvs xs ys
  | _, _ => false
end
mutual
/-- how deep, by lists and tuples -/
def Val.dep : Val → Nat
  | .lst xs => Val.deps xs + 1
  | .tup xs => Val.deps xs + 1
  | _ => 0
def Val.deps : List Val → Nat
  | [] => 0
  | x :: xs => max (Val.dep x) (Val.deps xs)
end
mutual
/-- data whose texts have real signs -/
def Val.dat : Val → Bool
  | .loc _ => false
  | .scr _ => false
  | .str s => s.all (· < 0x110000)
  | .tup xs => Val.dats xs
  | .lst xs => Val.dats xs
  | _ => true
def Val.dats : List Val → Bool
  | [] => true
  | x :: xs => Val.dat x && Val.dats xs
end

def sv (s : List Nat) : PySem.Str := ⟨s.toArray⟩

mutual
def toD : Val → PySem.PyData
  | .non => .none
  | .bl b => .bool b
  | .int i => .int i
  | .str s => .str (sv s)
  | .tup xs => .tuple (toDs xs)
  | .lst xs => .list (toDs xs)
  | .loc _ => .none
  | .scr _ => .none
def toDs : List Val → List PySem.PyData
  | [] => []
  | x :: xs => toD x :: toDs xs
end
/-! ### order of data -/
def dlt (a b : Val) : Bool := PySem.W.dataLt (toD a) (toD b)
def insD (x : Val) : List Val → List Val
  | [] => [x]
  | y :: ys => if dlt y x then y :: insD x ys else x :: y :: ys
/-- in order, equal ones as they stand -/
def dsort : List Val → List Val
  | [] => []
  | x :: xs => insD x (dsort xs)
def pairOk (a b : Val) : Bool := PySem.W.alike (toD a) (toD b) && (PySem.W.alike (toD b) (toD a) && (Val.beq a b || (dlt a b || dlt b a)))
def pairsOk : List Val → Bool
  | [] => true
  | x :: xs => PySem.W.alike (toD x) (toD x) && (xs.all (pairOk x) && pairsOk xs)
def tup1B : Val → Bool
  | .tup (_ :: _) => true
  | _ => false
def otherB : Val → Bool
  | .tup _ => false
  | .non => false
  | .loc _ => false
  | .scr _ => false
  | _ => true
/-- data that sorted(..) puts in one order alone -/
def sortOk (xs : List Val) : Bool := Val.dats xs && (decide (Val.deps xs ≤ 60) && ((xs.all tup1B || xs.all otherB) && (pairsOk xs && decide (xs.length ≤ 16777216))))
/-! ### the store -/
inductive Ob where
  | dead | lst (xs : List Val) | frz (xs : List Val)
deriving Inhabited
abbrev Store := List Ob
abbrev Sl := List (Option Val)
structure Exn where
  cls : Nat
  fs : List (PySem.Str × Val)
inductive Out (α : Type) where
  | ok (a : α) (S : Store)
  | exn (x : Exn) (S : Store)
  | bad
def Out.bind {α β : Type} (o : Out α) (f : α → Store → Out β) : Out β := match o with
  | .ok a S => f a S
  | .exn x S => .exn x S
  | .bad => .bad
@[simp] theorem Out.bind_ok {α β : Type} (a : α) (S : Store) (f : α → Store → Out β) : (Out.ok a S).bind f = f a S := rfl
@[simp] theorem Out.bind_exn {α β : Type} (x : Exn) (S : Store) (f : α → Store → Out β) : (Out.exn x S).bind f = .exn x S := rfl
@[simp] theorem Out.bind_bad {α β : Type} (f : α → Store → Out β) : (Out.bad : Out α).bind f = .bad := rfl
theorem Out.bind_assoc {α β γ : Type} (o : Out α) (f : α → Store → Out β) (g : β → Store → Out γ) : (o.bind f).bind g = o.bind fun a S => (f a S).bind g := by
  cases o <;> rfl
/-- an exception that must not come -/
def Out.nox {α : Type} (o : Out α) : Out α := match o with
  | .ok a S => .ok a S
  | _ => .bad
@[simp] theorem Out.nox_ok {α : Type} (a : α) (S : Store) : (Out.ok a S).nox = .ok a S := rfl

def Ob.bel (n : Nat) : Ob → Bool
  | .dead => true
  | .lst xs => Val.bels n xs
  | .frz xs => Val.bels n xs
def Ob.beq : Ob → Ob → Bool
  | .dead, .dead => true
  | .lst xs, .lst ys => Val.beqs xs ys
  | .frz xs, .frz ys => Val.beqs xs ys
  | _, _ => false
theorem Ob.beq_of {x y : Ob} (h : Ob.beq x y = true) : x = y := by
  cases x <;> cases y <;> simp [Ob.beq] at h <;> first | rfl | (rw [Val.beqs_of h])
theorem Ob.beq_self (x : Ob) : Ob.beq x x = true := by
  cases x <;> simp [Ob.beq, Val.beqs_self]
/-- the elder objects as they were, or speaking of elder ones alone -/
def gcOk (n : Nat) : Store → Store → Bool
  | [], _ => true
  | _ :: _, [] => false
  | a :: r, b :: s => (Ob.beq a b || Ob.bel n b) && gcOk n r s
theorem gcOk_self (n : Nat) : ∀ S T : Store, gcOk n S (S ++ T) = true
  | [], _ => by simp [gcOk]
  | a :: r, T => by simp [gcOk, Ob.beq_self, gcOk_self n r T]
theorem gcOk_set (n : Nat) {o : Ob} (h : o.bel n = true) : ∀ (S T : Store) (i : Nat), gcOk n S (S.set i o ++ T) = true
  | [], _, _ => by simp [gcOk]
  | a :: r, T, 0 => by simp [gcOk, h, gcOk_self n r T]
  | a :: r, T, i + 1 => by simp [gcOk, Ob.beq_self, gcOk_set n h r T i]

/-! ### sequences -/
/-- the most items -/
abbrev mx : Nat := 16777216
/-- the items of what may be read as a sequence -/
def items (S : Store) : Val → Option (List Val)
  | .tup xs => some xs
  | .lst xs => some xs
  | .scr ns => some (ns.map Val.int)
  | .loc n => (match S[n]? with
    | some (.lst xs) => some xs
    | some (.frz xs) => some xs
    | _ => none)
  | _ => none
/-- the items of a list that is not locked -/
def lstOf (S : Store) : Val → Option (List Val)
  | .lst xs => some xs
  | .loc n => (match S[n]? with
    | some (.lst xs) => some xs
    | _ => none)
  | _ => none
/-- a list at a place as data -/
def top (S : Store) : Val → Val
  | .loc n => (match S[n]? with
    | some (.lst xs) => .lst xs
    | some (.frz xs) => .lst xs
    | _ => .loc n)
  | .scr ns => .lst (ns.map Val.int)
  | v => v
def truth (S : Store) : Val → Option Bool
  | .non => some false
  | .bl b => some b
  | .int i => some (i != 0)
  | .str s => if s.length ≤ mx then some (!s.isEmpty) else none
  | .tup xs => some (!xs.isEmpty)
  | .lst xs => some (!xs.isEmpty)
  | .scr ns => some (!ns.isEmpty)
  | .loc n => (match S[n]? with
    | some (.lst xs) => some (!xs.isEmpty)
    | some (.frz xs) => some (!xs.isEmpty)
    | _ => none)
def ixAt {α : Type} (xs : List α) (i : Int) : Option α :=
  if 0 ≤ i then (if i < xs.length then xs[i.toNat]? else none) else if -(xs.length : Int) ≤ i then xs[(i + xs.length).toNat]? else none
def cutIx (n d : Nat) : Option Int → Nat
  | none => d
  | some i => if i < 0 then (i + n).toNat else min i.toNat n
def cut {α : Type} (xs : List α) (lo hi : Option Int) : List α := (xs.drop (cutIx xs.length 0 lo)).take (cutIx xs.length xs.length hi - cutIx xs.length 0 lo)

/-! ### operators -/
inductive BOp | add | sub | mul | fdiv | mod | pow
deriving DecidableEq
inductive COp | lt | le | gt | ge | eq | ne | isn | notn | mem | nmem
deriving DecidableEq
def ok2 (v : Val) (S : Store) : Out Val := .ok v S
def mulOk (i j : Int) : Bool := decide (i.natAbs < 18446744073709551616) || (decide (j.natAbs < 18446744073709551616) || decide (i.natAbs.log2 + j.natAbs.log2 < 1000000))
/-- two lists one behind another -/
def catL (a b : Val) (S : Store) : Out Val := match lstOf S a with
  | some xs => (match lstOf S b with
    | some ys => if xs.length + ys.length ≤ mx then .ok (.lst (xs ++ ys)) S else .bad
    | none => .bad)
  | none => .bad
def repL (a : Val) (j : Int) (S : Store) : Out Val := match lstOf S a with
  | some xs => if -(2 ^ 63) ≤ j ∧ j < 2 ^ 63 ∧ xs.length * j.toNat ≤ mx then .ok (.lst (List.replicate j.toNat xs).flatten) S else .bad
  | none => .bad
def opAdd (a b : Val) (S : Store) : Out Val := match a with
  | .int i => (match b with
    | .int j => .ok (.int (i + j)) S
    | _ => .bad)
  | .str x => (match b with
    | .str y => if x.length + y.length ≤ mx then .ok (.str (x ++ y)) S else .bad
    | _ => .bad)
  | .tup xs => (match b with
    | .tup ys => if xs.length + ys.length ≤ mx then .ok (.tup (xs ++ ys)) S else .bad
    | _ => .bad)
  | a => catL a b S
def opSub (a b : Val) (S : Store) : Out Val := match a with
  | .int i => (match b with
    | .int j => .ok (.int (i - j)) S
    | _ => .bad)
  | _ => .bad
def opMul (a b : Val) (S : Store) : Out Val := match b with
  | .int j => (match a with
    | .int i => if mulOk i j = true then .ok (.int (i * j)) S else .bad
    | .tup xs => if xs.isEmpty = false ∧ 2 ≤ j ∧ j ≤ 1000 ∧ xs.length ≤ 1000 then .ok (.tup (List.replicate j.toNat xs).flatten) S else .bad
    | a => repL a j S)
  | _ => .bad
def opFdiv (a b : Val) (S : Store) : Out Val := match a with
  | .int i => (match b with
    | .int j => if 0 < j then (if j < 1073741824 ∨ j.natAbs.log2 < 9000 then .ok (.int (i / j)) S else .bad) else if j < 0 ∧ -1073741824 < j then .ok (.int (i.fdiv j)) S else .bad
    | _ => .bad)
  | _ => .bad
def opMod (a b : Val) (S : Store) : Out Val := match a with
  | .int i => (match b with
    | .int j => if 0 < j then .ok (.int (i % j)) S else if j < 0 then .ok (.int (i.fmod j)) S else .bad
    | _ => .bad)
  | _ => .bad
def opPow (a b : Val) (S : Store) : Out Val := match a with
  | .int i => (match b with
    | .int j => if 0 ≤ j ∧ j ≤ 1000000 ∧ i.natAbs < 18446744073709551616 then .ok (.int (i ^ j.toNat)) S else .bad
    | _ => .bad)
  | _ => .bad
def binop (o : BOp) (a b : Val) (S : Store) : Out Val := match o with
  | .add => opAdd a b S
  | .sub => opSub a b S
  | .mul => opMul a b S
  | .fdiv => opFdiv a b S
  | .mod => opMod a b S
  | .pow => opPow a b S
/-- == by Python's rules, of data -/
def eqOf (S : Store) (a b : Val) : Option Bool := match a with
  | .int i => (match b with
    | .int j => some (i == j)
    | b => if (top S b).dat = true then some (Val.eqv (.int i) (top S b)) else none)
  | a => if (top S a).dat && ((top S b).dat && (decide ((top S a).dep ≤ 64) && decide ((top S b).dep ≤ 64))) then some (Val.eqv (top S a) (top S b)) else none
/-- <, > of numbers and texts -/
def ltOf (a b : Val) : Option Bool := match a with
  | .int i => (match b with
    | .int j => some (decide (i < j))
    | _ => none)
  | .str x => (match b with
    | .str y => some (decide (x < y))
    | _ => none)
  | _ => none
def leOf (a b : Val) : Option Bool := match a with
  | .int i => (match b with
    | .int j => some (decide (i ≤ j))
    | _ => none)
  | _ => none
def geOf (a b : Val) : Option Bool := match a with
  | .int i => (match b with
    | .int j => some (decide (j ≤ i))
    | _ => none)
  | _ => none
def gtOf (a b : Val) : Option Bool := match a with
  | .int i => (match b with
    | .int j => some (decide (j < i))
    | _ => none)
  | _ => none
def isNon (S : Store) : Val → Option Bool
  | .non => some true
  | .loc n => (match S[n]? with
    | some (.lst _) => some false
    | some (.frz _) => some false
    | _ => none)
  | _ => some false
/-- a in b -/
def memOf (S : Store) (a b : Val) : Option Bool := match b with
  | .str z => (match a with
    | .str [c] => some (z.contains c)
    | _ => none)
  | b => (match items S b with
    | some xs => if Val.dats xs && ((top S a).dat && decide ((top S a).dep ≤ 64)) then some (xs.any fun y => Val.eqv y (top S a)) else none
    | none => none)
def ofB (o : Option Bool) (S : Store) : Out Val := match o with
  | some b => .ok (.bl b) S
  | none => .bad
def cmpop (o : COp) (a b : Val) (S : Store) : Out Val := match o with
  | .lt => ofB (ltOf a b) S
  | .le => ofB (leOf a b) S
  | .gt => ofB (gtOf a b) S
  | .ge => ofB (geOf a b) S
  | .eq => ofB (eqOf S a b) S
  | .ne => ofB ((eqOf S a b).map not) S
  | .isn => (match b with
    | .non => ofB (isNon S a) S
    | _ => .bad)
  | .notn => (match b with
    | .non => ofB ((isNon S a).map not) S
    | _ => .bad)
  | .mem => ofB (memOf S a b) S
  | .nmem => ofB ((memOf S a b).map not) S
def opNeg (a : Val) (S : Store) : Out Val := match a with
  | .int i => .ok (.int (-i)) S
  | _ => .bad
def opIdx (a b : Val) (S : Store) : Out Val := match b with
  | .int i => (match a with
    | .str s => (match ixAt s i with
      | some c => if s.length ≤ mx then .ok (.str [c]) S else .bad
      | none => .bad)
    | a => (match items S a with
      | some xs => (match ixAt xs i with
        | some v => .ok v S
        | none => .bad)
      | none => .bad))
  | _ => .bad
def opCut (a : Val) (lo hi : Option Int) (S : Store) : Out Val := match a with
  | .tup xs => .ok (.tup (cut xs lo hi)) S
  | .str _ => .bad
  | a => (match items S a with
    | some xs => .ok (.lst (cut xs lo hi)) S
    | none => .bad)

/-! ### built-ins and methods by values -/
inductive Ty | int | bool | str | list | tuple
deriving DecidableEq
inductive Bi | len | abs | int | tuple | sum | all | any | max2 | min2 | maxL | minL | isi (ts : List Ty)
inductive Mt | append | extend | pop | popi | count | index
deriving DecidableEq
def intsOf : List Val → Option (List Int)
  | [] => some []
  | .int i :: r => (intsOf r).map (i :: ·)
  | _ :: _ => none
def bsOf : List Val → Option (List Bool)
  | [] => some []
  | .bl b :: r => (bsOf r).map (b :: ·)
  | _ :: _ => none
inductive Kd | non | bool | int | str | list | tuple
def kd (S : Store) : Val → Option Kd
  | .non => some .non
  | .bl _ => some .bool
  | .int _ => some .int
  | .str _ => some .str
  | .tup _ => some .tuple
  | .lst _ => some .list
  | .scr _ => some .list
  | .loc n => (match S[n]? with
    | some (.lst _) => some .list
    | some (.frz _) => some .list
    | _ => none)
def kdB : Kd → Ty → Bool
  | .bool, .bool => true
  | .bool, .int => true
  | .int, .int => true
  | .str, .str => true
  | .list, .list => true
  | .tuple, .tuple => true
  | _, _ => false
def maxI : List Int → Int
  | [] => 0
  | [x] => x
  | x :: y :: r => max x (maxI (y :: r))
def minI : List Int → Int
  | [] => 0
  | [x] => x
  | x :: y :: r => min x (minI (y :: r))
/-- put into an ascending list -/
def ins1 (x : Int) : List Int → List Int
  | [] => [x]
  | y :: ys => if x ≤ y then x :: y :: ys else y :: ins1 x ys
/-- in order -/
def isort : List Int → List Int
  | [] => []
  | x :: xs => ins1 x (isort xs)
/-- sorted(..) -/
def srtL (xs : List Val) : Option (List Val) := match intsOf xs with
  | some ns => some ((isort ns).map .int)
  | none => if sortOk xs then some (dsort xs) else none
/-- put into an ascending list, once -/
def insU (x : Int) : List Int → List Int
  | [] => [x]
  | y :: ys => if x < y then x :: y :: ys else if x = y then y :: ys else y :: insU x ys
/-- in order, each once -/
def usort : List Int → List Int
  | [] => []
  | x :: xs => insU x (usort xs)
/-- the first place of a number -/
def idxI (k : Int) : List Int → Option Nat
  | [] => none
  | x :: xs => if x = k then some 0 else (idxI k xs).map (· + 1)
def biop (b : Bi) (vs : List Val) (S : Store) : Out Val := match b with
  | .len => (match vs with
    | [.str s] => if s.length ≤ mx then .ok (.int s.length) S else .bad
    | [v] => (match items S v with
      | some xs => .ok (.int xs.length) S
      | none => .bad)
    | _ => .bad)
  | .abs => (match vs with
    | [.int i] => .ok (.int (if i < 0 then -i else i)) S
    | _ => .bad)
  | .int => (match vs with
    | [.int i] => .ok (.int i) S
    | [.bl k] => .ok (.int (if k then 1 else 0)) S
    | _ => .bad)
  | .tuple => (match vs with
    | [v] => (match items S v with
      | some xs => .ok (.tup xs) S
      | none => .bad)
    | _ => .bad)
  | .sum => (match vs with
    | [v] => (match items S v with
      | some xs => (match intsOf xs with
        | some ns => .ok (.int ns.sum) S
        | none => .bad)
      | none => .bad)
    | _ => .bad)
  | .all => (match vs with
    | [v] => (match lstOf S v with
      | some xs => (match bsOf xs with
        | some bs => .ok (.bl (bs.all id)) S
        | none => .bad)
      | none => .bad)
    | _ => .bad)
  | .any => (match vs with
    | [v] => (match lstOf S v with
      | some xs => (match bsOf xs with
        | some bs => .ok (.bl (bs.any id)) S
        | none => .bad)
      | none => .bad)
    | _ => .bad)
  | .max2 => (match vs with
    | [.int i, .int j] => .ok (.int (if j > i then j else i)) S
    | _ => .bad)
  | .min2 => (match vs with
    | [.int i, .int j] => .ok (.int (if j < i then j else i)) S
    | _ => .bad)
  | .maxL => (match vs with
    | [v] => (match items S v with
      | some xs => (match intsOf xs with
        | some (n :: ns) => .ok (.int (maxI (n :: ns))) S
        | _ => .bad)
      | none => .bad)
    | _ => .bad)
  | .minL => (match vs with
    | [v] => (match items S v with
      | some xs => (match intsOf xs with
        | some (n :: ns) => .ok (.int (minI (n :: ns))) S
        | _ => .bad)
      | none => .bad)
    | _ => .bad)
  | .isi ts => (match vs with
    | [v] => (match kd S v with
      | some k => .ok (.bl (ts.any (kdB k))) S
      | none => .bad)
    | _ => .bad)
def mtop (m : Mt) (o : Val) (vs : List Val) (S : Store) : Out Val := match m with
  | .append => (match o with
    | .loc n => (match vs with
      | [v] => (match S[n]? with
        | some (.lst xs) => if xs.length < mx then .ok .non (S.set n (.lst (xs ++ [v]))) else .bad
        | _ => .bad)
      | _ => .bad)
    | _ => .bad)
  | .extend => (match o with
    | .loc n => (match vs with
      | [v] => (match S[n]? with
        | some (.lst xs) => (match lstOf S v with
          | some ys => if xs.length + ys.length ≤ mx then .ok .non (S.set n (.lst (xs ++ ys))) else .bad
          | none => .bad)
        | _ => .bad)
      | _ => .bad)
    | _ => .bad)
  | .pop => (match o with
    | .loc n => (match vs with
      | [] => (match S[n]? with
        | some (.lst xs) => (match xs[xs.length - 1]? with
          | some y => .ok y (S.set n (.lst xs.dropLast))
          | none => .bad)
        | _ => .bad)
      | _ => .bad)
    | _ => .bad)
  | .popi => (match o with
    | .loc n => (match vs with
      | [.int i] => (match S[n]? with
        | some (.lst xs) => if 0 ≤ i ∧ i < 4611686018427387904 then (match xs[i.toNat]? with
          | some y => .ok y (S.set n (.lst (xs.eraseIdx i.toNat)))
          | none => .bad) else .bad
        | _ => .bad)
      | _ => .bad)
    | _ => .bad)
  | .count => (match vs with
    | [v] => (match lstOf S o with
      | some xs => if Val.dats xs && (v.dat && (decide (Val.deps xs ≤ 60) && decide (v.dep ≤ 60))) then .ok (.int ((xs.countP fun y => Val.eqv y v : Nat) : Int)) S else .bad
      | none => .bad)
    | _ => .bad)
  | .index => (match vs with
    | [v] => (match lstOf S o with
      | some xs => if Val.dats xs && (v.dat && (decide (Val.deps xs ≤ 60) && (decide (v.dep ≤ 60) && decide (xs.length ≤ 16777216)))) then (match xs.findIdx? fun y => Val.eqv y v with
        | some j => .ok (.int (j : Nat)) S
        | none => .bad) else .bad
      | none => .bad)
    | _ => .bad)
/-! ### expressions -/
inductive Tg | n (i : Nat) | t (ts : List Tg)
mutual
inductive Ex
  | var (i : Nat) | int (i : Int) | bl (b : Bool) | non | str (s : List Nat) | glo (x : Nat)
  | bin (o : BOp) (a b : Ex) | cmp (o : COp) (a b : Ex) | chn (o p : COp) (a b c : Ex)
  | neg (a : Ex) | nt (a : Ex) | and (a b : Ex) | or (a b : Ex) | ite (c a b : Ex)
  | tup (es : Exs) | idx (a i : Ex) | slc (a : Ex) (lo hi : OEx)
  | cal (f : Nat) (es : Exs) | calk (f : Nat) (es : Exs) (ks : Kws)
  | bi (b : Bi) (es : Exs) | mth (m : Mt) (o : Ex) (es : Exs)
  | nl (m : Bool) (n : Nl) | frz (e : Ex) | tupR (it : It) | lens (e : Ex) | minD (e : Ex) | bk (e : Ex)
inductive Exs
  | nil | cons (e : Ex) (es : Exs) | star (e : Ex) (es : Exs)
inductive Kws
  | nil | cons (j : Nat) (e : Ex) (ks : Kws)
inductive OEx
  | no | yes (e : Ex)
/-- what makes a new list -/
inductive Nl
  | disp (es : Exs) | ofs (e : Ex) | cat (a b : Ex) | mul (a n : Ex) | rng (it : It) | srt (e : Ex) | sst (e : Ex) | rev (e : Ex) | srtr (e : Ex)
  | lc (own : List Nat) (t : Tg) (it : It) (c : OEx) (e : Ex)
  | lc2 (own : List Nat) (t : Tg) (it : It) (c : OEx) (own2 : List Nat) (t2 : Tg) (it2 : It) (c2 : OEx) (e : Ex)
/-- what a for walks -/
inductive It
  | ex (e : Ex) | r1 (a : Ex) | r2 (a b : Ex) | r3 (a b c : Ex) | en (e : Ex) | zp (a b : Ex)
end
abbrev Cf := Nat → List Val → Store → Out Val
inductive Cst | int (i : Int) | str (s : List Nat) | tup (xs : List Int)
mutual
def setT : Tg → Val → Sl → Store → Option Sl
  | .n i, v, r, _ => some (r.set i (some v))
  | .t ts, v, r, S => (match items S v with
    | some xs => setTs ts xs r S
    | none => none)
def setTs : List Tg → List Val → Sl → Store → Option Sl
  | [], [], r, _ => some r
  | t :: ts, x :: xs, r, S => (match setT t x r S with
    | some r1 => setTs ts xs r1 S
    | none => none)
  | _, _, _, _ => none
end
def wipeS (r : Sl) : List Nat → Sl
  | [] => r
  | v :: vs => (wipeS r vs).set v none
/-- the items that are left and kept, from the left -/
def compL (f : Val → Store → Out (Option Val)) : List Val → Store → Out (List Val)
  | [], S => .ok [] S
  | x :: xs, S => (f x S).bind fun o S1 => (compL f xs S1).bind fun ys S2 => .ok (match o with
    | some y => y :: ys
    | none => ys) S2
/-- .. of lists -/
def compLL (f : Val → Store → Out (List Val)) : List Val → Store → Out (List Val)
  | [], S => .ok [] S
  | x :: xs, S => (f x S).bind fun zs S1 => (compLL f xs S1).bind fun ys S2 => .ok (zs ++ ys) S2
def numsUp (a : Int) (n : Nat) (c : Int) : List Val := (List.range n).map fun (i : Nat) => Val.int (a + (i : Int) * c)
def rngIts (a b : Int) (S : Store) : Out (List Val) := if -(2 ^ 62) ≤ a ∧ a < 2 ^ 62 ∧ -(2 ^ 62) ≤ b ∧ b < 2 ^ 62 ∧ (b - a).toNat ≤ mx then .ok ((List.range (b - a).toNat).map fun (i : Nat) => Val.int (a + (i : Int))) S else .bad
/-- how many turns from a to b by c -/
def rngN (a b c : Int) : Nat := (PySem.Builtin.Range.rangeSize a b c).toNat
def rngIts3 (a b c : Int) (S : Store) : Out (List Val) := if c ≠ 0 ∧ c.natAbs < 1073741824 ∧ PySem.Builtin.Range.small a b c = true ∧ rngN a b c ≤ mx then .ok (numsUp a (rngN a b c) c) S else .bad
def enumIts (xs : List Val) : List Val := xs.mapIdx fun i x => Val.tup [.int (i : Nat), x]
def zipIts (xs ys : List Val) : List Val := (xs.zip ys).map fun p => Val.tup [p.1, p.2]
/-- the positional values, then those by name -/
def placed {α : Type} (n : Nat) (vs : List α) (ks : List (Nat × α)) : List α := (List.range n).filterMap fun i => if i < vs.length then vs[i]? else ks.lookup i
mutual
inductive Sm
  | set (t : Tg) (e : Ex) | par (ts : List Nat) (es : Exs) | setS (a i e : Ex) | aug (i : Nat) (o : BOp) (e : Ex) | augS (a i : Ex) (o : BOp) (e : Ex)
  | ex (e : Ex) | ret (e : Ex) | retN | ite (c : Ex) (a b : Sms) | whl (c : Ex) (b : Sms) | fr (t : Tg) (it : It) (b : Sms) | fz (i : Nat) | pass | brk | cnt
inductive Sms
  | nil | cons (s : Sm) (r : Sms)
end
structure Fn where
  ps : List PySem.Str
  ns : Nat
  body : Sms
/-- a program: its functions by number, their names, the constants, the names of those, the while loops' fuel -/
structure Pg where
  fns : Nat → Option Fn
  fnm : Nat → PySem.Str
  cst : Nat → Option Cst
  cnm : Nat → PySem.Str
  xnm : Nat → PySem.Str
  wf : Nat
def Cst.v : Cst → Val
  | .int i => .int i
  | .str s => .str s
  | .tup xs => .tup (xs.map Val.int)
/-- a value's truth -/
def tru (x : Val) (S : Store) : Out Bool := match truth S x with
  | some k => .ok k S
  | none => .bad
section
variable (P : Pg) (C : Cf)
mutual
def ev : Ex → Sl → Store → Out Val
  | .var i, r, S => (match r[i]? with
    | some (some v) => .ok v S
    | _ => .bad)
  | .int i, _, S => .ok (.int i) S
  | .bl b, _, S => .ok (.bl b) S
  | .non, _, S => .ok .non S
  | .str s, _, S => .ok (.str s) S
  | .glo x, _, S => (match P.cst x with
    | some c => .ok c.v S
    | none => .bad)
  | .bin o a b, r, S => (ev a r S).bind fun x S1 => (ev b r S1).bind fun y S2 => binop o x y S2
  | .cmp o a b, r, S => (ev a r S).bind fun x S1 => (ev b r S1).bind fun y S2 => cmpop o x y S2
  | .chn o p a b c, r, S => (ev a r S).bind fun x S1 => (ev b r S1).bind fun y S2 => (cmpop o x y S2).bind fun k S3 => (match k with
    | .bl true => (ev c r S3).bind fun z S4 => cmpop p y z S4
    | .bl false => .ok (.bl false) S3
    | _ => .bad)
  | .neg a, r, S => (ev a r S).bind opNeg
  | .nt a, r, S => ((ev a r S).bind tru).bind fun k S1 => .ok (.bl (!k)) S1
  | .and a b, r, S => (ev a r S).bind fun x S1 => (tru x S1).bind fun k S2 => if k = true then ev b r S2 else .ok x S2
  | .or a b, r, S => (ev a r S).bind fun x S1 => (tru x S1).bind fun k S2 => if k = true then .ok x S2 else ev b r S2
  | .ite c a b, r, S => ((ev c r S).bind tru).bind fun k S1 => if k = true then ev a r S1 else ev b r S1
  | .tup es, r, S => (evs es r S).bind fun xs S1 => if xs.length ≤ mx then .ok (.tup xs) S1 else .bad
  | .idx a i, r, S => (ev a r S).bind fun x S1 => (ev i r S1).bind fun y S2 => opIdx x y S2
  | .slc a lo hi, r, S => (ev a r S).bind fun x S1 => (evo lo r S1).bind fun l S2 => (evo hi r S2).bind fun h S3 => opCut x l h S3
  | .cal f es, r, S => (evs es r S).bind fun xs S1 => C f xs S1
  | .calk f es ks, r, S => (evs es r S).bind fun xs S1 => (evk ks r S1).bind fun zs S2 => (match P.fns f with
    | some d => C f (placed d.ps.length xs zs) S2
    | none => .bad)
  | .bi b es, r, S => (evs es r S).bind fun xs S1 => biop b xs S1
  | .mth m o es, r, S => (ev o r S).bind fun x S1 => (match lstOf S1 x with
    | some _ => (evs es r S1).bind fun xs S2 => mtop m x xs S2
    | none => .bad)
  | .nl m n, r, S => (evn n r S).bind fun xs S1 => if m then .ok (.loc S1.length) (S1 ++ [.lst xs]) else .ok (.lst xs) S1
  | .frz e, r, S => (ev e r S).bind fun x S1 => (match x with
    | .loc n => (match S1[n]? with
      | some (.lst xs) => .ok (.lst xs) (S1.set n .dead)
      | _ => .bad)
    | _ => .bad)
  | .tupR it, r, S => (evi it r S).bind fun xs S1 => .ok (.tup xs) S1
  | .minD e, r, S => (ev e r S).bind fun x S1 => (match items S1 x with
    | some xs => (match intsOf xs with
      | some [] => .ok .non S1
      | some (n :: ns) => .ok (.int (minI (n :: ns))) S1
      | none => .bad)
    | none => .bad)
  | .bk e, r, S => (ev e r S).bind fun x S1 => (match x with
    | .tup xs => .ok (.tup xs.reverse) S1
    | .lst xs => .ok (.lst xs.reverse) S1
    | _ => .bad)
  | .lens e, r, S => (ev e r S).bind fun x S1 => (match items S1 x with
    | some xs => (match intsOf xs with
      | some ns => if ns.length < 4000 then .ok (.int (usort ns).length) S1 else .bad
      | none => .bad)
    | none => .bad)
def evs : Exs → Sl → Store → Out (List Val)
  | .nil, _, S => .ok [] S
  | .cons e es, r, S => (ev e r S).bind fun x S1 => (evs es r S1).bind fun xs S2 => .ok (x :: xs) S2
  | .star e es, r, S => (ev e r S).bind fun x S1 => (match items S1 x with
    | some xs => (evs es r S1).bind fun ys S2 => .ok (xs ++ ys) S2
    | none => .bad)
def evk : Kws → Sl → Store → Out (List (Nat × Val))
  | .nil, _, S => .ok [] S
  | .cons j e ks, r, S => (ev e r S).bind fun x S1 => (evk ks r S1).bind fun xs S2 => .ok ((j, x) :: xs) S2
def evo : OEx → Sl → Store → Out (Option Int)
  | .no, _, S => .ok none S
  | .yes e, r, S => (ev e r S).bind fun x S1 => (match x with
    | .int i => .ok (some i) S1
    | _ => .bad)
def evn : Nl → Sl → Store → Out (List Val)
  | .disp es, r, S => (evs es r S).bind fun xs S1 => if xs.length ≤ mx then .ok xs S1 else .bad
  | .ofs e, r, S => (ev e r S).bind fun x S1 => (match items S1 x with
    | some xs => .ok xs S1
    | none => .bad)
  | .cat a b, r, S => (ev a r S).bind fun x S1 => (ev b r S1).bind fun y S2 => (match lstOf S2 x with
    | some xs => (match lstOf S2 y with
      | some ys => if xs.length + ys.length ≤ mx then .ok (xs ++ ys) S2 else .bad
      | none => .bad)
    | none => .bad)
  | .mul a n, r, S => (ev a r S).bind fun x S1 => (ev n r S1).bind fun y S2 => (match y with
    | .int j => (match lstOf S2 x with
      | some xs => if -(2 ^ 63) ≤ j ∧ j < 2 ^ 63 ∧ xs.length * j.toNat ≤ mx then .ok (List.replicate j.toNat xs).flatten S2 else .bad
      | none => .bad)
    | _ => .bad)
  | .rng it, r, S => evi it r S
  | .srt e, r, S => (ev e r S).bind fun x S1 => (match items S1 x with
    | some xs => (match srtL xs with
      | some ys => .ok ys S1
      | none => .bad)
    | none => .bad)
  | .sst e, r, S => (ev e r S).bind fun x S1 => (match items S1 x with
    | some xs => (match intsOf xs with
      | some ns => if (usort ns).length < 64 ∧ ns.length < 4000 then .ok ((usort ns).map Val.int) S1 else .bad
      | none => .bad)
    | none => .bad)
  | .srtr e, r, S => (ev e r S).bind fun x S1 => (match lstOf S1 x with
    | some xs => (match intsOf xs with
      | some ns => .ok ((isort ns).reverse.map Val.int) S1
      | none => .bad)
    | none => .bad)
  | .rev e, r, S => (ev e r S).bind fun x S1 => (match x with
    | .tup _ => .bad
    | x => (match items S1 x with
      | some xs => .ok xs.reverse S1
      | none => .bad))
  | .lc own t it c e, r, S => (evi it r S).bind fun xs S1 => ((compL (fun x S2 => (match setT t x (wipeS r own) S2 with
    | some r2 => (evc c r2 S2).bind fun k S3 => if k = true then (ev e r2 S3).bind fun y S4 => .ok (some y) S4 else .ok none S3
    | none => .bad)) xs S1).nox).bind fun ys S8 => if ys.length ≤ mx then .ok ys S8 else .bad
  | .lc2 own t it c own2 t2 it2 c2 e, r, S => (evi it r S).bind fun xs S1 => ((compLL (fun x S2 => (match setT t x (wipeS r own) S2 with
    | some r2 => (evc c r2 S2).bind fun k S3 => if k = true then (evi it2 r2 S3).bind fun ys S4 => compL (fun y S5 => (match setT t2 y (wipeS r2 own2) S5 with
      | some r3 => (evc c2 r3 S5).bind fun k2 S6 => if k2 = true then (ev e r3 S6).bind fun z S7 => .ok (some z) S7 else .ok none S6
      | none => .bad)) ys S4 else .ok [] S3
    | none => .bad)) xs S1).nox).bind fun ys S8 => if ys.length ≤ mx then .ok ys S8 else .bad
/-- a clause's test -/
def evc : OEx → Sl → Store → Out Bool
  | .no, _, S => .ok true S
  | .yes e, r, S => (ev e r S).bind tru
def evi : It → Sl → Store → Out (List Val)
  | .ex e, r, S => (ev e r S).bind fun x S1 => (match x with
    | .tup xs => .ok xs S1
    | .lst xs => .ok xs S1
    | _ => .bad)
  | .r1 a, r, S => (ev a r S).bind fun x S1 => (match x with
    | .int j => rngIts 0 j S1
    | _ => .bad)
  | .r2 a b, r, S => (ev a r S).bind fun x S1 => (ev b r S1).bind fun y S2 => (match x with
    | .int i => (match y with
      | .int j => rngIts i j S2
      | _ => .bad)
    | _ => .bad)
  | .r3 a b c, r, S => (ev a r S).bind fun x S1 => (ev b r S1).bind fun y S2 => (ev c r S2).bind fun z S3 => (match x with
    | .int i => (match y with
      | .int j => (match z with
        | .int k => rngIts3 i j k S3
        | _ => .bad)
      | _ => .bad)
    | _ => .bad)
  | .en e, r, S => (ev e r S).bind fun x S1 => (match x with
    | .lst xs => .ok (enumIts xs) S1
    | .tup xs => .ok (enumIts xs) S1
    | _ => .bad)
  | .zp a b, r, S => (ev a r S).bind fun x S1 => (ev b r S1).bind fun y S2 => (match x with
    | .tup xs => (match y with
      | .tup ys => .ok (zipIts xs ys) S2
      | _ => .bad)
    | .lst xs => (match y with
      | .lst ys => .ok (zipIts xs ys) S2
      | _ => .bad)
    | _ => .bad)
end
/-! ### statements -/
inductive Fl | nx | rt (v : Val) | bk | ct
def forL (body : Val → Sl → Store → Out (Fl × Sl)) : List Val → Sl → Store → Out (Fl × Sl)
  | [], r, S => .ok (.nx, r) S
  | x :: xs, r, S => (body x r S).bind fun p S1 => (match p with
    | (.nx, r1) => forL body xs r1 S1
    | (.ct, r1) => forL body xs r1 S1
    | (.bk, r1) => .ok (.nx, r1) S1
    | (.rt v, r1) => .ok (.rt v, r1) S1)
def whlL (c : Sl → Store → Out Bool) (body : Sl → Store → Out (Fl × Sl)) : Nat → Sl → Store → Out (Fl × Sl)
  | 0, _, _ => .bad
  | n + 1, r, S => (c r S).bind fun k S1 => if k = true then (body r S1).bind fun p S2 => (match p with
    | (.nx, r1) => whlL c body n r1 S2
    | (.ct, r1) => whlL c body n r1 S2
    | (.bk, r1) => .ok (.nx, r1) S2
    | (.rt v, r1) => .ok (.rt v, r1) S2) else .ok (.nx, r) S1
def setAll : List Nat → List Val → Sl → Option Sl
  | [], [], r => some r
  | i :: is, v :: vs, r => setAll is vs (r.set i (some v))
  | _, _, _ => none
def opSetS (a i v : Val) (S : Store) : Out Unit := match a with
  | .loc n => (match i with
    | .int k => (match S[n]? with
      | some (.lst xs) => (if 0 ≤ k then (if k < xs.length then .ok () (S.set n (.lst (xs.set k.toNat v))) else .bad)
          else if -(xs.length : Int) ≤ k then .ok () (S.set n (.lst (xs.set (k + xs.length).toNat v))) else .bad)
      | _ => .bad)
    | _ => .bad)
  | _ => .bad
mutual
def exe : Sm → Sl → Store → Out (Fl × Sl)
  | .set t e, r, S => (ev P C e r S).bind fun x S1 => (match setT t x r S1 with
    | some r1 => .ok (.nx, r1) S1
    | none => .bad)
  | .par ts es, r, S => (evs P C es r S).bind fun xs S1 => (match setAll ts xs r with
    | some r1 => .ok (.nx, r1) S1
    | none => .bad)
  | .setS a i e, r, S => (ev P C e r S).bind fun x S1 => (ev P C a r S1).bind fun o S2 => (ev P C i r S2).bind fun k S3 => (opSetS o k x S3).bind fun _ S4 => .ok (.nx, r) S4
  | .aug i o e, r, S => (match r[i]? with
    | some (some x) => (ev P C e r S).bind fun y S1 => (match x with
      | .int a => (match y with
        | .int b => (binop o (.int a) (.int b) S1).bind fun z S2 => .ok (.nx, r.set i (some z)) S2
        | _ => .bad)
      | _ => .bad)
    | _ => .bad)
  | .augS a i o e, r, S => (ev P C a r S).bind fun x S1 => (match x with
    | .loc n => (ev P C i r S1).bind fun k S2 => (opIdx (.loc n) k S2).bind fun old S3 => (ev P C e r S3).bind fun y S4 => (match old with
      | .int p => (match y with
        | .int q => (binop o (.int p) (.int q) S4).bind fun z S5 => (opSetS (.loc n) k z S5).bind fun _ S6 => .ok (.nx, r) S6
        | _ => .bad)
      | _ => .bad)
    | _ => .bad)
  | .ex e, r, S => (ev P C e r S).bind fun _ S1 => .ok (.nx, r) S1
  | .ret e, r, S => (ev P C e r S).bind fun x S1 => .ok (.rt x, r) S1
  | .retN, r, S => .ok (.rt .non, r) S
  | .ite c a b, r, S => ((ev P C c r S).bind tru).bind fun k S1 => if k = true then exes a r S1 else exes b r S1
  | .whl c b, r, S => whlL (fun r1 S1 => (ev P C c r1 S1).bind tru) (fun r1 S1 => exes b r1 S1) P.wf r S
  | .fr t it b, r, S => (evi P C it r S).bind fun xs S1 => forL (fun x r1 S2 => (match setT t x r1 S2 with
    | some r2 => exes b r2 S2
    | none => .bad)) xs r S1
  | .fz i, r, S => (match r[i]? with
    | some (some (.loc n)) => (match S[n]? with
      | some (.lst xs) => .ok (.nx, r.set i (some (.lst xs))) (S.set n .dead)
      | _ => .bad)
    | _ => .bad)
  | .pass, r, S => .ok (.nx, r) S
  | .brk, r, S => .ok (.bk, r) S
  | .cnt, r, S => .ok (.ct, r) S
def exes : Sms → Sl → Store → Out (Fl × Sl)
  | .nil, r, S => .ok (.nx, r) S
  | .cons s t, r, S => (exe s r S).bind fun p S1 => (match p with
    | (.nx, r1) => exes t r1 S1
    | (f, r1) => .ok (f, r1) S1)
end
end
/-! ### calls -/
/-- what a call leaves: the places made within are dropped where nothing speaks of them -/
def fin (S : Store) (v : Val) (S' : Store) : Out Val :=
  if v.bel S.length && gcOk S.length S S' then .ok v (S'.take S.length) else .ok v S'
def finX (S : Store) (x : Exn) (S' : Store) : Out Val :=
  if Val.bels S.length (x.fs.map (·.2)) && gcOk S.length S S' then .exn x (S'.take S.length) else .exn x S'
def retOf (S : Store) (o : Out (Fl × Sl)) : Out Val := match o with
  | .ok (.nx, _) S' => fin S .non S'
  | .ok (.rt v, _) S' => fin S v S'
  | .ok _ _ => .bad
  | .exn x S' => finX S x S'
  | .bad => .bad
def start0 (d : Fn) (vs : List Val) : Sl := vs.map some ++ List.replicate (d.ns - vs.length) none
def run (P : Pg) : Nat → Cf
  | 0 => fun _ _ _ => .bad
  | k + 1 => fun f vs S => match P.fns f with
    | some d => if vs.length = d.ps.length then retOf S (exes P (run P k) d.body (start0 d vs) S) else .bad
    | none => .bad
end DI
/-! DI1s: sorting by insertion (plain). -/
namespace DI
theorem ins1_perm (x : Int) : ∀ l : List Int, (ins1 x l).Perm (x :: l)
  | [] => .refl _
  | y :: ys => by
    unfold ins1
    split
    · exact .refl _
    · exact ((ins1_perm x ys).cons y).trans (.swap x y ys)
theorem ins1_sorted (x : Int) : ∀ {l : List Int}, l.Pairwise (· ≤ ·) → (ins1 x l).Pairwise (· ≤ ·)
  | [], _ => by simp [ins1]
  | y :: ys, h => by
    obtain ⟨h1, h2⟩ := List.pairwise_cons.mp h
    unfold ins1
    split
    · rename_i q
      refine List.pairwise_cons.mpr ⟨fun z hz => ?_, h⟩
      rcases List.mem_cons.mp hz with rfl | hz
      · exact q
      · exact Int.le_trans q (h1 z hz)
    · rename_i q
      refine List.pairwise_cons.mpr ⟨fun z hz => ?_, ins1_sorted x h2⟩
      rcases List.mem_cons.mp ((ins1_perm x ys).mem_iff.mp hz) with rfl | hz
      · omega
      · exact h1 z hz
theorem isort_perm : ∀ l : List Int, (isort l).Perm l
  | [] => .refl _
  | x :: xs => (ins1_perm x (isort xs)).trans ((isort_perm xs).cons x)
theorem isort_sorted : ∀ l : List Int, (isort l).Pairwise (· ≤ ·)
  | [] => .nil
  | x :: xs => ins1_sorted x (isort_sorted xs)
theorem insU_mem (x z : Int) : ∀ l : List Int, z ∈ insU x l ↔ z = x ∨ z ∈ l
  | [] => by simp [insU]
  | y :: ys => by
    unfold insU
    split
    · simp
    · split
      · rename_i q
        subst q
        simp
      · simp only [List.mem_cons, insU_mem x z ys]
        constructor
        · rintro (h | h | h) <;> simp_all
        · rintro (h | h | h) <;> simp_all
theorem insU_sorted (x : Int) : ∀ {l : List Int}, l.Pairwise (· < ·) → (insU x l).Pairwise (· < ·)
  | [], _ => by simp [insU]
  | y :: ys, h => by
    obtain ⟨h1, h2⟩ := List.pairwise_cons.mp h
    unfold insU
    split
    · rename_i q
      refine List.pairwise_cons.mpr ⟨fun z hz => ?_, h⟩
      rcases List.mem_cons.mp hz with rfl | hz
      · exact q
      · exact Int.lt_trans q (h1 z hz)
    · split
      · exact h
      · refine List.pairwise_cons.mpr ⟨fun z hz => ?_, insU_sorted x h2⟩
        rcases (insU_mem x z ys).mp hz with rfl | hz
        · omega
        · exact h1 z hz
theorem usort_mem (z : Int) : ∀ l : List Int, z ∈ usort l ↔ z ∈ l
  | [] => by simp [usort]
  | x :: xs => by rw [usort, insU_mem, usort_mem z xs, List.mem_cons]
theorem usort_sorted : ∀ l : List Int, (usort l).Pairwise (· < ·)
  | [] => .nil
  | x :: xs => insU_sorted x (usort_sorted xs)
theorem idxI_some {k : Int} : ∀ {l : List Int} {j : Nat}, idxI k l = some j → l[j]? = some k ∧ ∀ m, m < j → l[m]? ≠ some k
  | [], j, h => by simp [idxI] at h
  | x :: xs, j, h => by
    unfold idxI at h
    split at h
    · rename_i q
      cases h
      subst q
      exact ⟨rfl, fun m hm => by omega⟩
    · rename_i q
      cases e : idxI k xs with
      | none => rw [e] at h; simp at h
      | some i =>
        rw [e] at h
        have : i + 1 = j := by simpa using h
        subst this
        obtain ⟨h1, h2⟩ := idxI_some e
        refine ⟨by simpa using h1, fun m hm => ?_⟩
        cases m with
        | zero => simpa using q
        | succ m => simpa using h2 m (by omega)
/-- strictly ascending lists with the same members are the same -/
theorem lt_ext : ∀ {l m : List Int}, l.Pairwise (· < ·) → m.Pairwise (· < ·) → (∀ z, z ∈ l ↔ z ∈ m) → l = m
  | [], m, _, _, h => by
    cases m with
    | nil => rfl
    | cons y m => simpa using (h y).mpr (by simp)
  | x :: l, [], _, _, h => by simpa using (h x).mp (by simp)
  | x :: l, y :: m, hl, hm, h => by
    obtain ⟨a1, a2⟩ := List.pairwise_cons.mp hl
    obtain ⟨b1, b2⟩ := List.pairwise_cons.mp hm
    have e : x = y := by
      have h1 := List.mem_cons.mp ((h x).mp (by simp))
      have h2 := List.mem_cons.mp ((h y).mpr (by simp))
      rcases h1 with h1 | h1
      · exact h1
      · rcases h2 with h2 | h2
        · exact h2.symm
        · have := b1 x h1
          have := a1 y h2
          omega
    subst e
    congr 1
    refine lt_ext a2 b2 fun z => ?_
    constructor
    · intro hz
      have := a1 z hz
      rcases List.mem_cons.mp ((h z).mp (by simp [hz])) with q | q
      · omega
      · exact q
    · intro hz
      have := b1 z hz
      rcases List.mem_cons.mp ((h z).mpr (by simp [hz])) with q | q
      · omega
      · exact q
end DI
/-! DI2: how the language's values stand in the hand layer's heap, and what is kept. -/
namespace DI
open PySem PySem.Spec PyProof.Rows L2

/-- a tuple of the module's own top -/
def KT (K : PySem.W.Frag) (a : Addr) (us : List V) : Prop := ∃ (o : Obj) (its : Array Value) (n : Nat), K.lookup a = some o ∧ o.cls = .type "tuple" ∧ o.data = .seq its n ∧ its.size ≤ sizeLine ∧ Vals us its.toList
def TupAt (K : PySem.W.Frag) (H : Hp) (a : Addr) (us : List V) : Prop := H a = some (.tup us) ∨ KT K a us
theorem TupAt.sq {K : PySem.W.Frag} {H : Hp} {a : Addr} {us : List V} (h : TupAt K H a us) : SqT K H a us := by
  rcases h with h | h
  · exact .inl (.inl h)
  · exact .inr h
/-- a list that came from without: nothing here changes it -/
def SqF (K : PySem.W.Frag) (H : Hp) (a : Addr) (us : List V) : Prop := (∃ o, H a = some (.frz o (.lst us))) ∨ ∃ (o : Obj) (its : Array Value) (n : Nat), K.lookup a = some o ∧ o.cls = .type "list" ∧ o.dict = none ∧ o.data = .seq its n ∧ its.size ≤ sizeLine ∧ Vals us its.toList
theorem SqF.sq {K : PySem.W.Frag} {H : Hp} {a : Addr} {us : List V} (h : SqF K H a us) : SqL K H a us := by
  rcases h with ⟨o, h⟩ | h
  · exact .inl (.inr ⟨o, h⟩)
  · exact .inr h

abbrev Fs := List (Option Addr)
/-- places that may change -/
def mu (Z : Addr → Prop) (F : Fs) (a : Addr) : Prop := some a ∈ F ∨ Z a

section
variable (K : PySem.W.Frag) (Z : Addr → Prop)
mutual
def R (F : Fs) (H : Hp) : Val → V → Prop
  | .non, v => v = .non
  | .bl b, v => v = .bl b
  | .int i, v => v = .int i
  | .str s, v => v = .str (sv s)
  | .tup xs, v => ∃ a us, v = .ref a ∧ TupAt K H a us ∧ RL F H xs us
  | .lst xs, v => ∃ a us, v = .ref a ∧ H a = some (.lst us) ∧ ¬ mu Z F a ∧ RL F H xs us
  | .loc n, v => ∃ o, F[n]? = some o ∧ ∀ a, o = some a → v = .ref a
  | .scr ns, v => ∃ a, v = .ref a ∧ SqF K H a (ns.map V.int)
def RL (F : Fs) (H : Hp) : List Val → List V → Prop
  | [], vs => vs = []
  | x :: xs, vs => ∃ v r, vs = v :: r ∧ R F H x v ∧ RL F H xs r
end
/-- what stands for plain data is kept -/
structure Kp (F : Fs) (H : Hp) (F' : Fs) (H' : Hp) : Prop where
  len : F.length ≤ F'.length
  old : ∀ (n : Nat) (o : Option Addr), F[n]? = some o → F'[n]? = some o ∨ F'[n]? = some none
  lst : ∀ a us, H a = some (.lst us) → ¬ mu Z F a → H' a = some (.lst us) ∧ ¬ mu Z F' a
  tup : ∀ a us, H a = some (.tup us) → H' a = some (.tup us)
  frz : ∀ a o us, H a = some (.frz o (.lst us)) → H' a = some (.frz o (.lst us))
/-- .. and the hidden places too -/
structure Keep (F : Fs) (H : Hp) (F' : Fs) (H' : Hp) : Prop extends Kp Z F H F' H' where
  hid : ∀ a, Z a → H' a = H a
  dom : ∀ a, H a ≠ none → H' a ≠ none
/-- an object of the store at its place -/
def At (F : Fs) (H : Hp) : Option Addr → Ob → Prop
  | none, .dead => True
  | some a, .lst xs => ∃ us, H a = some (.lst us) ∧ RL K Z F H xs us
  | some a, .frz xs => ∃ o us, H a = some (.frz o (.lst us)) ∧ RL K Z F H xs us
  | _, _ => False
structure StOk (F : Fs) (S : Store) (H : Hp) : Prop where
  len : F.length = S.length
  at_ : ∀ (n : Nat) (ob : Ob), S[n]? = some ob → ∃ fo, F[n]? = some fo ∧ At K Z F H fo ob
  inj : ∀ (n m : Nat) (a : Addr), F[n]? = some (some a) → F[m]? = some (some a) → n = m
  zin : ∀ a, Z a → H a ≠ none
  zl : ∀ a, Z a → some a ∉ F
def EnvOk (F : Fs) (H : Hp) (r : Sl) (σ : L2.St) : Prop := r.length = σ.length ∧ ∀ (i : Nat) (x : Val), r[i]? = some (some x) → ∃ v, σ[i]? = some (some v) ∧ R K Z F H x v
end

section
variable {K : PySem.W.Frag} {Z : Addr → Prop} {F F' F1 : Fs} {H H' H1 : Hp} {S S' : Store}
theorem Keep.refl : Keep Z F H F H := ⟨⟨Nat.le_refl _, fun _ _ h => .inl h, fun _ _ h m => ⟨h, m⟩, fun _ _ h => h, fun _ _ _ h => h⟩, fun _ _ => rfl, fun _ h => h⟩
theorem Keep.trans (a : Keep Z F H F1 H1) (b : Keep Z F1 H1 F' H') : Keep Z F H F' H' where
  len := Nat.le_trans a.len b.len
  old := fun n o h => by
    rcases a.old n o h with h | h
    · exact b.old n o h
    · rcases b.old n _ h with h | h
      · exact .inr h
      · exact .inr h
  lst := fun x us h m => b.lst x us (a.lst x us h m).1 (a.lst x us h m).2
  tup := fun x us h => b.tup x us (a.tup x us h)
  frz := fun x o us h => b.frz x o us (a.frz x o us h)
  hid := fun x z => (b.hid x z).trans (a.hid x z)
  dom := fun x h => b.dom x (a.dom x h)
theorem SqF.keep (k : Kp Z F H F' H') {a : Addr} {us : List V} (h : SqF K H a us) : SqF K H' a us := by
  rcases h with ⟨o, h⟩ | h
  · exact .inl ⟨o, k.frz _ _ _ h⟩
  · exact .inr h
theorem TupAt.keep (k : Kp Z F H F' H') {a : Addr} {us : List V} (h : TupAt K H a us) : TupAt K H' a us := by
  rcases h with h | h
  · exact .inl (k.tup _ _ h)
  · exact .inr h
mutual
theorem R.keep (k : Kp Z F H F' H') : ∀ {x : Val} {v : V}, R K Z F H x v → R K Z F' H' x v
  | .non, _, h => by simpa [R] using h
  | .bl _, _, h => by simpa [R] using h
  | .int _, _, h => by simpa [R] using h
  | .str _, _, h => by simpa [R] using h
  | .tup xs, _, h => by
    simp only [R] at h ⊢
    obtain ⟨a, us, e, t, l⟩ := h
    exact ⟨a, us, e, t.keep k, RL.keep k l⟩
  | .lst xs, _, h => by
    simp only [R] at h ⊢
    obtain ⟨a, us, e, t, m, l⟩ := h
    exact ⟨a, us, e, (k.lst a us t m).1, (k.lst a us t m).2, RL.keep k l⟩
  | .loc n, _, h => by
    simp only [R] at h ⊢
    obtain ⟨o, e, q⟩ := h
    rcases k.old n o e with e | e
    · exact ⟨o, e, q⟩
    · exact ⟨none, e, fun a z => by cases z⟩
  | .scr ns, _, h => by
    simp only [R] at h ⊢
    obtain ⟨a, e, t⟩ := h
    exact ⟨a, e, t.keep k⟩
theorem RL.keep (k : Kp Z F H F' H') : ∀ {xs : List Val} {vs : List V}, RL K Z F H xs vs → RL K Z F' H' xs vs
  | [], _, h => by simpa [RL] using h
  | x :: xs, _, h => by
    simp only [RL] at h ⊢
    obtain ⟨v, r, e, h1, h2⟩ := h
    exact ⟨v, r, e, R.keep k h1, RL.keep k h2⟩
end
mutual
/-- fewer places that may change -/
theorem R.weak {Z' : Addr → Prop} (hz : ∀ a, Z' a → Z a) : ∀ {x : Val} {v : V}, R K Z F H x v → R K Z' F H x v
  | .non, _, h => by simpa [R] using h
  | .bl _, _, h => by simpa [R] using h
  | .int _, _, h => by simpa [R] using h
  | .str _, _, h => by simpa [R] using h
  | .loc _, _, h => by simpa [R] using h
  | .scr _, _, h => by simpa [R] using h
  | .tup xs, _, h => by
    simp only [R] at h ⊢
    obtain ⟨a, us, e, t, l⟩ := h
    exact ⟨a, us, e, t, RL.weak hz l⟩
  | .lst xs, _, h => by
    simp only [R] at h ⊢
    obtain ⟨a, us, e, t, m, l⟩ := h
    exact ⟨a, us, e, t, fun q => m (q.elim .inl fun z => .inr (hz a z)), RL.weak hz l⟩
theorem RL.weak {Z' : Addr → Prop} (hz : ∀ a, Z' a → Z a) : ∀ {xs : List Val} {vs : List V}, RL K Z F H xs vs → RL K Z' F H xs vs
  | [], _, h => by simpa [RL] using h
  | x :: xs, _, h => by
    simp only [RL] at h ⊢
    obtain ⟨v, r, e, h1, h2⟩ := h
    exact ⟨v, r, e, R.weak hz h1, RL.weak hz h2⟩
end
/-! ### lists of values -/
theorem RL.nil : RL K Z F H [] [] := by simp [RL]
theorem RL.cons {x : Val} {xs : List Val} {v : V} {vs : List V} (h : R K Z F H x v) (t : RL K Z F H xs vs) : RL K Z F H (x :: xs) (v :: vs) := by
  simp only [RL]
  exact ⟨v, vs, rfl, h, t⟩
theorem RL.nil_inv {vs : List V} (h : RL K Z F H [] vs) : vs = [] := by simpa [RL] using h
theorem RL.cons_inv {x : Val} {xs : List Val} {vs : List V} (h : RL K Z F H (x :: xs) vs) : ∃ v r, vs = v :: r ∧ R K Z F H x v ∧ RL K Z F H xs r := by simpa [RL] using h
theorem RL.length : ∀ {xs : List Val} {vs : List V}, RL K Z F H xs vs → xs.length = vs.length
  | [], _, h => by rw [h.nil_inv] <;> rfl
  | x :: xs, _, h => by
    obtain ⟨v, r, e, _, t⟩ := h.cons_inv
    rw [e, List.length_cons, List.length_cons, RL.length t]
theorem RL.get : ∀ {xs : List Val} {vs : List V} {i : Nat} {x : Val}, RL K Z F H xs vs → xs[i]? = some x → ∃ v, vs[i]? = some v ∧ R K Z F H x v
  | [], _, _, _, _, e => by simp at e
  | y :: xs, _, 0, x, h, e => by
    obtain ⟨v, r, e1, h1, _⟩ := h.cons_inv
    have e2 : y = x := by simpa using e
    subst e1; subst e2
    exact ⟨v, by simp, h1⟩
  | y :: xs, _, i + 1, x, h, e => by
    obtain ⟨v, r, e1, _, t⟩ := h.cons_inv
    subst e1
    obtain ⟨w, e3, h3⟩ := RL.get t (i := i) (x := x) (by simpa using e)
    exact ⟨w, by simpa using e3, h3⟩
theorem RL.append : ∀ {xs ys : List Val} {us vs : List V}, RL K Z F H xs us → RL K Z F H ys vs → RL K Z F H (xs ++ ys) (us ++ vs)
  | [], _, _, _, h, t => by rw [h.nil_inv]; exact t
  | x :: xs, _, _, _, h, t => by
    obtain ⟨v, r, e, h1, h2⟩ := h.cons_inv
    subst e
    exact .cons h1 (RL.append h2 t)
theorem RL.take : ∀ {xs : List Val} {us : List V} (n : Nat), RL K Z F H xs us → RL K Z F H (xs.take n) (us.take n)
  | _, _, 0, _ => by simpa using RL.nil
  | [], _, n + 1, h => by rw [h.nil_inv]; simpa using RL.nil
  | x :: xs, _, n + 1, h => by
    obtain ⟨v, r, e, h1, h2⟩ := h.cons_inv
    subst e
    exact .cons h1 (RL.take n h2)
theorem RL.drop : ∀ {xs : List Val} {us : List V} (n : Nat), RL K Z F H xs us → RL K Z F H (xs.drop n) (us.drop n)
  | _, _, 0, h => h
  | [], _, n + 1, h => by rw [h.nil_inv]; simpa using RL.nil
  | x :: xs, _, n + 1, h => by
    obtain ⟨v, r, e, h1, h2⟩ := h.cons_inv
    subst e
    exact RL.drop n h2
theorem RL.set : ∀ {xs : List Val} {us : List V} (i : Nat) {x : Val} {v : V}, RL K Z F H xs us → R K Z F H x v → RL K Z F H (xs.set i x) (us.set i v)
  | [], _, _, _, _, h, _ => by rw [h.nil_inv]; simpa using RL.nil
  | y :: xs, _, 0, _, _, h, r => by
    obtain ⟨v, t, e, h1, h2⟩ := h.cons_inv
    subst e
    exact .cons r h2
  | y :: xs, _, i + 1, _, _, h, r => by
    obtain ⟨v, t, e, h1, h2⟩ := h.cons_inv
    subst e
    exact .cons h1 (RL.set i h2 r)
theorem RL.rep {xs : List Val} {us : List V} (h : RL K Z F H xs us) : ∀ k : Nat, RL K Z F H (List.replicate k xs).flatten (List.replicate k us).flatten
  | 0 => by simpa using RL.nil
  | k + 1 => by
    rw [List.replicate_succ, List.replicate_succ, List.flatten_cons, List.flatten_cons]
    exact h.append (RL.rep h k)
theorem RL.of_get : ∀ {xs : List Val} {us : List V}, xs.length = us.length → (∀ (i : Nat) x v, xs[i]? = some x → us[i]? = some v → R K Z F H x v) → RL K Z F H xs us
  | [], [], _, _ => RL.nil
  | [], _ :: _, h, _ => by simp at h
  | _ :: _, [], h, _ => by simp at h
  | x :: xs, u :: us, h, g => .cons (g 0 x u (by simp) (by simp)) (RL.of_get (by simpa using h) fun i a v e1 e2 => g (i + 1) a v (by simpa using e1) (by simpa using e2))
theorem RL.ints : ∀ {ns : List Int} {us : List V}, RL K Z F H (ns.map Val.int) us → us = ns.map V.int
  | [], _, h => h.nil_inv
  | n :: ns, _, h => by
    obtain ⟨v, r, e, h1, h2⟩ := h.cons_inv
    rw [e, RL.ints h2, List.map_cons, show v = V.int n by simpa [R] using h1]
theorem RL.of_ints : ∀ ns : List Int, RL K Z F H (ns.map Val.int) (ns.map V.int)
  | [] => RL.nil
  | n :: ns => .cons (by simp [R]) (RL.of_ints ns)
theorem RL.bls : ∀ {bs : List Bool} {us : List V}, RL K Z F H (bs.map Val.bl) us → us = bs.map V.bl
  | [], _, h => h.nil_inv
  | n :: ns, _, h => by
    obtain ⟨v, r, e, h1, h2⟩ := h.cons_inv
    rw [e, RL.bls h2, List.map_cons, show v = V.bl n by simpa [R] using h1]
theorem intsOf_map : ∀ {xs : List Val} {ns : List Int}, intsOf xs = some ns → xs = ns.map Val.int
  | [], ns, h => by
    have : ns = [] := by simpa [intsOf] using h.symm
    rw [this]; rfl
  | x :: xs, ns, h => by
    cases x with
    | int i =>
      cases q : intsOf xs with
      | none => simp [intsOf, q] at h
      | some ms =>
        have : i :: ms = ns := by simpa [intsOf, q] using h
        rw [← this, intsOf_map q]; rfl
    | _ => simp [intsOf] at h
@[simp] theorem intsOf_ints : ∀ ns : List Int, intsOf (ns.map Val.int) = some ns
  | [] => rfl
  | n :: ns => by simp [intsOf, intsOf_ints ns]
theorem bsOf_map : ∀ {xs : List Val} {ns : List Bool}, bsOf xs = some ns → xs = ns.map Val.bl
  | [], ns, h => by
    have : ns = [] := by simpa [bsOf] using h.symm
    rw [this]; rfl
  | x :: xs, ns, h => by
    cases x with
    | bl i =>
      cases q : bsOf xs with
      | none => simp [bsOf, q] at h
      | some ms =>
        have : i :: ms = ns := by simpa [bsOf, q] using h
        rw [← this, bsOf_map q]; rfl
    | _ => simp [bsOf] at h
@[simp] theorem bsOf_bls : ∀ ns : List Bool, bsOf (ns.map Val.bl) = some ns
  | [] => rfl
  | n :: ns => by simp [bsOf, bsOf_bls ns]
/-! ### the environment -/
theorem EnvOk.keep {r : Sl} {σ : L2.St} (k : Kp Z F H F' H') (e : EnvOk K Z F H r σ) : EnvOk K Z F' H' r σ :=
  ⟨e.1, fun i x h => let ⟨v, h1, h2⟩ := e.2 i x h; ⟨v, h1, h2.keep k⟩⟩
theorem EnvOk.set {r : Sl} {σ : L2.St} {i : Nat} {x : Val} {v : V} (e : EnvOk K Z F H r σ) (h : R K Z F H x v) : EnvOk K Z F H (r.set i (some x)) (σ.set i (some v)) := by
  refine ⟨by simpa using e.1, fun j y hj => ?_⟩
  by_cases hij : i = j
  · subst hij
    by_cases hl : i < r.length
    · rw [List.getElem?_set_self hl] at hj
      have : x = y := by simpa using hj
      subst this
      exact ⟨v, by rw [List.getElem?_set_self (by rw [← e.1]; exact hl)], h⟩
    · rw [List.getElem?_eq_none (by simpa using hl)] at hj
      simp at hj
  · rw [List.getElem?_set_ne hij] at hj
    rw [List.getElem?_set_ne hij]
    exact e.2 j y hj
theorem EnvOk.wipe {r : Sl} {σ : L2.St} (e : EnvOk K Z F H r σ) : ∀ vs : List Nat, EnvOk K Z F H (wipeS r vs) (wipe σ vs)
  | [] => e
  | v :: vs => by
    have ih := EnvOk.wipe e vs
    unfold wipeS L2.wipe
    refine ⟨by simpa using ih.1, fun j y hj => ?_⟩
    by_cases hij : v = j
    · subst hij
      by_cases hl : v < (wipeS r vs).length
      · rw [List.getElem?_set_self hl] at hj
        simp at hj
      · rw [List.getElem?_eq_none (by simpa using hl)] at hj
        simp at hj
    · rw [List.getElem?_set_ne hij] at hj
      rw [List.getElem?_set_ne hij]
      exact ih.2 j y hj
theorem EnvOk.weak {Z' : Addr → Prop} {r : Sl} {σ : L2.St} (hz : ∀ a, Z' a → Z a) (e : EnvOk K Z F H r σ) : EnvOk K Z' F H r σ :=
  ⟨e.1, fun i x h => let ⟨v, h1, h2⟩ := e.2 i x h; ⟨v, h1, h2.weak hz⟩⟩
/-! ### the store -/
theorem StOk.live (s : StOk K Z F S H) {a : Addr} (h : some a ∈ F) : H a ≠ none := by
  obtain ⟨n, hn, e⟩ := List.getElem_of_mem h
  have e2 : F[n]? = some (some a) := by rw [List.getElem?_eq_getElem hn, e]
  have hl : n < S.length := by rw [← s.len]; exact hn
  obtain ⟨fo, e3, at_⟩ := s.at_ n _ (List.getElem?_eq_getElem hl)
  rw [e2] at e3
  have : some a = fo := by simpa using e3
  subst this
  cases q : S[n] with
  | dead => rw [q] at at_; exact at_.elim
  | lst xs =>
    rw [q] at at_
    obtain ⟨us, h1, _⟩ := at_
    rw [h1]; simp
  | frz xs =>
    rw [q] at at_
    obtain ⟨o, us, h1, _⟩ := at_
    rw [h1]; simp
theorem StOk.mu_in (s : StOk K Z F S H) {a : Addr} (h : mu Z F a) : H a ≠ none := h.elim s.live (s.zin a)
/-- at a live place -/
theorem StOk.lst (s : StOk K Z F S H) {n : Nat} {xs : List Val} (e : S[n]? = some (.lst xs)) : ∃ a us, F[n]? = some (some a) ∧ H a = some (.lst us) ∧ RL K Z F H xs us := by
  obtain ⟨fo, e1, at_⟩ := s.at_ n _ e
  cases fo with
  | none => exact at_.elim
  | some a =>
    obtain ⟨us, h1, h2⟩ := at_
    exact ⟨a, us, e1, h1, h2⟩
theorem StOk.frz (s : StOk K Z F S H) {n : Nat} {xs : List Val} (e : S[n]? = some (.frz xs)) : ∃ a o us, F[n]? = some (some a) ∧ H a = some (.frz o (.lst us)) ∧ RL K Z F H xs us := by
  obtain ⟨fo, e1, at_⟩ := s.at_ n _ e
  cases fo with
  | none => exact at_.elim
  | some a =>
    obtain ⟨o, us, h1, h2⟩ := at_
    exact ⟨a, o, us, e1, h1, h2⟩
theorem R.loc_ref {n : Nat} {v : V} {a : Addr} (h : R K Z F H (.loc n) v) (e : F[n]? = some (some a)) : v = .ref a := by
  simp only [R] at h
  obtain ⟨o, e1, q⟩ := h
  rw [e] at e1
  exact q a (by simpa using e1.symm)
/-- objects under an extension -/
theorem At.keep (k : Kp Z F H F' H') {fo : Option Addr} {ob : Ob} (hs : ∀ a, fo = some a → H' a = H a) (h : At K Z F H fo ob) : At K Z F' H' fo ob := by
  cases fo with
  | none =>
    cases ob with
    | dead => trivial
    | _ => exact h.elim
  | some a =>
    have e := hs a rfl
    cases ob with
    | dead => exact h.elim
    | lst xs =>
      obtain ⟨us, h1, h2⟩ := h
      exact ⟨us, by rw [e]; exact h1, h2.keep k⟩
    | frz xs =>
      obtain ⟨o, us, h1, h2⟩ := h
      exact ⟨o, us, by rw [e]; exact h1, h2.keep k⟩
theorem upd_other {p a : Addr} {o : HO} (hp : H p = none) (ha : H a ≠ none) : upd H p o a = H a := upd_ne fun z => ha (z ▸ hp)
theorem Kp.new {p : Addr} {o : HO} (hp : H p = none) : Kp Z F H F (upd H p o) :=
  ⟨Nat.le_refl _, fun _ _ h => .inl h, fun a us h m => ⟨by rw [upd_other hp (by rw [h]; simp)]; exact h, m⟩, fun a us h => by rw [upd_other hp (by rw [h]; simp)]; exact h, fun a o us h => by rw [upd_other hp (by rw [h]; simp)]; exact h⟩
/-- a new object that nothing speaks of yet -/
theorem Keep.new (s : StOk K Z F S H) {p : Addr} {o : HO} (hp : H p = none) : Keep Z F H F (upd H p o) :=
  ⟨Kp.new hp, fun a z => upd_other hp (s.zin a z), fun a h => by rw [upd_other hp h]; exact h⟩
theorem StOk.new (s : StOk K Z F S H) {p : Addr} {o : HO} (hp : H p = none) : StOk K Z F S (upd H p o) where
  len := s.len
  at_ := fun n ob e => by
    obtain ⟨fo, e1, h1⟩ := s.at_ n ob e
    refine ⟨fo, e1, h1.keep (Kp.new hp) fun a z => ?_⟩
    subst z
    exact upd_other hp (s.live (List.mem_of_getElem? e1))
  inj := s.inj
  zin := fun a z => by rw [upd_other hp (s.zin a z)]; exact s.zin a z
  zl := s.zl
theorem StOk.nomu (s : StOk K Z F S H) {p : Addr} (hp : H p = none) : ¬ mu Z F p := fun m => s.mu_in m hp
/-- the hidden places grow by a new one -/
abbrev hide (Z : Addr → Prop) (p : Addr) : Addr → Prop := fun a => Z a ∨ a = p
theorem RL.hide {xs : List Val} {us : List V} {p : Addr} {F : Fs} {H : Hp} (hp : H p = none) (h : RL K Z F H xs us) : RL K (hide Z p) F H xs us := by
  have main : (∀ {x : Val} {v : V}, R K Z F H x v → R K (DI.hide Z p) F H x v) ∧ (∀ {xs : List Val} {vs : List V}, RL K Z F H xs vs → RL K (DI.hide Z p) F H xs vs) := by
    have go : ∀ n : Nat, (∀ {x : Val} {v : V}, sizeOf x ≤ n → R K Z F H x v → R K (DI.hide Z p) F H x v) ∧ (∀ {xs : List Val} {vs : List V}, sizeOf xs ≤ n → RL K Z F H xs vs → RL K (DI.hide Z p) F H xs vs) := by
      intro n
      induction n with
      | zero =>
        refine ⟨fun {x v} hs _ => ?_, fun {xs vs} hs _ => ?_⟩
        · cases x <;> simp at hs
        · cases xs <;> simp at hs
      | succ n ih =>
        refine ⟨fun {x v} hs h => ?_, fun {xs vs} hs h => ?_⟩
        · cases x with
          | tup xs =>
            simp only [R] at h ⊢
            obtain ⟨a, us, e, t, l⟩ := h
            exact ⟨a, us, e, t, ih.2 (by simp at hs; omega) l⟩
          | lst xs =>
            simp only [R] at h ⊢
            obtain ⟨a, us, e, t, m, l⟩ := h
            refine ⟨a, us, e, t, ?_, ih.2 (by simp at hs; omega) l⟩
            rintro (q | q | q)
            · exact m (.inl q)
            · exact m (.inr q)
            · rw [q, hp] at t
              cases t
          | non => simpa [R] using h
          | bl b => simpa [R] using h
          | int i => simpa [R] using h
          | str s => simpa [R] using h
          | loc i => simpa [R] using h
          | scr i => simpa [R] using h
        · cases xs with
          | nil => simpa [RL] using h
          | cons x xs =>
            simp only [RL] at h ⊢
            obtain ⟨v, r, e, h1, h2⟩ := h
            exact ⟨v, r, e, ih.1 (by simp at hs; omega) h1, ih.2 (by simp at hs; omega) h2⟩
    exact ⟨fun {x v} h => (go _).1 (Nat.le_refl _) h, fun {xs vs} h => (go _).2 (Nat.le_refl _) h⟩
  exact main.2 h
theorem R.hide {x : Val} {v : V} {p : Addr} {F : Fs} {H : Hp} (hp : H p = none) (h : R K Z F H x v) : R K (DI.hide Z p) F H x v := by
  have := RL.hide hp (RL.cons h RL.nil)
  obtain ⟨w, r, e, h1, _⟩ := this.cons_inv
  cases e
  exact h1
theorem EnvOk.hide {r : Sl} {σ : L2.St} {p : Addr} (hp : H p = none) (e : EnvOk K Z F H r σ) : EnvOk K (DI.hide Z p) F H r σ :=
  ⟨e.1, fun i x h => let ⟨v, h1, h2⟩ := e.2 i x h; ⟨v, h1, h2.hide hp⟩⟩
theorem At.hide {fo : Option Addr} {ob : Ob} {p : Addr} (hp : H p = none) (h : At K Z F H fo ob) : At K (DI.hide Z p) F H fo ob := by
  cases fo with
  | none =>
    cases ob with
    | dead => trivial
    | _ => exact h.elim
  | some a =>
    cases ob with
    | dead => exact h.elim
    | lst xs =>
      obtain ⟨us, h1, h2⟩ := h
      exact ⟨us, h1, h2.hide hp⟩
    | frz xs =>
      obtain ⟨o, us, h1, h2⟩ := h
      exact ⟨o, us, h1, h2.hide hp⟩
/-- a new object laid and hidden -/
theorem StOk.newHid (s : StOk K Z F S H) {p : Addr} {o : HO} (hp : H p = none) : StOk K (DI.hide Z p) F S (upd H p o) where
  len := s.len
  at_ := fun n ob e => by
    obtain ⟨fo, e1, h1⟩ := s.at_ n ob e
    refine ⟨fo, e1, (h1.hide hp).keep (Kp.new hp) fun a z => ?_⟩
    subst z
    exact upd_other hp (s.live (List.mem_of_getElem? e1))
  inj := s.inj
  zin := fun a z => by
    rcases z with z | z
    · rw [upd_other hp (s.zin a z)]; exact s.zin a z
    · rw [z, upd_same]; simp
  zl := fun a z => by
    rcases z with z | z
    · exact s.zl a z
    · intro m
      exact s.live m (z ▸ hp)
mutual
/-- a hidden list becomes one of the places -/
theorem R.unhide {p : Addr} : ∀ {x : Val} {v : V}, R K (DI.hide Z p) F H x v → R K Z (F ++ [some p]) H x v
  | .scr _, _, h => by simpa [R] using h
  | .non, _, h => by simpa [R] using h
  | .bl _, _, h => by simpa [R] using h
  | .int _, _, h => by simpa [R] using h
  | .str _, _, h => by simpa [R] using h
  | .loc n, _, h => by
    simp only [R] at h ⊢
    obtain ⟨o, e, q⟩ := h
    refine ⟨o, ?_, q⟩
    rw [List.getElem?_append_left (List.getElem?_eq_some_iff.mp e).1]
    exact e
  | .tup xs, _, h => by
    simp only [R] at h ⊢
    obtain ⟨a, us, e, t, l⟩ := h
    exact ⟨a, us, e, t, RL.unhide l⟩
  | .lst xs, _, h => by
    simp only [R] at h ⊢
    obtain ⟨a, us, e, t, m, l⟩ := h
    refine ⟨a, us, e, t, ?_, RL.unhide l⟩
    rintro (q | q)
    · rcases List.mem_append.mp q with q | q
      · exact m (.inl q)
      · exact m (.inr (.inr (by simpa using q)))
    · exact m (.inr (.inl q))
theorem RL.unhide {p : Addr} : ∀ {xs : List Val} {vs : List V}, RL K (DI.hide Z p) F H xs vs → RL K Z (F ++ [some p]) H xs vs
  | [], _, h => by simpa [RL] using h
  | x :: xs, _, h => by
    simp only [RL] at h ⊢
    obtain ⟨v, r, e, h1, h2⟩ := h
    exact ⟨v, r, e, R.unhide h1, RL.unhide h2⟩
end
theorem At.weak {Z' : Addr → Prop} (hz : ∀ a, Z' a → Z a) {fo : Option Addr} {ob : Ob} (h : At K Z F H fo ob) : At K Z' F H fo ob := by
  cases fo with
  | none =>
    cases ob with
    | dead => trivial
    | _ => exact h.elim
  | some a =>
    cases ob with
    | dead => exact h.elim
    | lst xs =>
      obtain ⟨us, h1, h2⟩ := h
      exact ⟨us, h1, h2.weak hz⟩
    | frz xs =>
      obtain ⟨o, us, h1, h2⟩ := h
      exact ⟨o, us, h1, h2.weak hz⟩
theorem StOk.weak {Z' : Addr → Prop} (hz : ∀ a, Z' a → Z a) (s : StOk K Z F S H) : StOk K Z' F S H :=
  ⟨s.len, fun n ob e => let ⟨fo, e1, h1⟩ := s.at_ n ob e; ⟨fo, e1, h1.weak hz⟩, s.inj, fun a z => s.zin a (hz a z), fun a z => s.zl a (hz a z)⟩
theorem At.unhide {p : Addr} {fo : Option Addr} {ob : Ob} (h : At K (DI.hide Z p) F H fo ob) : At K Z (F ++ [some p]) H fo ob := by
  cases fo with
  | none =>
    cases ob with
    | dead => trivial
    | _ => exact h.elim
  | some a =>
    cases ob with
    | dead => exact h.elim
    | lst xs =>
      obtain ⟨us, h1, h2⟩ := h
      exact ⟨us, h1, h2.unhide⟩
    | frz xs =>
      obtain ⟨o, us, h1, h2⟩ := h
      exact ⟨o, us, h1, h2.unhide⟩
/-- a hidden list becomes the newest place -/
theorem StOk.placed {p : Addr} {xs : List Val} {us : List V} (s : StOk K (DI.hide Z p) F S H) (hp : H p = some (.lst us)) (rl : RL K (DI.hide Z p) F H xs us) (nz : ¬ Z p) : StOk K Z (F ++ [some p]) (S ++ [.lst xs]) H where
  len := by simp [s.len]
  at_ := fun n ob e => by
    by_cases hn : n < S.length
    · rw [List.getElem?_append_left hn] at e
      obtain ⟨fo, e1, h1⟩ := s.at_ n ob e
      refine ⟨fo, ?_, h1.unhide⟩
      rw [List.getElem?_append_left (by rw [s.len]; exact hn)]
      exact e1
    · rw [List.getElem?_append_right (Nat.le_of_not_lt hn)] at e
      have hz : n - S.length = 0 := by
        cases q : n - S.length with
        | zero => rfl
        | succ m => rw [q] at e; simp at e
      rw [hz] at e
      have : Ob.lst xs = ob := by simpa using e
      subst this
      refine ⟨some p, ?_, us, hp, rl.unhide⟩
      rw [List.getElem?_append_right (by rw [s.len]; omega), s.len, hz]
      rfl
  inj := fun n m a e1 e2 => by
    have np : some p ∉ F := s.zl p (.inr rfl)
    have key : ∀ n, (F ++ [some p])[n]? = some (some a) → (F[n]? = some (some a) ∧ a ≠ p) ∨ (n = F.length ∧ a = p) := fun n e => by
      by_cases hn : n < F.length
      · rw [List.getElem?_append_left hn] at e
        exact .inl ⟨e, fun z => np (z ▸ List.mem_of_getElem? e)⟩
      · rw [List.getElem?_append_right (Nat.le_of_not_lt hn)] at e
        have hz : n - F.length = 0 := by
          cases q : n - F.length with
          | zero => rfl
          | succ m => rw [q] at e; simp at e
        rw [hz] at e
        exact .inr ⟨by omega, by simpa using e.symm⟩
    rcases key n e1 with ⟨f1, g1⟩ | ⟨f1, g1⟩
    · rcases key m e2 with ⟨f2, g2⟩ | ⟨f2, g2⟩
      · exact s.inj n m a f1 f2
      · exact absurd g2 g1
    · rcases key m e2 with ⟨f2, g2⟩ | ⟨f2, g2⟩
      · exact absurd g1 g2
      · omega
  zin := fun a z => s.zin a (.inl z)
  zl := fun a z m => by
    rcases List.mem_append.mp m with m | m
    · exact s.zl a (.inl z) m
    · have : a = p := by simpa using m
      exact nz (this ▸ z)
/-- a list at a place is changed -/
theorem Keep.mut (s : StOk K Z F S H) {n : Nat} {a : Addr} {us us' : List V} (hF : F[n]? = some (some a)) (ha : H a = some (.lst us)) : Keep Z F H F (upd H a (.lst us')) := by
  have hm : some a ∈ F := List.mem_of_getElem? hF
  refine ⟨⟨Nat.le_refl _, fun _ _ h => .inl h, fun b ws h m => ⟨?_, m⟩, fun b ws h => ?_, fun b o ws h => ?_⟩, fun b z => ?_, fun b h => ?_⟩
  · rw [upd_ne (fun e : b = a => m (.inl (by rw [e]; exact hm)))]; exact h
  · rw [upd_ne (fun e : b = a => by rw [e, ha] at h; cases h)]; exact h
  · rw [upd_ne (fun e : b = a => by rw [e, ha] at h; cases h)]; exact h
  · rw [upd_ne (fun e : b = a => s.zl b z (by rw [e]; exact hm))]
  · by_cases e : b = a
    · rw [e, upd_same]; simp
    · rw [upd_ne e]; exact h
theorem StOk.mut (s : StOk K Z F S H) {n : Nat} {a : Addr} {us us' : List V} {xs' : List Val} (hF : F[n]? = some (some a)) (ha : H a = some (.lst us)) (rl : RL K Z F H xs' us') : StOk K Z F (S.set n (.lst xs')) (upd H a (.lst us')) where
  len := by simp [s.len]
  at_ := fun m ob e => by
    have k := (Keep.mut (us' := us') s hF ha).toKp
    by_cases hm : n = m
    · subst hm
      have hl : n < S.length := by rw [← s.len]; exact (List.getElem?_eq_some_iff.mp hF).1
      rw [List.getElem?_set_self hl] at e
      have : Ob.lst xs' = ob := by simpa using e
      subst this
      exact ⟨some a, hF, us', upd_same, rl.keep k⟩
    · rw [List.getElem?_set_ne hm] at e
      obtain ⟨fo, e1, h1⟩ := s.at_ m ob e
      refine ⟨fo, e1, h1.keep k fun b z => ?_⟩
      subst z
      exact upd_ne fun z => hm (s.inj n m a hF (z ▸ e1))
  inj := s.inj
  zin := fun b z => by
    have hm : some a ∈ F := List.mem_of_getElem? hF
    rw [upd_ne (fun e : b = a => s.zl b z (by rw [e]; exact hm))]
    exact s.zin b z
  zl := s.zl
/-- a place dies: its list is plain data from now on -/
theorem Keep.die (F : Fs) (H : Hp) (n : Nat) : Keep Z F H (F.set n none) H := by
  have sub : ∀ a, some a ∈ F.set n none → some a ∈ F := fun a h => by
    obtain ⟨m, hm⟩ := List.mem_iff_getElem?.mp h
    by_cases e : n = m
    · subst e
      by_cases hl : n < F.length
      · rw [List.getElem?_set_self hl] at hm; cases hm
      · rw [List.getElem?_eq_none (by simpa using hl)] at hm; cases hm
    · rw [List.getElem?_set_ne e] at hm
      exact List.mem_of_getElem? hm
  refine ⟨⟨by simp, fun m o h => ?_, fun a us h m => ⟨h, fun q => m (q.elim (fun q => .inl (sub a q)) .inr)⟩, fun _ _ h => h, fun _ _ _ h => h⟩, fun _ _ => rfl, fun _ h => h⟩
  by_cases e : n = m
  · subst e
    exact .inr (List.getElem?_set_self (List.getElem?_eq_some_iff.mp h).1)
  · rw [List.getElem?_set_ne e]; exact .inl h
theorem StOk.die (s : StOk K Z F S H) (n : Nat) : StOk K Z (F.set n none) (S.set n .dead) H where
  len := by simp [s.len]
  at_ := fun m ob e => by
    by_cases hm : n = m
    · subst hm
      by_cases hl : n < S.length
      · rw [List.getElem?_set_self hl] at e
        have : Ob.dead = ob := by simpa using e
        subst this
        exact ⟨none, List.getElem?_set_self (by rw [s.len]; exact hl), trivial⟩
      · rw [List.getElem?_eq_none (by simpa using hl)] at e; cases e
    · rw [List.getElem?_set_ne hm] at e
      obtain ⟨fo, e1, h1⟩ := s.at_ m ob e
      exact ⟨fo, by rw [List.getElem?_set_ne hm]; exact e1, h1.keep (Keep.die F H n).toKp fun _ _ => rfl⟩
  inj := fun i j a h1 h2 => by
    have key : ∀ i, (F.set n none)[i]? = some (some a) → F[i]? = some (some a) := fun i h => by
      by_cases e : n = i
      · subst e
        by_cases hl : n < F.length
        · rw [List.getElem?_set_self hl] at h; cases h
        · rw [List.getElem?_eq_none (by simpa using hl)] at h; cases h
      · rw [List.getElem?_set_ne e] at h; exact h
    exact s.inj i j a (key i h1) (key j h2)
  zin := s.zin
  zl := fun a z h => by
    obtain ⟨m, hm⟩ := List.mem_iff_getElem?.mp h
    by_cases e : n = m
    · subst e
      by_cases hl : n < F.length
      · rw [List.getElem?_set_self hl] at hm; cases hm
      · rw [List.getElem?_eq_none (by simpa using hl)] at hm; cases hm
    · rw [List.getElem?_set_ne e] at hm
      exact s.zl a z (List.mem_of_getElem? hm)
end
end DI
/-! DI3: what is wanted behind a piece of the language; its operators. -/
namespace DI
open PySem PySem.Spec PyProof.Rows L2

structure Cy where
  P : Pg
  C : Cf
  K : PySem.W.Frag
  mg : Str → Option Value
  Z : Addr → Prop
abbrev Cy.R (y : Cy) : Fs → Hp → Val → V → Prop := DI.R y.K y.Z
abbrev Cy.RL (y : Cy) : Fs → Hp → List Val → List V → Prop := DI.RL y.K y.Z
abbrev Cy.St (y : Cy) : Fs → Store → Hp → Prop := DI.StOk y.K y.Z
abbrev Cy.Kp (y : Cy) : Fs → Hp → Fs → Hp → Prop := DI.Keep y.Z
abbrev Cy.En (y : Cy) : Fs → Hp → Sl → L2.St → Prop := DI.EnvOk y.K y.Z
/-- an exception as it stands -/
def XR (y : Cy) (F : Fs) (H : Hp) (x : Exn) (cls : Value) (d : Option Addr) : Prop :=
  y.mg (y.P.xnm x.cls) = some cls ∧ ∃ da fv, d = some da ∧ H da = some (.xd fv) ∧ fv.map (·.1) = x.fs.map (·.1) ∧ y.RL F H (x.fs.map (·.2)) (fv.map (·.2))
section
variable {α β γ : Type}
abbrev WK := Value → Option Addr → Hp → Prop
def Post (y : Cy) (F : Fs) (H : Hp) (r : Out α) (RA : Fs → Hp → α → β → Prop) (W : WK) (Q : β → Hp → Prop) : Prop := match r with
  | .ok a S' => ∀ F' H' b, y.Kp F H F' H' → y.St F' S' H' → RA F' H' a b → Q b H'
  | .exn x S' => ∀ F' H' c d, y.Kp F H F' H' → y.St F' S' H' → XR y F' H' x c d → W c d H'
  | .bad => False
variable {y : Cy} {F F' : Fs} {H H' : Hp} {S : Store} {r : Out α} {RA : Fs → Hp → α → β → Prop} {W W' : WK} {Q Q' : β → Hp → Prop}
theorem Post.mono (h : Post y F H r RA W Q) (q : ∀ b H', Q b H' → Q' b H') : Post y F H r RA W Q' := by
  cases r with
  | ok a S' => exact fun F' H' b k s ra => q b H' (h F' H' b k s ra)
  | exn x S' => exact h
  | bad => exact h
theorem Post.wish (h : Post y F H r RA W Q) (q : ∀ c d H', W c d H' → W' c d H') : Post y F H r RA W' Q := by
  cases r with
  | ok a S' => exact h
  | exn x S' => exact fun F' H' c d k s x => q c d H' (h F' H' c d k s x)
  | bad => exact h
theorem Post.keep (k : y.Kp F H F' H') (h : Post y F H r RA W Q) : Post y F' H' r RA W Q := by
  cases r with
  | ok a S' => exact fun F2 H2 b k2 s ra => h F2 H2 b (k.trans k2) s ra
  | exn x S' => exact fun F2 H2 c d k2 s x => h F2 H2 c d (k.trans k2) s x
  | bad => exact h
theorem Post.bind {f : α → Store → Out γ} {RB : Fs → Hp → γ → β → Prop} {RA : Fs → Hp → α → α' → Prop} (h : Post y F H (r.bind f) RB W Q) :
    Post y F H r RA W fun b H' => ∃ F' a S', y.Kp F H F' H' ∧ y.St F' S' H' ∧ RA F' H' a b ∧ Post y F' H' (f a S') RB W Q := by
  cases r with
  | ok a S' => exact fun F' H' b k s ra => ⟨F', a, S', k, s, ra, Post.keep k h⟩
  | exn x S' => exact h
  | bad => exact h
theorem Post.ok {a : α} {b : β} (h : Post y F H (.ok a S) RA W Q) (s : y.St F S H) (ra : RA F H a b) : Q b H := h F H b Keep.refl s ra
theorem Post.bad {RA : Fs → Hp → α → β → Prop} (h : Post y F H .bad RA W Q) : False := h
end
section
variable {y : Cy} {F F' : Fs} {H H' : Hp} {S S' : Store} {W : WK} {Q : VK}
theorem Post.int {i : Int} (h : Post y F H (.ok (.int i) S) y.R W Q) (s : y.St F S H) : Q (.int i) H := h.ok s (by simp [Cy.R, R])
theorem Post.bl {b : Bool} (h : Post y F H (.ok (.bl b) S) y.R W Q) (s : y.St F S H) : Q (.bl b) H := h.ok s (by simp [Cy.R, R])
theorem Post.non (h : Post y F H (.ok .non S) y.R W Q) (s : y.St F S H) : Q .non H := h.ok s (by simp [Cy.R, R])
theorem Post.str {x : List Nat} (h : Post y F H (.ok (.str x) S) y.R W Q) (s : y.St F S H) : Q (.str (sv x)) H := h.ok s (by simp [Cy.R, R])
/-- a new list, a new tuple -/
theorem Post.newL {xs : List Val} {us : List V} (h : Post y F H (.ok (.lst xs) S) y.R W Q) (s : y.St F S H) (rl : y.RL F H xs us) {p : Addr} (hp : H p = none) : Q (.ref p) (upd H p (.lst us)) := by
  refine h F _ _ (Keep.new s hp) (s.new hp) ?_
  simp only [Cy.R, R]
  exact ⟨p, us, rfl, upd_same, s.nomu hp, rl.keep (Kp.new hp)⟩
theorem Post.newT {xs : List Val} {us : List V} (h : Post y F H (.ok (.tup xs) S) y.R W Q) (s : y.St F S H) (rl : y.RL F H xs us) {p : Addr} (hp : H p = none) : Q (.ref p) (upd H p (.tup us)) := by
  refine h F _ _ (Keep.new s hp) (s.new hp) ?_
  simp only [Cy.R, R]
  exact ⟨p, us, rfl, .inl upd_same, rl.keep (Kp.new hp)⟩
end
/-! ### values by kinds -/
section
variable {K : PySem.W.Frag} {Z : Addr → Prop} {F F' : Fs} {H H' : Hp} {S S' : Store}
theorem R.of_int {i : Int} {v : V} (h : R K Z F H (.int i) v) : v = .int i := by simpa [R] using h
theorem R.of_bl {i : Bool} {v : V} (h : R K Z F H (.bl i) v) : v = .bl i := by simpa [R] using h
theorem R.of_non {v : V} (h : R K Z F H .non v) : v = .non := by simpa [R] using h
theorem R.of_str {s : List Nat} {v : V} (h : R K Z F H (.str s) v) : v = .str (sv s) := by simpa [R] using h
theorem R.of_tup {xs : List Val} {v : V} (h : R K Z F H (.tup xs) v) : ∃ a us, v = .ref a ∧ TupAt K H a us ∧ RL K Z F H xs us := by simpa [R] using h
theorem R.of_lst {xs : List Val} {v : V} (h : R K Z F H (.lst xs) v) : ∃ a us, v = .ref a ∧ H a = some (.lst us) ∧ ¬ mu Z F a ∧ RL K Z F H xs us := by simpa [R] using h
/-- a list that is not locked -/
theorem lstOf_R {x : Val} {v : V} {xs : List Val} (s : StOk K Z F S H) (h : R K Z F H x v) (e : lstOf S x = some xs) : ∃ a us, v = .ref a ∧ H a = some (.lst us) ∧ RL K Z F H xs us := by
  cases x with
  | lst ys =>
    obtain ⟨a, us, e1, h1, _, rl⟩ := h.of_lst
    have : ys = xs := by simpa [lstOf] using e
    subst this
    exact ⟨a, us, e1, h1, rl⟩
  | loc n =>
    cases q : S[n]? with
    | none => simp [lstOf, q] at e
    | some ob =>
      cases ob with
      | lst ys =>
        have : ys = xs := by simpa [lstOf, q] using e
        subst this
        obtain ⟨a, us, h1, h2, rl⟩ := s.lst q
        exact ⟨a, us, h.loc_ref h1, h2, rl⟩
      | _ => simp [lstOf, q] at e
  | _ => simp [lstOf] at e
/-- a sequence that is read -/
theorem items_R {x : Val} {v : V} {xs : List Val} (s : StOk K Z F S H) (h : R K Z F H x v) (e : items S x = some xs) :
    ∃ a us, v = .ref a ∧ RL K Z F H xs us ∧ ((SqL K H a us ∧ ∀ zs, x ≠ .tup zs) ∨ (SqT K H a us ∧ x = .tup xs)) := by
  cases x with
  | tup ys =>
    obtain ⟨a, us, e1, h1, rl⟩ := h.of_tup
    have : ys = xs := by simpa [items] using e
    subst this
    exact ⟨a, us, e1, rl, .inr ⟨h1.sq, rfl⟩⟩
  | lst ys =>
    obtain ⟨a, us, e1, h1, _, rl⟩ := h.of_lst
    have : ys = xs := by simpa [items] using e
    subst this
    exact ⟨a, us, e1, rl, .inl ⟨.of h1, fun _ z => by cases z⟩⟩
  | scr ns =>
    simp only [R] at h
    obtain ⟨a, e1, h1⟩ := h
    have : ns.map Val.int = xs := by simpa [items] using e
    subst this
    exact ⟨a, _, e1, RL.of_ints ns, .inl ⟨h1.sq, fun _ z => by cases z⟩⟩
  | loc n =>
    cases q : S[n]? with
    | none => simp [items, q] at e
    | some ob =>
      cases ob with
      | lst ys =>
        have : ys = xs := by simpa [items, q] using e
        subst this
        obtain ⟨a, us, h1, h2, rl⟩ := s.lst q
        exact ⟨a, us, h.loc_ref h1, rl, .inl ⟨.of h2, fun _ z => by cases z⟩⟩
      | frz ys =>
        have : ys = xs := by simpa [items, q] using e
        subst this
        obtain ⟨a, o, us, h1, h2, rl⟩ := s.frz q
        exact ⟨a, us, h.loc_ref h1, rl, .inl ⟨.inl (.inr ⟨o, h2⟩), fun _ z => by cases z⟩⟩
      | dead => simp [items, q] at e
  | _ => simp [items] at e
/-! ### data -/
mutual
theorem dp_of : ∀ {x : Val} {v : V}, x.dat = true → R K Z F H x v → Dp K H v (toD x)
  | .non, _, _, h => by rw [h.of_non]; simp only [toD]; exact .non
  | .bl b, _, _, h => by rw [h.of_bl]; simp only [toD]; exact .bl b
  | .int i, _, _, h => by rw [h.of_int]; simp only [toD]; exact .int i
  | .str s, _, _, h => by rw [h.of_str]; simp only [toD]; exact .str _
  | .loc _, _, d, _ => by simp [Val.dat] at d
  | .scr _, _, d, _ => by simp [Val.dat] at d
  | .tup xs, _, d, h => by
    obtain ⟨a, us, e, t, rl⟩ := h.of_tup
    rw [e]; simp only [toD]
    exact .tup t.sq (dps_of (by simpa [Val.dat] using d) rl)
  | .lst xs, _, d, h => by
    obtain ⟨a, us, e, t, _, rl⟩ := h.of_lst
    rw [e]; simp only [toD]
    exact .lst (.of t) (dps_of (by simpa [Val.dat] using d) rl)
theorem dps_of : ∀ {xs : List Val} {us : List V}, Val.dats xs = true → RL K Z F H xs us → DpAll K H us (toDs xs)
  | [], _, _, h => by rw [h.nil_inv]; simp only [toDs]; exact .nil
  | x :: xs, _, d, h => by
    obtain ⟨v, r, e, h1, h2⟩ := h.cons_inv
    have d2 : x.dat = true ∧ Val.dats xs = true := by simpa [Val.dats] using d
    rw [e]; simp only [toDs]
    exact .cons (dp_of d2.1 h1) (dps_of d2.2 h2)
end
mutual
theorem lay_of : ∀ {x : Val}, x.dat = true → (toD x).canLay0 = true
  | .non, _ => by simp [toD, PyData.canLay0]
  | .bl _, _ => by simp [toD, PyData.canLay0]
  | .int _, _ => by simp [toD, PyData.canLay0]
  | .str s, d => by
    simp only [toD, PyData.canLay0]
    have d2 : s.all (· < 0x110000) = true := by simpa [Val.dat] using d
    have e : PyData.strOk (sv s) = s.toArray.all (· < 0x110000) := rfl
    rw [e, List.all_toArray]
    exact d2
  | .loc _, d => by simp [Val.dat] at d
  | .scr _, d => by simp [Val.dat] at d
  | .tup xs, d => by simpa [toD, PyData.canLay0] using lays_of (xs := xs) (by simpa [Val.dat] using d)
  | .lst xs, d => by simpa [toD, PyData.canLay0] using lays_of (xs := xs) (by simpa [Val.dat] using d)
theorem lays_of : ∀ {xs : List Val}, Val.dats xs = true → PyData.canLayAll0 (toDs xs) = true
  | [], _ => by simp [toDs, PyData.canLayAll0]
  | x :: xs, d => by
    have d2 : x.dat = true ∧ Val.dats xs = true := by simpa [Val.dats] using d
    simp [toDs, PyData.canLayAll0, lay_of d2.1, lays_of d2.2]
end
mutual
theorem dep_of : ∀ x : Val, (toD x).depth = x.dep
  | .non => by simp [toD, PyData.depth, Val.dep]
  | .bl _ => by simp [toD, PyData.depth, Val.dep]
  | .int _ => by simp [toD, PyData.depth, Val.dep]
  | .str _ => by simp [toD, PyData.depth, Val.dep]
  | .loc _ => by simp [toD, PyData.depth, Val.dep]
  | .scr _ => by simp [toD, PyData.depth, Val.dep]
  | .tup xs => by simp [toD, PyData.depth, Val.dep, deps_of xs]
  | .lst xs => by simp [toD, PyData.depth, Val.dep, deps_of xs]
theorem deps_of : ∀ xs : List Val, PyData.depthAll (toDs xs) = Val.deps xs
  | [] => by simp [toDs, PyData.depthAll, Val.deps]
  | x :: xs => by simp [toDs, PyData.depthAll, Val.deps, dep_of x, deps_of xs]
end
theorem sv_beq (s t : List Nat) : (sv s == sv t) = (s == t) := by
  by_cases h : s = t
  · subst h; simp
  · have h2 : sv s ≠ sv t := fun e => h (by
      have : s.toArray = t.toArray := congrArg Str.cps e
      simpa using this)
    rw [beq_eq_false_iff_ne.mpr h, beq_eq_false_iff_ne.mpr h2]
mutual
theorem eqv_of : ∀ {x y : Val}, x.dat = true → y.dat = true → PyData.eqv (toD x) (toD y) = Val.eqv x y
  | .non, y, _, d => by cases y <;> simp_all [toD, PyData.eqv, Val.eqv, Val.dat]
  | .bl _, y, _, d => by cases y <;> simp_all [toD, PyData.eqv, Val.eqv, Val.dat]
  | .int _, y, _, d => by cases y <;> simp_all [toD, PyData.eqv, Val.eqv, Val.dat]
  | .str s, y, _, d => by
    cases y with
    | str t => simp only [toD, PyData.eqv, Val.eqv]; exact sv_beq s t
    | _ => simp_all [toD, PyData.eqv, Val.eqv, Val.dat]
  | .loc _, _, d, _ => by simp [Val.dat] at d
  | .scr _, _, d, _ => by simp [Val.dat] at d
  | .tup xs, y, d, d2 => by
    cases y with
    | tup ys => simp only [toD, PyData.eqv, Val.eqv]; exact eqvs_of (by simpa [Val.dat] using d) (by simpa [Val.dat] using d2)
    | loc _ => simp [Val.dat] at d2
    | scr _ => simp [Val.dat] at d2
    | _ => simp [toD, PyData.eqv, Val.eqv]
  | .lst xs, y, d, d2 => by
    cases y with
    | lst ys => simp only [toD, PyData.eqv, Val.eqv]; exact eqvs_of (by simpa [Val.dat] using d) (by simpa [Val.dat] using d2)
    | loc _ => simp [Val.dat] at d2
    | scr _ => simp [Val.dat] at d2
    | _ => simp [toD, PyData.eqv, Val.eqv]
theorem eqvs_of : ∀ {xs ys : List Val}, Val.dats xs = true → Val.dats ys = true → PyData.eqvAll (toDs xs) (toDs ys) = Val.eqvs xs ys
  | [], [], _, _ => by simp [toDs, PyData.eqvAll, Val.eqvs]
  | [], _ :: _, _, _ => by simp [toDs, PyData.eqvAll, Val.eqvs]
  | _ :: _, [], _, _ => by simp [toDs, PyData.eqvAll, Val.eqvs]
  | x :: xs, y :: ys, d, d2 => by
    have e1 : x.dat = true ∧ Val.dats xs = true := by simpa [Val.dats] using d
    have e2 : y.dat = true ∧ Val.dats ys = true := by simpa [Val.dats] using d2
    simp [toDs, PyData.eqvAll, Val.eqvs, eqv_of e1.1 e2.1, eqvs_of e1.2 e2.2]
end
/-- a value, or the list at its place, as data -/
theorem dp_top {x : Val} {v : V} (s : StOk K Z F S H) (h : R K Z F H x v) (d : (top S x).dat = true) : Dp K H v (toD (top S x)) := by
  cases x with
  | scr ns =>
    simp only [R] at h
    obtain ⟨a, rfl, h1⟩ := h
    simp only [top] at d ⊢
    simp only [toD]
    exact .lst h1.sq (dps_of (Z := Z) (F := F) (by simpa [Val.dat] using d) (RL.of_ints ns))
  | loc n =>
    cases q : S[n]? with
    | none => simp [top, q, Val.dat] at d
    | some ob =>
      cases ob with
      | lst ys =>
        obtain ⟨a, us, h1, h2, rl⟩ := s.lst q
        rw [h.loc_ref h1]
        simp only [top, q] at d ⊢
        simp only [toD]
        exact .lst (.of h2) (dps_of (by simpa [Val.dat] using d) rl)
      | frz ys =>
        obtain ⟨a, o, us, h1, h2, rl⟩ := s.frz q
        rw [h.loc_ref h1]
        simp only [top, q] at d ⊢
        simp only [toD]
        exact .lst (.inl (.inr ⟨o, h2⟩)) (dps_of (by simpa [Val.dat] using d) rl)
      | dead => simp [top, q, Val.dat] at d
  | _ => exact dp_of d h
theorem DpAll.of_toDs {xs : List Val} : (toDs xs).length = xs.length := by
  induction xs with
  | nil => simp [toDs]
  | cons x xs ih => simp [toDs, ih]
theorem any_eqv {d : Val} (hd : d.dat = true) : ∀ {xs : List Val}, Val.dats xs = true → ((toDs xs).any fun z => PyData.eqv z (toD d)) = xs.any fun z => Val.eqv z d
  | [], _ => by simp [toDs]
  | x :: xs, h => by
    have e1 : x.dat = true ∧ Val.dats xs = true := by simpa [Val.dats] using h
    simp [toDs, eqv_of e1.1 hd, any_eqv hd e1.2]
end

/-! ### operators -/
def BOp.py : BOp → Operator
  | .add => .Add
  | .sub => .Sub
  | .mul => .Mult
  | .fdiv => .FloorDiv
  | .mod => .Mod
  | .pow => .Pow
def COp.py : COp → CmpOp
  | .lt => .Lt
  | .le => .LtE
  | .gt => .Gt
  | .ge => .GtE
  | .eq => .Eq
  | .ne => .NotEq
  | .isn => .Is
  | .notn => .IsNot
  | .mem => .In
  | .nmem => .NotIn
abbrev WT : WK := fun _ _ _ => True
/-- what an operator's answer must give -/
def rOp (y : Cy) (f : Val → Val → Store → Out Val) : R2 := fun x z H Q => ∃ F S a b, y.St F S H ∧ y.R F H a x ∧ y.R F H b z ∧ Post y F H (f a b S) y.R WT Q
theorem size_sv (s : List Nat) : (sv s).length = s.length := by
  show s.toArray.size = s.length
  simp
theorem sv_append (s t : List Nat) : sv s ++ sv t = sv (s ++ t) := by
  show (⟨s.toArray ++ t.toArray⟩ : Str) = ⟨(s ++ t).toArray⟩
  simp
theorem mx_line {n : Nat} (h : n ≤ mx) : n ≤ sizeLine := by rw [sizeLine_eq]; exact h
section
variable {X : Cx} {y : Cy}
theorem add_ok (hK : y.K = X.K) : OpR X (binaryOp .Add) (rOp y opAdd) := by
  intro pins s σ H x z v u Q I rx rz h
  obtain ⟨F, S, a, b, st, ra, rb, po⟩ := h
  have lists : Post y F H (catL a b S) y.R WT Q → wpAny (model X.prog X.w) X.A (binaryOp .Add v u) (EP X pins σ Q) X.xe s := by
    intro po
    unfold catL at po
    cases e : lstOf S a with
    | none => rw [e] at po; exact po.bad.elim
    | some xs =>
      rw [e] at po
      cases eb : lstOf S b with
      | none => rw [eb] at po; exact po.bad.elim
      | some ys =>
        rw [eb] at po
        dsimp only at po
        split at po
        · rename_i hl
          obtain ⟨p, us, rfl, hp, rl⟩ := lstOf_R st ra e
          obtain ⟨q, ws, rfl, hq, rl2⟩ := lstOf_R st rb eb
          refine op_cat pins s σ H _ _ v u Q I rx rz ⟨p, q, us, ws, rfl, rfl, hp, hq, ?_, fun n hn => ?_⟩
          · rw [← rl.length, ← rl2.length]; exact mx_line hl
          · exact po.newL st (rl.append rl2) hn
        · exact po.bad.elim
  cases a with
  | int i =>
    cases b with
    | int j =>
      obtain rfl := ra.of_int
      obtain rfl := rb.of_int
      exact op_add pins s σ H _ _ v u Q I rx rz ⟨i, j, rfl, rfl, po.int st⟩
    | _ => exact po.bad.elim
  | str i =>
    cases b with
    | str j =>
      obtain rfl := ra.of_str
      obtain rfl := rb.of_str
      simp only [opAdd] at po
      split at po
      · rename_i hl
        refine op_add_str pins s σ H _ _ v u Q I rx rz ⟨_, _, rfl, rfl, ?_, ?_⟩
        · rw [size_sv, size_sv]; exact mx_line hl
        · rw [sv_append]; exact po.str st
      · exact po.bad.elim
    | _ => exact po.bad.elim
  | tup xs =>
    cases b with
    | tup ys =>
      simp only [opAdd] at po
      split at po
      · rename_i hl
        obtain ⟨p, us, rfl, hp, rl⟩ := ra.of_tup
        obtain ⟨q, ws, rfl, hq, rl2⟩ := rb.of_tup
        rw [hK] at hp hq
        have l1 := rl.length
        have l2 := rl2.length
        refine op_catA pins s σ H _ _ v u Q I rx rz ⟨p, q, us, ws, rfl, rfl, hp.sq, hq.sq, ?_, fun e => ?_, fun e e2 => ?_, fun _ _ n hn => ?_⟩
        · rw [← l1, ← l2]; exact mx_line hl
        · have e3 : xs = [] := List.length_eq_zero_iff.mp (by rw [l1, e]; rfl)
          subst e3
          exact po.ok st rb
        · have e3 : ys = [] := List.length_eq_zero_iff.mp (by rw [l2, e2]; rfl)
          subst e3
          rw [List.append_nil] at po
          exact po.ok st ra
        · exact po.newT st (rl.append rl2) hn
      · exact po.bad.elim
    | _ => exact po.bad.elim
  | lst xs => exact lists po
  | loc n => exact lists po
  | scr n => exact lists po
  | non => exact lists po
  | bl b => exact lists po
theorem sub_ok : OpR X (binaryOp .Sub) (rOp y opSub) := by
  intro pins s σ H x z v u Q I rx rz h
  obtain ⟨F, S, a, b, st, ra, rb, po⟩ := h
  cases a with
  | int i =>
    cases b with
    | int j =>
      obtain rfl := ra.of_int
      obtain rfl := rb.of_int
      exact op_sub pins s σ H _ _ v u Q I rx rz ⟨i, j, rfl, rfl, po.int st⟩
    | _ => exact po.bad.elim
  | _ => exact po.bad.elim
theorem nat_lt_abs {i : Int} {n : Nat} (h : i.natAbs < n) : -(n : Int) < i ∧ i < n := by omega
theorem mul_ok (hK : y.K = X.K) : OpR X (binaryOp .Mult) (rOp y opMul) := by
  intro pins s σ H x z v u Q I rx rz h
  obtain ⟨F, S, a, b, st, ra, rb, po⟩ := h
  cases b with
  | int j =>
    obtain rfl := rb.of_int
    have lists : Post y F H (repL a j S) y.R WT Q → wpAny (model X.prog X.w) X.A (binaryOp .Mult v u) (EP X pins σ Q) X.xe s := by
      intro po
      unfold repL at po
      cases e : lstOf S a with
      | none => rw [e] at po; exact po.bad.elim
      | some xs =>
        rw [e] at po
        dsimp only at po
        split at po
        · rename_i hl
          obtain ⟨p, us, rfl, hp, rl⟩ := lstOf_R st ra e
          refine op_rep pins s σ H _ _ v u Q I rx rz ⟨p, j, us, rfl, rfl, hp, hl.1, hl.2.1, ?_, fun n hn => ?_⟩
          · rw [← rl.length]; exact mx_line hl.2.2
          · exact po.newL st (rl.rep _) hn
        · exact po.bad.elim
    cases a with
    | int i =>
      obtain rfl := ra.of_int
      simp only [opMul] at po
      split at po
      · rename_i hm
        unfold mulOk at hm
        simp only [Bool.or_eq_true, decide_eq_true_eq] at hm
        rcases hm with hm | hm | hm
        · exact op_mul pins s σ H _ _ v u Q I rx rz ⟨i, j, rfl, rfl, .inl (by have := nat_lt_abs hm; omega), po.int st⟩
        · exact op_mul pins s σ H _ _ v u Q I rx rz ⟨i, j, rfl, rfl, .inr (by have := nat_lt_abs hm; omega), po.int st⟩
        · exact op_mulW pins s σ H _ _ v u Q I rx rz ⟨i, j, rfl, rfl, hm, po.int st⟩
      · exact po.bad.elim
    | lst xs => exact lists po
    | loc n => exact lists po
    | scr n => exact lists po
    | str _ => exact lists po
    | non => exact lists po
    | bl b => exact lists po
    | tup xs =>
      simp only [opMul] at po
      split at po
      · rename_i h
        obtain ⟨p, us, rfl, t, rl⟩ := ra.of_tup
        rw [hK] at t
        refine op_repT pins s σ H _ _ v u Q I rx rz ⟨p, j, us, rfl, rfl, t.sq, ?_, h.2.1, h.2.2.1, by rw [← rl.length]; exact h.2.2.2, fun n hn => po.newT st (rl.rep _) hn⟩
        intro e
        subst e
        have := rl.length
        cases xs <;> simp at this h
      · exact po.bad.elim
  | _ => exact po.bad.elim
theorem fdiv_ok : OpR X (binaryOp .FloorDiv) (rOp y opFdiv) := by
  intro pins s σ H x z v u Q I rx rz h
  obtain ⟨F, S, a, b, st, ra, rb, po⟩ := h
  cases a with
  | int i =>
    cases b with
    | int j =>
      obtain rfl := ra.of_int
      obtain rfl := rb.of_int
      simp only [opFdiv] at po
      split at po
      · rename_i h0
        split at po
        · rename_i h1
          rcases h1 with h1 | h1
          · refine op_fdivN pins s σ H _ _ v u Q I rx rz ⟨i, j, rfl, rfl, ⟨by omega, by omega⟩, ?_⟩
            show Q (.int (i.fdiv j)) H
            rw [Int.fdiv_eq_ediv_of_nonneg i (by omega)]
            exact po.int st
          · exact op_fdivW pins s σ H _ _ v u Q I rx rz ⟨i, j, rfl, rfl, ⟨h0, h1⟩, po.int st⟩
        · exact po.bad.elim
      · split at po
        · rename_i h1
          exact op_fdivN pins s σ H _ _ v u Q I rx rz ⟨i, j, rfl, rfl, ⟨by omega, by omega⟩, po.int st⟩
        · exact po.bad.elim
    | _ => exact po.bad.elim
  | _ => exact po.bad.elim
theorem mod_ok : OpR X (binaryOp .Mod) (rOp y opMod) := by
  intro pins s σ H x z v u Q I rx rz h
  obtain ⟨F, S, a, b, st, ra, rb, po⟩ := h
  cases a with
  | int i =>
    cases b with
    | int j =>
      obtain rfl := ra.of_int
      obtain rfl := rb.of_int
      simp only [opMod] at po
      split at po
      · rename_i h0
        refine op_modN pins s σ H _ _ v u Q I rx rz ⟨i, j, rfl, rfl, by omega, ?_⟩
        show Q (.int (i.fmod j)) H
        rw [Int.fmod_eq_emod_of_nonneg i (by omega)]
        exact po.int st
      · split at po
        · exact op_modN pins s σ H _ _ v u Q I rx rz ⟨i, j, rfl, rfl, by omega, po.int st⟩
        · exact po.bad.elim
    | _ => exact po.bad.elim
  | _ => exact po.bad.elim
theorem pow_ok : OpR X (binaryOp .Pow) (rOp y opPow) := by
  intro pins s σ H x z v u Q I rx rz h
  obtain ⟨F, S, a, b, st, ra, rb, po⟩ := h
  cases a with
  | int i =>
    cases b with
    | int j =>
      obtain rfl := ra.of_int
      obtain rfl := rb.of_int
      simp only [opPow] at po
      split at po
      · rename_i h0
        exact op_pow pins s σ H _ _ v u Q I rx rz ⟨i, j, rfl, rfl, ⟨h0.1, h0.2.1, h0.2.2⟩, po.int st⟩
      · exact po.bad.elim
    | _ => exact po.bad.elim
  | _ => exact po.bad.elim
theorem binop_ok (hK : y.K = X.K) (o : BOp) : OpR X (binaryOp o.py) (rOp y (binop o)) := by
  cases o with
  | add => exact add_ok hK
  | sub => exact sub_ok
  | mul => exact mul_ok hK
  | fdiv => exact fdiv_ok
  | mod => exact mod_ok
  | pow => exact pow_ok
/-! ### comparisons -/
theorem Post.ofB {F : Fs} {H : Hp} {S : Store} {o : Option Bool} {Q : VK} (h : Post y F H (ofB o S) y.R WT Q) (s : y.St F S H) : ∃ b, o = some b ∧ Q (.bl b) H := by
  cases o with
  | none => exact h.bad.elim
  | some b => exact ⟨b, rfl, h.bl s⟩
theorem sv_lt (s t : List Nat) : decide ((sv s).cps.toList < (sv t).cps.toList) = decide (s < t) := decide_eq_decide.mpr (by simp [sv])
theorem units64 {k : Nat} (hr : Room k X.A) : X.A.units + 65 < cLine := by have := hr.un; omega
theorem lt_ok : OpR X (compareOp .Lt) (rOp y (cmpop .lt)) := by
  intro pins s σ H x z v u Q I rx rz h
  obtain ⟨F, S, a, b, st, ra, rb, po⟩ := h
  obtain ⟨k, e, q⟩ := Post.ofB po st
  cases a with
  | int i =>
    cases b with
    | int j =>
      obtain rfl := ra.of_int
      obtain rfl := rb.of_int
      have : decide (i < j) = k := by simpa [ltOf] using e
      subst this
      exact op_lt pins s σ H _ _ v u Q I rx rz ⟨i, j, rfl, rfl, q⟩
    | _ => simp [ltOf] at e
  | str i =>
    cases b with
    | str j =>
      obtain rfl := ra.of_str
      obtain rfl := rb.of_str
      have : decide (i < j) = k := by simpa [ltOf] using e
      subst this
      exact op_lt_str pins s σ H _ _ v u Q I rx rz ⟨_, _, rfl, rfl, by rw [sv_lt]; exact q⟩
    | _ => simp [ltOf] at e
  | _ => simp [ltOf] at e
theorem le_ok : OpR X (compareOp .LtE) (rOp y (cmpop .le)) := by
  intro pins s σ H x z v u Q I rx rz h
  obtain ⟨F, S, a, b, st, ra, rb, po⟩ := h
  obtain ⟨k, e, q⟩ := Post.ofB po st
  cases a with
  | int i =>
    cases b with
    | int j =>
      obtain rfl := ra.of_int
      obtain rfl := rb.of_int
      have : decide (i ≤ j) = k := by simpa [leOf] using e
      subst this
      exact op_le pins s σ H _ _ v u Q I rx rz ⟨i, j, rfl, rfl, q⟩
    | _ => simp [leOf] at e
  | _ => simp [leOf] at e
theorem gt_ok : OpR X (compareOp .Gt) (rOp y (cmpop .gt)) := by
  intro pins s σ H x z v u Q I rx rz h
  obtain ⟨F, S, a, b, st, ra, rb, po⟩ := h
  obtain ⟨k, e, q⟩ := Post.ofB po st
  cases a with
  | int i =>
    cases b with
    | int j =>
      obtain rfl := ra.of_int
      obtain rfl := rb.of_int
      have : decide (j < i) = k := by simpa [gtOf] using e
      subst this
      exact op_gt pins s σ H _ _ v u Q I rx rz ⟨i, j, rfl, rfl, q⟩
    | _ => simp [gtOf] at e
  | _ => simp [gtOf] at e
theorem ge_ok : OpR X (compareOp .GtE) (rOp y (cmpop .ge)) := by
  intro pins s σ H x z v u Q I rx rz h
  obtain ⟨F, S, a, b, st, ra, rb, po⟩ := h
  obtain ⟨k, e, q⟩ := Post.ofB po st
  cases a with
  | int i =>
    cases b with
    | int j =>
      obtain rfl := ra.of_int
      obtain rfl := rb.of_int
      have : decide (j ≤ i) = k := by simpa [geOf] using e
      subst this
      exact op_ge pins s σ H _ _ v u Q I rx rz ⟨i, j, rfl, rfl, q⟩
    | _ => simp [geOf] at e
  | _ => simp [geOf] at e
theorem isNon_ok {F : Fs} {H : Hp} {S : Store} {a : Val} {x : V} {k : Bool} (st : y.St F S H) (ra : y.R F H a x) (e : isNon S a = some k) : decide (x = V.non) = k := by
  cases a with
  | non => rw [ra.of_non]; simpa [isNon] using e
  | bl _ => rw [ra.of_bl]; simpa [isNon] using e
  | int _ => rw [ra.of_int]; simpa [isNon] using e
  | str _ => rw [ra.of_str]; simpa [isNon] using e
  | tup _ =>
    obtain ⟨a, us, q, _⟩ := ra.of_tup
    rw [q]; simpa [isNon] using e
  | lst _ =>
    obtain ⟨a, us, q, _⟩ := ra.of_lst
    rw [q]; simpa [isNon] using e
  | scr ns =>
    simp only [Cy.R, R] at ra
    obtain ⟨a, q, _⟩ := ra
    rw [q]; simpa [isNon] using e
  | loc n =>
    cases q : S[n]? with
    | none => simp [isNon, q] at e
    | some ob =>
      cases ob with
      | dead => simp [isNon, q] at e
      | lst xs =>
        obtain ⟨a, us, h1, _⟩ := st.lst q
        rw [ra.loc_ref h1]
        simpa [isNon, q] using e
      | frz xs =>
        obtain ⟨a, o, us, h1, _⟩ := st.frz q
        rw [ra.loc_ref h1]
        simpa [isNon, q] using e
theorem isn_ok : OpR X (compareOp .Is) (rOp y (cmpop .isn)) := by
  intro pins s σ H x z v u Q I rx rz h
  obtain ⟨F, S, a, b, st, ra, rb, po⟩ := h
  cases b with
  | non =>
    obtain rfl := rb.of_non
    obtain ⟨k, e, q⟩ := Post.ofB (show Post y F H (ofB (isNon S a) S) y.R WT Q from po) st
    exact op_isN pins s σ H _ _ v u Q I rx rz ⟨rfl, by rw [isNon_ok st ra e]; exact q⟩
  | _ => exact po.bad.elim
theorem notn_ok : OpR X (compareOp .IsNot) (rOp y (cmpop .notn)) := by
  intro pins s σ H x z v u Q I rx rz h
  obtain ⟨F, S, a, b, st, ra, rb, po⟩ := h
  cases b with
  | non =>
    obtain rfl := rb.of_non
    obtain ⟨k, e, q⟩ := Post.ofB (show Post y F H (ofB ((isNon S a).map not) S) y.R WT Q from po) st
    cases e2 : isNon S a with
    | none => rw [e2] at e; cases e
    | some k2 =>
      rw [e2] at e
      have : (!k2) = k := by simpa using e
      subst this
      exact op_notN pins s σ H _ _ v u Q I rx rz ⟨rfl, by rw [isNon_ok st ra e2]; exact q⟩
  | _ => exact po.bad.elim
theorem eqOf_inv {S : Store} {a b : Val} {k : Bool} (e : eqOf S a b = some k) : (top S a).dat = true ∧ (top S b).dat = true ∧ (top S a).dep ≤ 64 ∧ k = Val.eqv (top S a) (top S b) := by
  have gen : (if (top S a).dat && ((top S b).dat && (decide ((top S a).dep ≤ 64) && decide ((top S b).dep ≤ 64))) then some (Val.eqv (top S a) (top S b)) else none) = some k → (top S a).dat = true ∧ (top S b).dat = true ∧ (top S a).dep ≤ 64 ∧ k = Val.eqv (top S a) (top S b) := fun e => by
    split at e
    · rename_i h
      simp only [Bool.and_eq_true, decide_eq_true_eq] at h
      exact ⟨h.1, h.2.1, h.2.2.1, (Option.some.inj e).symm⟩
    · cases e
  have gen2 : ∀ i, a = .int i → (if (top S b).dat = true then some (Val.eqv (.int i) (top S b)) else none) = some k → (top S a).dat = true ∧ (top S b).dat = true ∧ (top S a).dep ≤ 64 ∧ k = Val.eqv (top S a) (top S b) := fun i ea e3 => by
    subst ea
    split at e3
    · rename_i h
      exact ⟨by simp [top, Val.dat], h, by simp [top, Val.dep], (Option.some.inj e3).symm⟩
    · cases e3
  cases a with
  | int i =>
    cases b with
    | int j =>
      have : (i == j) = k := by simpa [eqOf] using e
      subst this
      exact ⟨by simp [top, Val.dat], by simp [top, Val.dat], by simp [top, Val.dep], by simp [top, Val.eqv]⟩
    | _ => exact gen2 i rfl e
  | _ => exact gen e
theorem eq_raw {F : Fs} {H : Hp} {S : Store} {a b : Val} {x z : V} {v u : Value} {pins : List (Addr × Obj)} {s : Shared} {σ : L2.St} {k : Bool} (hK : y.K = X.K) (I : Inv X pins σ H s) (st : y.St F S H) (ra : y.R F H a x) (rb : y.R F H b z)
    (rx : RelV x v) (rz : RelV z u) (e : eqOf S a b = some k) : ∃ as bs, Reads s.heap v (toD (top S a)) as ∧ Reads s.heap u (toD (top S b)) bs ∧ (toD (top S a)).canLay0 = true ∧ (toD (top S b)).canLay0 = true ∧ (toD (top S a)).depth ≤ 64 ∧ PyData.eqv (toD (top S a)) (toD (top S b)) = k := by
  obtain ⟨d1, d2, d3, rfl⟩ := eqOf_inv e
  obtain ⟨as, r1⟩ := Dp.reads I _ x v (by rw [← hK]; exact dp_top st ra d1) rx
  obtain ⟨bs, r2⟩ := Dp.reads I _ z u (by rw [← hK]; exact dp_top st rb d2) rz
  exact ⟨as, bs, r1, r2, lay_of d1, lay_of d2, by rw [dep_of]; exact d3, eqv_of d1 d2⟩
theorem eq_ok (hK : y.K = X.K) {n : Nat} (hr : Room n X.A) : OpR X (compareOp .Eq) (rOp y (cmpop .eq)) := by
  intro pins s σ H x z v u Q I rx rz h
  obtain ⟨F, S, a, b, st, ra, rb, po⟩ := h
  obtain ⟨k, e, q⟩ := Post.ofB po st
  obtain ⟨as, bs, r1, r2, l1, l2, dp, ev⟩ := eq_raw hK I st ra rb rx rz e
  have hu := units64 hr
  have hm : min (toD (top S a)).depth (toD (top S b)).depth ≤ 64 := Nat.le_trans (Nat.min_le_left _ _) dp
  exact SeqAt.compareEq_reads r1 r2 l1 l2 (by omega) ⟨.bl k, H, I, by rw [ev]; rfl, q⟩
theorem ne_ok (hK : y.K = X.K) {n : Nat} (hr : Room n X.A) : OpR X (compareOp .NotEq) (rOp y (cmpop .ne)) := by
  intro pins s σ H x z v u Q I rx rz h
  obtain ⟨F, S, a, b, st, ra, rb, po⟩ := h
  obtain ⟨k, e, q⟩ := Post.ofB (show Post y F H (ofB ((eqOf S a b).map not) S) y.R WT Q from po) st
  cases e2 : eqOf S a b with
  | none => rw [e2] at e; cases e
  | some k2 =>
    rw [e2] at e
    have : (!k2) = k := by simpa using e
    subst this
    obtain ⟨as, bs, r1, r2, l1, l2, dp, ev⟩ := eq_raw hK I st ra rb rx rz e2
    have hu := units64 hr
    have hm : min (toD (top S a)).depth (toD (top S b)).depth ≤ 64 := Nat.le_trans (Nat.min_le_left _ _) dp
    exact SeqAt.compareNe_reads r1 r2 l1 l2 (by omega) ⟨.bl _, H, I, by rw [ev]; rfl, q⟩
/-- in, by data -/
theorem mem_raw {F : Fs} {H : Hp} {S : Store} {a b : Val} {x z : V} {v u : Value} {pins : List (Addr × Obj)} {s : Shared} {σ : L2.St} {k : Bool} (hK : y.K = X.K) (I : Inv X pins σ H s) (st : y.St F S H) (ra : y.R F H a x) (rb : y.R F H b z)
    (rx : RelV x v) (rz : RelV z u) (e : memOf S a b = some k) (hb : ∀ t, b ≠ .str t) : ∃ ds d as bs, (Reads s.heap u (.list ds) as ∨ Reads s.heap u (.tuple ds) as) ∧ Reads s.heap v d bs ∧ PyData.canLayAll0 ds = true ∧ d.canLay0 = true ∧ d.depth ≤ 64 ∧ (ds.any fun z => PyData.eqv z d) = k := by
  have e' : (match items S b with
    | some xs => if Val.dats xs && ((top S a).dat && decide ((top S a).dep ≤ 64)) then some (xs.any fun y => Val.eqv y (top S a)) else none
    | none => none) = some k := by
    cases b with
    | str t => exact absurd rfl (hb t)
    | _ => exact e
  cases ei : items S b with
  | none => rw [ei] at e'; cases e'
  | some xs =>
    rw [ei] at e'
    dsimp only at e'
    split at e'
    · rename_i h
      simp only [Bool.and_eq_true, decide_eq_true_eq] at h
      obtain ⟨bs, r1⟩ := Dp.reads I _ x v (by rw [← hK]; exact dp_top st ra h.2.1) rx
      obtain ⟨p, us, rfl, rl, sq⟩ := items_R st rb ei
      have da : DpAll X.K H us (toDs xs) := by rw [← hK]; exact dps_of h.1 rl
      rw [hK] at sq
      have ek := Option.some.inj e'
      rcases sq with ⟨sq, _⟩ | ⟨sq, _⟩
      · obtain ⟨as, r2⟩ := Dp.reads I (.list (toDs xs)) _ u (.lst sq da) rz
        exact ⟨toDs xs, _, as, bs, .inl r2, r1, lays_of h.1, lay_of h.2.1, by rw [dep_of]; exact h.2.2, by rw [any_eqv h.2.1 h.1]; exact ek⟩
      · obtain ⟨as, r2⟩ := Dp.reads I (.tuple (toDs xs)) _ u (.tup sq da) rz
        exact ⟨toDs xs, _, as, bs, .inr r2, r1, lays_of h.1, lay_of h.2.1, by rw [dep_of]; exact h.2.2, by rw [any_eqv h.2.1 h.1]; exact ek⟩
    · cases e'
theorem memStr {S : Store} {a : Val} {t : List Nat} {k : Bool} (e : memOf S a (.str t) = some k) : ∃ c, a = .str [c] ∧ k = decide (c ∈ (sv t).cps.toList) := by
  cases a with
  | str s =>
    match s, e with
    | [c], e =>
      refine ⟨c, rfl, ?_⟩
      have : t.contains c = k := by simpa [memOf] using e
      rw [← this, Bool.eq_iff_iff]
      simp [sv]
      exact decide_eq_true_iff.symm
  | _ => simp [memOf] at e
theorem mem_ok (hK : y.K = X.K) {n : Nat} (hr : Room n X.A) : OpR X (compareOp .In) (rOp y (cmpop .mem)) := by
  intro pins s σ H x z v u Q I rx rz h
  obtain ⟨F, S, a, b, st, ra, rb, po⟩ := h
  obtain ⟨k, e, q⟩ := Post.ofB (show Post y F H (ofB (memOf S a b) S) y.R WT Q from po) st
  by_cases hb : ∀ t, b ≠ .str t
  · obtain ⟨ds, d, as, bs, r2, r1, l2, l1, dp, ev⟩ := mem_raw hK I st ra rb rx rz e hb
    have hu := units64 hr
    have hm : min (PyData.depthAll ds) d.depth ≤ 64 := Nat.le_trans (Nat.min_le_right _ _) dp
    rcases r2 with r2 | r2
    · exact SeqAt.in_list_reads r2 r1 l2 l1 (by omega) ⟨.bl k, H, I, by rw [ev]; rfl, q⟩
    · exact SeqAt.in_tuple_reads r2 r1 l2 l1 (by omega) ⟨.bl k, H, I, by rw [ev]; rfl, q⟩
  · cases b with
    | str t =>
      obtain ⟨c, rfl, ek⟩ := memStr e
      obtain rfl := ra.of_str
      obtain rfl := rb.of_str
      exact op_in_sign pins s σ H _ _ v u Q I rx rz ⟨c, sv t, rfl, rfl, by rw [← ek]; exact q⟩
    | _ => exact absurd (fun t z => by cases z) hb
theorem nmem_ok (hK : y.K = X.K) {n : Nat} (hr : Room n X.A) : OpR X (compareOp .NotIn) (rOp y (cmpop .nmem)) := by
  intro pins s σ H x z v u Q I rx rz h
  obtain ⟨F, S, a, b, st, ra, rb, po⟩ := h
  obtain ⟨k, e, q⟩ := Post.ofB (show Post y F H (ofB ((memOf S a b).map not) S) y.R WT Q from po) st
  cases e2 : memOf S a b with
  | none => rw [e2] at e; cases e
  | some k2 =>
    rw [e2] at e
    have : (!k2) = k := by simpa using e
    subst this
    by_cases hb : ∀ t, b ≠ .str t
    · obtain ⟨ds, d, as, bs, r2, r1, l2, l1, dp, ev⟩ := mem_raw hK I st ra rb rx rz e2 hb
      have hu := units64 hr
      have hm : min (PyData.depthAll ds) d.depth ≤ 64 := Nat.le_trans (Nat.min_le_right _ _) dp
      rcases r2 with r2 | r2
      · exact SeqAt.notIn_list_reads r2 r1 l2 l1 (by omega) ⟨.bl (!k2), H, I, by rw [ev]; rfl, q⟩
      · exact SeqAt.notIn_tuple_reads r2 r1 l2 l1 (by omega) ⟨.bl (!k2), H, I, by rw [ev]; rfl, q⟩
    · cases b with
      | str t =>
        obtain ⟨c, rfl, ek⟩ := memStr e2
        obtain rfl := ra.of_str
        obtain rfl := rb.of_str
        exact op_notIn_sign pins s σ H _ _ v u Q I rx rz ⟨c, sv t, rfl, rfl, by rw [← ek]; exact q⟩
      | _ => exact absurd (fun t z => by cases z) hb
theorem cmpop_ok (hK : y.K = X.K) {n : Nat} (hr : Room n X.A) (o : COp) : OpR X (compareOp o.py) (rOp y (cmpop o)) := by
  cases o with
  | lt => exact lt_ok
  | le => exact le_ok
  | gt => exact gt_ok
  | ge => exact ge_ok
  | eq => exact eq_ok hK hr
  | ne => exact ne_ok hK hr
  | isn => exact isn_ok
  | notn => exact notn_ok
  | mem => exact mem_ok hK hr
  | nmem => exact nmem_ok hK hr
end
end DI
/-! DI4: where one stands; the expressions one by one. -/
namespace DI
open PySem PySem.Spec PyProof.Rows L2
/-! ### how arguments are bound -/
def kwFine (ps : List Str) : List (Str × Value) → List (Str × Value) → Prop
  | _, [] => True
  | sl, (k, v) :: r => ps.contains k = true ∧ (sl.lookup k).isSome = false ∧ kwFine ps (sl ++ [(k, v)]) r
theorem loop_kw (ps : List Str) (f : (Str × Value) → (List (Str × Value) × List (Str × Value)) → Sem (ForInStep (List (Str × Value) × List (Str × Value))))
    (hf : ∀ x s, ps.contains x.1 = true → (List.lookup x.1 s.1).isSome = false → f x s = pure (.yield (s.1 ++ [(x.1, x.2)], s.2))) :
    ∀ (kw sl ex : List (Str × Value)), kwFine ps sl kw → forIn kw (sl, ex) f = pure (sl ++ kw, ex)
  | [], sl, ex, _ => by rw [List.forIn_nil, List.append_nil]
  | (k, v) :: r, sl, ex, h => by
    rw [List.forIn_cons, hf (k, v) (sl, ex) h.1 h.2.1]
    have e := loop_kw ps f hf r (sl ++ [(k, v)]) ex h.2.2
    rw [List.append_assoc] at e
    exact e
theorem bind_plain {fd : FuncData} {ps : List Str} (h1 : fd.params.posonlyargs = []) (h2 : fd.params.args.map (·.arg) = ps) (h3 : fd.params.vararg = none) (h4 : fd.params.kwonlyargs = []) (h5 : fd.params.kwarg = none)
    (hd : fd.defaults = .none) (us : List Value) (kw : List (Str × Value)) (hl : us.length ≤ ps.length) (hk : kwFine ps (ps.zip us) kw) (hall : ∀ n ∈ ps, ((ps.zip us ++ kw).lookup n).isNone = false) :
    bindArgs fd ⟨us, kw⟩ = pure (ps.filterMap fun n => ((ps.zip us ++ kw).lookup n).map (n, ·)) := by
  unfold bindArgs
  simp only [h1, h2, h3, h4, h5, hd, List.map_nil, List.nil_append, List.append_nil]
  refine Eq.trans (congrArg (fun t => Bind.bind t _) (loop_kw ps _ (fun x s a b => ?hf) kw (ps.zip us) [] hk)) ?rest
  case hf =>
    simp only [a, b, Bool.true_or, if_true, Bool.false_eq_true, if_false]
  case rest =>
    have hm : List.filter (fun n => (List.lookup n (ps.zip us ++ kw)).isNone) (List.take ps.length ps) = [] := by
      rw [List.take_length, List.filter_eq_nil_iff]
      intro n hn
      rw [hall n hn]
      simp
    have hg : ¬ (us.length > ps.length) := by omega
    have pb : ∀ {α β : Type} (a : α) (f : α → Sem β), (Bind.bind (pure a) f : Sem β) = f a := fun a f => rfl
    have hs : seqItems? Value.none = pure none := by rfl
    simp only [hs, pb, hg, decide_false, Bool.false_and, if_false, Option.getD_none, List.drop_nil, List.length_nil, Nat.sub_zero, hm, List.isEmpty_nil, Bool.not_true, Bool.false_eq_true, List.drop_length, List.zip_nil_left, List.forIn_nil, Nat.zero_sub, List.drop_zero]
/-! ### where one stands -/
def CstOk (K : PySem.W.Frag) : Cst → Value → Prop
  | .int i, u => ∃ t, u = .int i t
  | .str s, u => ∃ t, u = .str (sv s) t
  | .tup xs, u => ∃ a, u = .ref a ∧ KT K a (xs.map V.int)
/-- what a function of the program promises -/
def spI (P : Pg) (K : PySem.W.Frag) (mg : Str → Option Value) (k f : Nat) : Sp := fun vs H Q E => ∃ Z F S args d, P.fns f = some d ∧ args.length = d.ps.length ∧ DI.StOk K Z F S H ∧ DI.RL K Z F H args vs ∧
  Post ⟨P, run P k, K, mg, Z⟩ F H (run P k f args S) (DI.R K Z) E Q
structure FnAt (P : Pg) (k : Nat) (pr : Program) (w : World) (K : PySem.W.Frag) (mg : Str → Option Value) (base : Heap) (f : Nat) (d : Fn) (fa : Addr) (fd : FuncData) : Prop where
  hm : mg (P.fnm f) = some (.ref fa)
  nd : ((P.fnm f : Str) == ("__debug__" : Str)) = false
  kp : PySem.W.keepIn K (.ref fa) = true
  p1 : fd.params.posonlyargs = []
  p2 : fd.params.args.map (·.arg) = d.ps
  p3 : fd.params.vararg = none
  p4 : fd.params.kwonlyargs = []
  p5 : fd.params.kwarg = none
  p6 : fd.defaults = .none
  nod : d.ps.Nodup
  ok : FnOk pr w K mg base (L2.CX pr w) k fa fd d.ps (spI P K mg k f)
def bltNames : List Str := ["len", "abs", "int", "tuple", "list", "sum", "all", "any", "max", "min", "isinstance", "range", "enumerate", "zip", "sorted", "set", "bool", "str", "dict"]
structure Good (P : Pg) (k : Nat) (N : List Str) (sc : List (Str × NameKind)) (so : List Str) (X : Cx) : Prop where
  hN : X.N = N
  nd : N.Nodup
  sc : X.env.scope.names = sc
  kind : X.env.scope.kind = .function
  sto : ∀ x, so.contains x = true → Loc X.env.scope x ∧ (X.fn x = true ∨ X.env.scope.names.lookup x = some .local)
  calm : X.calm = true
  room : Room k X.A
  cst : ∀ i c, P.cst i = some c → ∃ u, X.mg (P.cnm i) = some u ∧ CstOk X.K c u
  blt : ∀ x ∈ bltNames, X.mg x = none
  fns : ∀ f d, P.fns f = some d → ∃ fa fd, FnAt P k X.prog X.w X.K X.mg X.base f d fa fd
def cy (P : Pg) (k : Nat) (X : Cx) (Z : Addr → Prop) : Cy := ⟨P, run P k, X.K, X.mg, Z⟩
theorem PE.weak {X : Cx} {e : Expr} {t t' : TE} (h : PE X e t) (w : ∀ σ H Q, t' σ H Q → t σ H Q) : PE X e t' := ⟨fun pins s σ H Q I q => h.run pins s σ H Q I (w σ H Q q)⟩
theorem PT.weak {X : Cx} {e : Expr} {t t' : TT} (h : PT X e t) (w : ∀ σ H Q, t' σ H Q → t σ H Q) : PT X e t' := ⟨fun pins s σ H Q I q => h.run pins s σ H Q I (w σ H Q q)⟩
theorem PW.weak {X : Cx} {e : Expr} {t t' : TT} (h : PW X e t) (w : ∀ σ H Q, t' σ H Q → t σ H Q) : PW X e t' := ⟨fun wh pins s σ H Q I q => h.run wh pins s σ H Q I (w σ H Q q)⟩
theorem PA.weak {X : Cx} {e : List Expr} {t t' : TA} (h : PA X e t) (w : ∀ σ H Q, t' σ H Q → t σ H Q) : PA X e t' := ⟨fun p pins s σ H Q I q => h.run p pins s σ H Q I (w σ H Q q)⟩
theorem PO.weak {X : Cx} {e : Option Expr} {t t' : TO} (h : PO X e t) (w : ∀ σ H Q, t' σ H Q → t σ H Q) : PO X e t' := ⟨fun pins s σ H Q I q => h.run pins s σ H Q I (w σ H Q q)⟩
/-! ### readings -/
section
variable (y : Cy) (W : WX)
def tE (e : Ex) : TE := fun σ H Q => ∃ F S r, y.St F S H ∧ y.En F H r σ ∧ Post y F H (ev y.P y.C e r S) y.R (fun c d H' => W c d σ H') Q
def eqA {α : Type} : Fs → Hp → α → α → Prop := fun _ _ a b => a = b
def tTe (e : Ex) : TT := fun σ H Q => ∃ F S r, y.St F S H ∧ y.En F H r σ ∧ Post y F H ((ev y.P y.C e r S).bind tru) eqA (fun c d H' => W c d σ H') Q
def tAs (es : Exs) : TA := fun σ H Q => ∃ F S r, y.St F S H ∧ y.En F H r σ ∧ Post y F H (evs y.P y.C es r S) y.RL (fun c d H' => W c d σ H') Q
def tOx (o : OEx) : TO := fun σ H Q => ∃ F S r, y.St F S H ∧ y.En F H r σ ∧ Post y F H (evo y.P y.C o r S) eqA (fun c d H' => W c d σ H') Q
def rlK (y : Cy) : Fs → Hp → List (Nat × Val) → List V → Prop := fun F H a b => y.RL F H (a.map (·.2)) b
def tKs (ks : Kws) : TA := fun σ H Q => ∃ F S r, y.St F S H ∧ y.En F H r σ ∧ Post y F H (evk y.P y.C ks r S) (rlK y) (fun c d H' => W c d σ H') Q
end
/-- a new list: nothing else speaks of it -/
def PostN (y : Cy) (F : Fs) (H : Hp) (r : Out (List Val)) (W : WK) (Q : VK) : Prop := match r with
  | .ok xs S' => ∀ F' H' p us, y.Kp F H F' H' → StOk y.K (hide y.Z p) F' S' H' → H p = none → H' p = some (.lst us) → RL y.K (hide y.Z p) F' H' xs us → Q (.ref p) H'
  | .exn x S' => ∀ F' H' c d, y.Kp F H F' H' → y.St F' S' H' → XR y F' H' x c d → W c d H'
  | .bad => False
def tN (y : Cy) (W : WX) (n : Nl) : TE := fun σ H Q => ∃ F S r, y.St F S H ∧ y.En F H r σ ∧ PostN y F H (evn y.P y.C n r S) (fun c d H' => W c d σ H') Q
section
variable {y : Cy} {F F' : Fs} {H H' : Hp} {S : Store} {W : WK} {Q : VK} {α β : Type}
theorem Keep.free (k : Keep y.Z F H F' H') {p : Addr} (h : H' p = none) : H p = none := by
  cases q : H p with
  | none => rfl
  | some o => exact absurd h (k.dom p (by rw [q]; simp))
theorem PostN.keep {r : Out (List Val)} (k : y.Kp F H F' H') (h : PostN y F H r W Q) : PostN y F' H' r W Q := by
  cases r with
  | ok a S' => exact fun F2 H2 p us k2 s n e rl => h F2 H2 p us (k.trans k2) s (Keep.free k n) e rl
  | exn x S' => exact fun F2 H2 c d k2 s x => h F2 H2 c d (k.trans k2) s x
  | bad => exact h
theorem PostN.bind {r : Out α} {f : α → Store → Out (List Val)} {RA : Fs → Hp → α → β → Prop} (h : PostN y F H (r.bind f) W Q) :
    Post y F H r RA W fun b H' => ∃ F' a S', y.Kp F H F' H' ∧ y.St F' S' H' ∧ RA F' H' a b ∧ PostN y F' H' (f a S') W Q := by
  cases r with
  | ok a S' => exact fun F' H' b k s ra => ⟨F', a, S', k, s, ra, PostN.keep k h⟩
  | exn x S' => exact h
  | bad => exact h
theorem PostN.new {xs : List Val} {us : List V} (h : PostN y F H (.ok xs S) W Q) (s : y.St F S H) (rl : y.RL F H xs us) {p : Addr} (hp : H p = none) : Q (.ref p) (upd H p (.lst us)) :=
  h F _ p us (Keep.new s hp) (s.newHid hp) hp upd_same ((rl.hide hp).keep (Kp.new hp))
theorem hide_not (s : StOk y.K (hide y.Z p) F S H) (k : y.Kp F' H' F H) (n : H' p = none) (e : H p ≠ none) : ¬ mu y.Z F p := by
  rintro (m | m)
  · exact s.zl p (.inr rfl) m
  · rw [k.hid p m] at e
    exact e n
/-- .. taken as plain data, as a place -/
theorem Post.ofN {r : Out (List Val)} {m : Bool} (h : Post y F H (r.bind fun xs S1 => if m = true then .ok (.loc S1.length) (S1 ++ [.lst xs]) else .ok (.lst xs) S1) y.R W Q) : PostN y F H r W Q := by
  cases r with
  | bad => exact h
  | exn x S' => exact h
  | ok xs S' =>
    intro F' H' p us k s n e rl
    have nm := hide_not s k n (by rw [e]; simp)
    cases m with
    | false =>
      have h' : Post y F H (.ok (.lst xs) S') y.R W Q := h
      refine h' F' H' (.ref p) k (s.weak fun a z => .inl z) ?_
      simp only [Cy.R, R]
      exact ⟨p, us, rfl, e, nm, rl.weak fun a z => .inl z⟩
    | true =>
      have h' : Post y F H (.ok (.loc S'.length) (S' ++ [.lst xs])) y.R W Q := h
      have st := s.placed e rl fun z => nm (.inr z)
      refine h' (F' ++ [some p]) H' (.ref p) ⟨⟨by have := k.len; simp; omega, fun i o e2 => ?_, fun a ws ea ma => ?_, k.tup, k.frz⟩, k.hid, k.dom⟩ st ?_
      · have hl : i < F'.length := Nat.lt_of_lt_of_le (List.getElem?_eq_some_iff.mp e2).1 k.len
        rcases k.old i o e2 with q | q
        · exact .inl (by rw [List.getElem?_append_left hl]; exact q)
        · exact .inr (by rw [List.getElem?_append_left hl]; exact q)
      · obtain ⟨q1, q2⟩ := k.lst a ws ea ma
        refine ⟨q1, ?_⟩
        rintro (m | m)
        · rcases List.mem_append.mp m with m | m
          · exact q2 (.inl m)
          · have : a = p := by simpa using m
            rw [this, n] at ea
            cases ea
        · exact q2 (.inr m)
      · simp only [Cy.R, R]
        refine ⟨some p, ?_, fun a ha => by rw [Option.some.inj ha]⟩
        rw [← s.len, List.getElem?_append_right (Nat.le_refl _)]
        simp
end
/-! ### names and constants -/
def visB (sc : List (Str × NameKind)) (x : Str) : Bool := !(x == ("__debug__" : Str)) && (!(x == ("__classdict__" : Str)) && (match sc.lookup x with
  | some .local => true
  | some .cell => true
  | some .free => true
  | _ => false))
def gloB (sc : List (Str × NameKind)) (x : Str) : Bool := !(x == ("__debug__" : Str)) && (match sc.lookup x with
  | some .globalImplicit => true
  | _ => false)
section
variable {P : Pg} {k : Nat} {N : List Str} {sc : List (Str × NameKind)} {so : List Str} {X : Cx} {Z : Addr → Prop} {W : WX}
theorem Good.vis (g : Good P k N sc so X) {x : Str} (h : visB sc x = true) : Vis X.env.scope x ∧ (x == ("__debug__" : Str)) = false ∧ (x == ("__classdict__" : Str)) = false := by
  unfold visB at h
  simp only [Bool.and_eq_true, Bool.not_eq_true'] at h
  refine ⟨?_, h.1, h.2.1⟩
  unfold Vis
  rw [g.sc]
  have h3 := h.2.2
  split at h3
  · rename_i e; exact .inl e
  · rename_i e; exact .inr (.inl e)
  · rename_i e; exact .inr (.inr e)
  · cases h3
theorem Good.glo (g : Good P k N sc so X) {x : Str} (h : gloB sc x = true) : Gl X x ∧ (x == ("__debug__" : Str)) = false := by
  unfold gloB at h
  simp only [Bool.and_eq_true, Bool.not_eq_true'] at h
  refine ⟨?_, h.1⟩
  show X.env.scope.names.lookup x = _
  rw [g.sc]
  have h3 := h.2
  split at h3
  · rename_i e; exact e
  · cases h3
theorem x_var (g : Good P k N sc so X) {i : Nat} {x : Str} {pos : Pos} (hi : N[i]? = some x) (h : visB sc x = true) : PE X (.Name x pos) (tE (cy P k X Z) W (.var i)) := by
  obtain ⟨h1, h2, h3⟩ := g.vis h
  refine PE.weak (pe_var (by rw [g.hN]; exact hi) h1 h2 h3) fun σ H Q ⟨F, S, r, st, en, po⟩ => ?_
  simp only [ev] at po
  split at po
  · rename_i v e
    obtain ⟨u, e1, rv⟩ := en.2 i v e
    exact ⟨u, e1, po.ok st rv⟩
  · exact po.bad.elim
theorem x_int {i : Int} {j : Nat} {pos : Pos} : PE X (.Constant (.int i) j pos) (tE (cy P k X Z) W (.int i)) := PE.weak pe_int fun σ H Q ⟨F, S, r, st, en, po⟩ => by
  simp only [ev] at po
  exact po.int st
theorem x_bl {b : Bool} {j : Nat} {pos : Pos} : PE X (.Constant (.bool b) j pos) (tE (cy P k X Z) W (.bl b)) := PE.weak pe_bl fun σ H Q ⟨F, S, r, st, en, po⟩ => by
  simp only [ev] at po
  exact po.bl st
theorem x_non {j : Nat} {pos : Pos} : PE X (.Constant .none j pos) (tE (cy P k X Z) W .non) := PE.weak pe_non fun σ H Q ⟨F, S, r, st, en, po⟩ => by
  simp only [ev] at po
  exact po.non st
theorem x_str {s : List Nat} {j : Nat} {pos : Pos} : PE X (.Constant (.str (sv s)) j pos) (tE (cy P k X Z) W (.str s)) := PE.weak pe_str fun σ H Q ⟨F, S, r, st, en, po⟩ => by
  simp only [ev] at po
  exact po.str st
theorem x_glo (g : Good P k N sc so X) {i : Nat} {pos : Pos} (h : gloB sc (P.cnm i) = true) : PE X (.Name (P.cnm i) pos) (tE (cy P k X Z) W (.glo i)) := by
  obtain ⟨h1, h2⟩ := g.glo h
  refine ⟨fun pins s σ H Q I ⟨F, S, r, st, en, po⟩ => ?_⟩
  simp only [ev, cy] at po
  cases e : P.cst i with
  | none => rw [e] at po; exact po.bad.elim
  | some c =>
    rw [e] at po
    obtain ⟨u, hu, ok⟩ := g.cst i c e
    refine ld_glob I h1 hu ?_ h2
    cases c with
    | int i => exact ⟨.int i, H, I, ok, Post.int po st⟩
    | str x => exact ⟨.str (sv x), H, I, ok, Post.str po st⟩
    | tup xs =>
      obtain ⟨a, rfl, kt⟩ := ok
      refine ⟨.ref a, H, I, rfl, po.ok st ?_⟩
      simp only [Cst.v, Cy.R, R]
      exact ⟨a, _, rfl, .inr kt, RL.of_ints xs⟩
/-! ### operators -/
theorem x_bin {o : BOp} {a b : Ex} {ea eb : Expr} {pos : Pos} (ha : PE X ea (tE (cy P k X Z) W a)) (hb : PE X eb (tE (cy P k X Z) W b)) : PE X (.BinOp ea o.py eb pos) (tE (cy P k X Z) W (.bin o a b)) := by
  refine PE.weak (pe_op (binop_ok (y := cy P k X Z) rfl o) ha hb) fun σ H Q ⟨F, S, r, st, en, po⟩ => ?_
  simp only [ev] at po
  refine ⟨F, S, r, st, en, po.bind.mono fun x H1 ⟨F1, v, S1, k1, s1, r1, po1⟩ => ?_⟩
  refine ⟨F1, S1, r, s1, en.keep k1.toKp, po1.bind.mono fun z H2 ⟨F2, u, S2, k2, s2, r2, po2⟩ => ?_⟩
  exact ⟨F2, S2, v, u, s2, r1.keep k2.toKp, r2, po2.wish fun _ _ _ _ => trivial⟩
def notSet : Expr → Bool
  | .Set _ _ _ => false
  | _ => true
theorem notSet_marks {op : CmpOp} {b : Expr} (h : notSet b = true) : behindInMarks op b = false := by
  cases b <;> first
    | rfl
    | (simp [notSet] at h)
theorem ofB_cases (o : Option Bool) (S : Store) : (∃ b, ofB o S = .ok (.bl b) S) ∨ ofB o S = .bad := by
  cases o with
  | none => exact .inr rfl
  | some b => exact .inl ⟨b, rfl⟩
theorem cmpop_cases (o : COp) (a b : Val) (S : Store) : (∃ k, cmpop o a b S = .ok (.bl k) S) ∨ cmpop o a b S = .bad := by
  cases o <;> simp only [cmpop] <;> first
    | exact ofB_cases _ _
    | (cases b <;> first
        | exact .inr rfl
        | exact ofB_cases _ _)
/-- a truth value, if anything -/
def boolish (o : Out Val) : Prop := match o with
  | .ok v _ => ∃ b, v = .bl b
  | _ => True
theorem boolish_bind {α : Type} {o : Out α} {f : α → Store → Out Val} (h : ∀ a S, boolish (f a S)) : boolish (o.bind f) := by
  cases o with
  | ok a S => exact h a S
  | exn x S => trivial
  | bad => trivial
theorem boolT {y : Cy} {W : WX} {e : Ex} {σ : L2.St} {H : Hp} {Q : Bool → Hp → Prop} (hb : ∀ r S, boolish (ev y.P y.C e r S)) (h : tTe y W e σ H Q) : tE y W e σ H fun x H' => ∃ c, x = .bl c ∧ Q c H' := by
  obtain ⟨F, S, r, st, en, po⟩ := h
  refine ⟨F, S, r, st, en, ?_⟩
  have hb := hb r S
  cases q : ev y.P y.C e r S with
  | ok v S' =>
    rw [q] at hb po
    obtain ⟨b, rfl⟩ := hb
    exact fun F3 H3 w k3 s3 r3 => ⟨b, R.of_bl r3, po F3 H3 b k3 s3 rfl⟩
  | exn x S' => rw [q] at po; exact po
  | bad => rw [q] at po; exact po
theorem x_cmp (g : Good P k N sc so X) {o : COp} {a b : Ex} {ea eb : Expr} {pos : Pos} (ha : PE X ea (tE (cy P k X Z) W a)) (hb : PE X eb (tE (cy P k X Z) W b)) (hn : notSet eb = true) :
    PE X (.Compare ea [o.py] [eb] pos) (tE (cy P k X Z) W (.cmp o a b)) ∧ PT X (.Compare ea [o.py] [eb] pos) (tTe (cy P k X Z) W (.cmp o a b)) := by
  have key : ∀ σ H (Q : VK), tE (cy P k X Z) W (.cmp o a b) σ H Q → tOp (rOp (cy P k X Z) (cmpop o)) (tE (cy P k X Z) W a) (tE (cy P k X Z) W b) σ H Q := fun σ H Q ⟨F, S, r, st, en, po⟩ => by
    simp only [ev] at po
    refine ⟨F, S, r, st, en, po.bind.mono fun x H1 ⟨F1, v, S1, k1, s1, r1, po1⟩ => ?_⟩
    refine ⟨F1, S1, r, s1, en.keep k1.toKp, po1.bind.mono fun z H2 ⟨F2, u, S2, k2, s2, r2, po2⟩ => ?_⟩
    exact ⟨F2, S2, v, u, s2, r1.keep k2.toKp, r2, po2.wish fun _ _ _ _ => trivial⟩
  refine ⟨PE.weak (pe_cmpR (cmpop_ok (y := cy P k X Z) rfl g.room o) ha hb (notSet_marks hn)) key, ?_⟩
  exact PT.weak (pt_cmpR (cmpop_ok (y := cy P k X Z) rfl g.room o) ha hb (notSet_marks hn)) fun σ H Q h => key σ H _ (boolT (fun r S => by
    simp only [ev]
    refine boolish_bind fun _ _ => boolish_bind fun _ _ => ?_
    rcases cmpop_cases o _ _ _ with ⟨b, e⟩ | e
    · rw [e]; exact ⟨b, rfl⟩
    · rw [e]; trivial) h)
end
end DI
/-! DI5: the expressions one by one, further. -/
namespace DI
open PySem PySem.Spec PyProof.Rows L2
section
variable {P : Pg} {k : Nat} {N : List Str} {sc : List (Str × NameKind)} {so : List Str} {X : Cx} {Z : Addr → Prop} {W : WX}
/-! ### truth -/
theorem truV {y : Cy} {F : Fs} {H : Hp} {S : Store} {x : Val} {v : V} {b : Bool} (hK : y.K = X.K) (st : y.St F S H) (rx : y.R F H x v) (e : truth S x = some b) : TruV X.K v H b := by
  cases x with
  | non => rw [rx.of_non]; exact (Option.some.inj e).symm
  | bl c => rw [rx.of_bl]; exact (Option.some.inj e).symm
  | int i => rw [rx.of_int]; exact (Option.some.inj e).symm
  | str s =>
    rw [rx.of_str]
    simp only [truth] at e
    split at e
    · rename_i hl
      refine ⟨by rw [size_sv]; exact mx_line hl, ?_⟩
      rw [size_sv, ← Option.some.inj e]
      cases s with
      | nil => rfl
      | cons c r => simp; omega
    · cases e
  | tup xs =>
    obtain ⟨a, us, rfl, t, rl⟩ := rx.of_tup
    rw [hK] at t
    refine .inr (.inl ⟨us, t.sq, ?_⟩)
    have : b = !xs.isEmpty := (Option.some.inj e).symm
    rw [this]
    have l := rl.length
    cases xs <;> cases us <;> simp at l ⊢
  | lst xs =>
    obtain ⟨a, us, rfl, t, _, rl⟩ := rx.of_lst
    refine .inl ⟨us, .of t, ?_⟩
    have : b = !xs.isEmpty := (Option.some.inj e).symm
    rw [this]
    have l := rl.length
    cases xs <;> cases us <;> simp at l ⊢
  | scr ns =>
    simp only [Cy.R, R] at rx
    obtain ⟨a, rfl, t⟩ := rx
    rw [hK] at t
    refine .inl ⟨_, t.sq, ?_⟩
    have : b = !ns.isEmpty := (Option.some.inj e).symm
    rw [this]
    cases ns <;> simp
  | loc n =>
    cases q : S[n]? with
    | none => simp [truth, q] at e
    | some ob =>
      cases ob with
      | dead => simp [truth, q] at e
      | lst xs =>
        obtain ⟨a, us, h1, t, rl⟩ := st.lst q
        rw [rx.loc_ref h1]
        refine .inl ⟨us, .of t, ?_⟩
        have : b = !xs.isEmpty := by simp only [truth, q] at e; exact (Option.some.inj e).symm
        rw [this]
        have l := rl.length
        cases xs <;> cases us <;> simp at l ⊢
      | frz xs =>
        obtain ⟨a, o, us, h1, t, rl⟩ := st.frz q
        rw [rx.loc_ref h1]
        refine .inl ⟨us, .inl (.inr ⟨o, t⟩), ?_⟩
        have : b = !xs.isEmpty := by simp only [truth, q] at e; exact (Option.some.inj e).symm
        rw [this]
        have l := rl.length
        cases xs <;> cases us <;> simp at l ⊢
theorem Post.tru {y : Cy} {F : Fs} {H : Hp} {S : Store} {x : Val} {γ β : Type} {f : Bool → Store → Out γ} {RB : Fs → Hp → γ → β → Prop} {W : WK} {Q : β → Hp → Prop} (h : Post y F H ((DI.tru x S).bind f) RB W Q) :
    ∃ b, truth S x = some b ∧ Post y F H (f b S) RB W Q := by
  unfold DI.tru at h
  cases e : truth S x with
  | none => rw [e] at h; exact h.bad.elim
  | some b => rw [e] at h; exact ⟨b, rfl, h⟩
theorem Post.tru1 {y : Cy} {F : Fs} {H : Hp} {S : Store} {x : Val} {W : WK} {Q : Bool → Hp → Prop} (h : Post y F H (DI.tru x S) eqA W Q) (st : y.St F S H) : ∃ b, truth S x = some b ∧ Q b H := by
  unfold DI.tru at h
  cases e : truth S x with
  | none => rw [e] at h; exact h.bad.elim
  | some b => rw [e] at h; exact ⟨b, rfl, h.ok st rfl⟩
/-- an expression whose test is its value's truth -/
theorem x_truth {e : Ex} {ea : Expr} (ha : PE X ea (tE (cy P k X Z) W e)) (he : ∀ whole, isTrue ea X.env whole = (do let v ← whole; standAt ea.pos; holding [v] (truthy v))) : PT X ea (tTe (cy P k X Z) W e) := by
  refine PT.weak (pt_truth ha he) fun σ H Q ⟨F, S, r, st, en, po⟩ => ?_
  refine ⟨F, S, r, st, en, po.bind.mono fun x H1 ⟨F1, v, S1, k1, s1, r1, po1⟩ => ?_⟩
  obtain ⟨b, e, q⟩ := po1.tru1 s1
  exact ⟨b, truV (y := cy P k X Z) rfl s1 r1 e, q⟩
theorem boolish_cmp {o : COp} {a b : Val} {S : Store} : boolish (cmpop o a b S) := by
  rcases cmpop_cases o a b S with ⟨c, e⟩ | e
  · rw [e]; exact ⟨c, rfl⟩
  · rw [e]; trivial
theorem x_chn (g : Good P k N sc so X) {o p : COp} {a b c : Ex} {ea eb ec : Expr} {pos : Pos} (ha : PE X ea (tE (cy P k X Z) W a)) (hb : PE X eb (tE (cy P k X Z) W b)) (hc : PE X ec (tE (cy P k X Z) W c)) (hn : notSet ec = true) :
    PE X (.Compare ea [o.py, p.py] [eb, ec] pos) (tE (cy P k X Z) W (.chn o p a b c)) ∧ PT X (.Compare ea [o.py, p.py] [eb, ec] pos) (tTe (cy P k X Z) W (.chn o p a b c)) := by
  have key : ∀ σ H (Q : VK), tE (cy P k X Z) W (.chn o p a b c) σ H Q → tChain (rOp (cy P k X Z) (cmpop o)) (rOp (cy P k X Z) (cmpop p)) (tE (cy P k X Z) W a) (tE (cy P k X Z) W b) (tE (cy P k X Z) W c) σ H Q := by
    intro σ H Q ⟨F, S, r, st, en, po⟩
    simp only [ev] at po
    refine ⟨F, S, r, st, en, po.bind.mono fun x H1 ⟨F1, v, S1, k1, s1, r1, po1⟩ => ?_⟩
    refine ⟨F1, S1, r, s1, en.keep k1.toKp, po1.bind.mono fun z H2 ⟨F2, u, S2, k2, s2, r2, po2⟩ => ?_⟩
    refine ⟨F2, S2, v, u, s2, r1.keep k2.toKp, r2, ?_⟩
    rcases cmpop_cases o v u S2 with ⟨t, e⟩ | e
    · rw [e] at po2 ⊢
      intro F3 H3 w k3 s3 r3
      refine ⟨t, r3.of_bl, ?_⟩
      have po3 := Post.keep k3 po2
      cases t with
      | true =>
        simp only [Out.bind_ok] at po3
        rw [if_pos rfl]
        refine ⟨F3, S2, r, s3, (en.keep (k1.toKp)).keep (k2.trans k3).toKp, po3.bind.mono fun z4 H4 ⟨F4, u4, S4, k4, s4, r4, po4⟩ => ?_⟩
        exact ⟨F4, S4, u, u4, s4, r2.keep (k3.trans k4).toKp, r4, po4.wish fun _ _ _ _ => trivial⟩
      | false =>
        rw [if_neg Bool.false_ne_true]
        exact Post.bl po3 s3
    · rw [e] at po2
      exact po2.bad.elim
  have hm : lastMarks [o.py, p.py] [eb, ec] = false := notSet_marks hn
  refine ⟨PE.weak (pe_chain (cmpop_ok (y := cy P k X Z) rfl g.room o) (cmpop_ok (y := cy P k X Z) rfl g.room p) ha hb hc hm) key, PT.weak (pt_chain (cmpop_ok (y := cy P k X Z) rfl g.room o) (cmpop_ok (y := cy P k X Z) rfl g.room p) ha hb hc hm) fun σ H Q h => key σ H _ (boolT (fun r S => ?_) h)⟩
  simp only [ev]
  refine boolish_bind fun _ _ => boolish_bind fun _ _ => boolish_bind fun kv _ => ?_
  split
  · exact boolish_bind fun _ _ => boolish_cmp
  · exact ⟨false, rfl⟩
  · trivial
theorem x_neg {a : Ex} {ea : Expr} {pos : Pos} (ha : PE X ea (tE (cy P k X Z) W a)) : PE X (.UnaryOp .USub ea pos) (tE (cy P k X Z) W (.neg a)) := by
  refine PE.weak (pe_un un_neg ha) fun σ H Q ⟨F, S, r, st, en, po⟩ => ?_
  simp only [ev] at po
  refine ⟨F, S, r, st, en, po.bind.mono fun x H1 ⟨F1, v, S1, k1, s1, r1, po1⟩ => ?_⟩
  cases v with
  | int i =>
    obtain rfl := R.of_int r1
    exact ⟨i, rfl, Post.int po1 s1⟩
  | _ => exact po1.bad.elim
theorem x_nt {a : Ex} {ea : Expr} {pos : Pos} (ha : PE X ea (tE (cy P k X Z) W a)) (ta : PT X ea (tTe (cy P k X Z) W a)) : PE X (.UnaryOp .Not ea pos) (tE (cy P k X Z) W (.nt a)) ∧ PT X (.UnaryOp .Not ea pos) (tTe (cy P k X Z) W (.nt a)) := by
  refine ⟨PE.weak (pe_notT ha) fun σ H Q ⟨F, S, r, st, en, po⟩ => ?_, PT.weak (pt_not ta) fun σ H Q ⟨F, S, r, st, en, po⟩ => ?_⟩
  · simp only [ev, Out.bind_assoc] at po
    refine ⟨F, S, r, st, en, po.bind.mono fun x H1 ⟨F1, v, S1, k1, s1, r1, po1⟩ => ?_⟩
    obtain ⟨b, e, po2⟩ := Post.tru po1
    exact ⟨b, truV (y := cy P k X Z) rfl s1 r1 e, Post.bl po2 s1⟩
  · simp only [ev, Out.bind_assoc] at po
    rw [← Out.bind_assoc] at po
    refine ⟨F, S, r, st, en, (po.bind (RA := eqA)).mono fun b H1 ⟨F1, v, S1, k1, s1, r1, po1⟩ => ?_⟩
    have e : v = b := r1
    subst e
    obtain ⟨c, e, q⟩ := Post.tru1 (x := .bl (!v)) po1 s1
    have : (!v) = c := by simpa [truth] using e
    rw [this]
    exact q
/-! ### and, or, if -/
theorem tru_and {v : Val} {S : Store} {f : Store → Out Val} : ((tru v S).bind fun c S2 => (if c = true then f S2 else Out.ok v S2).bind tru) = (tru v S).bind fun c S2 => if c = true then (f S2).bind tru else .ok false S2 := by
  cases q : truth S v with
  | none => simp [tru, q]
  | some c =>
    cases c with
    | true => simp [tru, q]
    | false => simp [tru, q]
theorem tru_or {v : Val} {S : Store} {f : Store → Out Val} : ((tru v S).bind fun c S2 => (if c = true then Out.ok v S2 else f S2).bind tru) = (tru v S).bind fun c S2 => if c = true then .ok true S2 else (f S2).bind tru := by
  cases q : truth S v with
  | none => simp [tru, q]
  | some c =>
    cases c with
    | true => simp [tru, q]
    | false => simp [tru, q]
theorem x_and {a b : Ex} {ea : Expr} {eb : Expr} {rest : List Expr} {pos : Pos} (ha : PE X ea (tE (cy P k X Z) W a)) (ta : PT X ea (tTe (cy P k X Z) W a)) (hb : PE X (.BoolOp .And (eb :: rest) pos) (tE (cy P k X Z) W b)) (tb : PW X (.BoolOp .And (eb :: rest) pos) (tTe (cy P k X Z) W b)) :
    PE X (.BoolOp .And (ea :: eb :: rest) pos) (tE (cy P k X Z) W (.and a b)) ∧ PW X (.BoolOp .And (ea :: eb :: rest) pos) (tTe (cy P k X Z) W (.and a b)) := by
  refine ⟨PE.weak (pe_andT ha hb) fun σ H Q ⟨F, S, r, st, en, po⟩ => ?_, PW.weak (pw_and ta tb) fun σ H Q ⟨F, S, r, st, en, po⟩ => ?_⟩
  · simp only [ev] at po
    refine ⟨F, S, r, st, en, po.bind.mono fun x H1 ⟨F1, v, S1, k1, s1, r1, po1⟩ => ?_⟩
    obtain ⟨c, e, po2⟩ := Post.tru po1
    refine ⟨c, truV (y := cy P k X Z) rfl s1 r1 e, ?_⟩
    cases c with
    | true => exact iteT ⟨F1, S1, r, s1, en.keep k1.toKp, po2⟩
    | false => exact iteF (po2.ok s1 r1)
  · simp only [ev, Out.bind_assoc, tru_and] at po
    have po' : Post (cy P k X Z) F H (((ev P (run P k) a r S).bind tru).bind fun c S2 => if c = true then (ev P (run P k) b r S2).bind tru else .ok false S2) eqA (fun c d H' => W c d σ H') Q := by
      rw [Out.bind_assoc]; exact po
    refine ⟨F, S, r, st, en, (po'.bind (RA := eqA)).mono fun c H1 ⟨F1, v, S1, k1, s1, r1, po1⟩ => ?_⟩
    have e : v = c := r1
    subst e
    cases v with
    | true => exact iteT ⟨F1, S1, r, s1, en.keep k1.toKp, po1⟩
    | false => exact iteF (po1.ok s1 rfl)
theorem x_or {a b : Ex} {ea : Expr} {eb : Expr} {rest : List Expr} {pos : Pos} (ha : PE X ea (tE (cy P k X Z) W a)) (ta : PT X ea (tTe (cy P k X Z) W a)) (hb : PE X (.BoolOp .Or (eb :: rest) pos) (tE (cy P k X Z) W b)) (tb : PW X (.BoolOp .Or (eb :: rest) pos) (tTe (cy P k X Z) W b)) :
    PE X (.BoolOp .Or (ea :: eb :: rest) pos) (tE (cy P k X Z) W (.or a b)) ∧ PW X (.BoolOp .Or (ea :: eb :: rest) pos) (tTe (cy P k X Z) W (.or a b)) := by
  refine ⟨PE.weak (pe_orT ha hb) fun σ H Q ⟨F, S, r, st, en, po⟩ => ?_, PW.weak (pw_or ta tb) fun σ H Q ⟨F, S, r, st, en, po⟩ => ?_⟩
  · simp only [ev] at po
    refine ⟨F, S, r, st, en, po.bind.mono fun x H1 ⟨F1, v, S1, k1, s1, r1, po1⟩ => ?_⟩
    obtain ⟨c, e, po2⟩ := Post.tru po1
    refine ⟨c, truV (y := cy P k X Z) rfl s1 r1 e, ?_⟩
    cases c with
    | true => exact iteT (po2.ok s1 r1)
    | false => exact iteF ⟨F1, S1, r, s1, en.keep k1.toKp, po2⟩
  · simp only [ev, Out.bind_assoc, tru_or] at po
    have po' : Post (cy P k X Z) F H (((ev P (run P k) a r S).bind tru).bind fun c S2 => if c = true then .ok true S2 else (ev P (run P k) b r S2).bind tru) eqA (fun c d H' => W c d σ H') Q := by
      rw [Out.bind_assoc]; exact po
    refine ⟨F, S, r, st, en, (po'.bind (RA := eqA)).mono fun c H1 ⟨F1, v, S1, k1, s1, r1, po1⟩ => ?_⟩
    have e : v = c := r1
    subst e
    cases v with
    | true => exact iteT (po1.ok s1 rfl)
    | false => exact iteF ⟨F1, S1, r, s1, en.keep k1.toKp, po1⟩
theorem x_ite {c a b : Ex} {ec ea eb : Expr} {pos : Pos} (tc : PT X ec (tTe (cy P k X Z) W c)) (ha : PE X ea (tE (cy P k X Z) W a)) (hb : PE X eb (tE (cy P k X Z) W b)) (ta : PT X ea (tTe (cy P k X Z) W a)) (tb : PT X eb (tTe (cy P k X Z) W b)) :
    PE X (.IfExp ec ea eb pos) (tE (cy P k X Z) W (.ite c a b)) ∧ PT X (.IfExp ec ea eb pos) (tTe (cy P k X Z) W (.ite c a b)) := by
  refine ⟨PE.weak (pe_ifExp tc ha hb) fun σ H Q ⟨F, S, r, st, en, po⟩ => ?_, ⟨fun pins s σ H Q I ⟨F, S, r, st, en, po⟩ => ?_⟩⟩
  · simp only [ev] at po
    refine ⟨F, S, r, st, en, (po.bind (RA := eqA)).mono fun c H1 ⟨F1, v, S1, k1, s1, r1, po1⟩ => ?_⟩
    have e : v = c := r1
    subst e
    cases v with
    | true => exact iteT ⟨F1, S1, r, s1, en.keep k1.toKp, po1⟩
    | false => exact iteF ⟨F1, S1, r, s1, en.keep k1.toKp, po1⟩
  · simp only [ev] at po
    rw [Out.bind_assoc] at po
    refine isTrue_IfExp (thn (tc.run pins s σ H _ I ⟨F, S, r, st, en, (po.bind (RA := eqA))⟩) fun c s1 ⟨H1, I1, F1, v, S1, k1, st1, r1, po1⟩ => ?_)
    have e : v = c := r1
    subst e
    cases v with
    | true => exact ta.run pins s1 σ H1 Q I1 ⟨F1, S1, r, st1, en.keep k1.toKp, po1⟩
    | false => exact tb.run pins s1 σ H1 Q I1 ⟨F1, S1, r, st1, en.keep k1.toKp, po1⟩
/-! ### arguments, displays -/
theorem x_anil : PA X [] (tAs (cy P k X Z) W .nil) := PA.weak pa_nil fun σ H Q ⟨F, S, r, st, en, po⟩ => by
  simp only [evs] at po
  exact po.ok st RL.nil
def notStar : Expr → Bool
  | .Starred _ _ => false
  | _ => true
theorem notStar_each {e : Expr} {es : List Expr} {env : Env} (h : notStar e = true) : starEach (e :: es) env = (false, eval e env) :: starEach es env := by
  cases e <;> first
    | rfl
    | (simp [notStar] at h)
theorem x_acons {e : Ex} {es : Exs} {ea : Expr} {eas : List Expr} (ha : PE X ea (tE (cy P k X Z) W e)) (hs : PA X eas (tAs (cy P k X Z) W es)) (hn : notStar ea = true) : PA X (ea :: eas) (tAs (cy P k X Z) W (.cons e es)) := by
  refine PA.weak (pa_cons ha hs (notStar_each hn)) fun σ H Q ⟨F, S, r, st, en, po⟩ => ?_
  simp only [evs] at po
  refine ⟨F, S, r, st, en, po.bind.mono fun x H1 ⟨F1, v, S1, k1, s1, r1, po1⟩ => ?_⟩
  refine ⟨F1, S1, r, s1, en.keep k1.toKp, (po1.bind (RA := (cy P k X Z).RL)).mono fun xs H2 ⟨F2, vs, S2, k2, s2, r2, po2⟩ => ?_⟩
  exact po2.ok s2 (.cons (R.keep k2.toKp r1) r2)
theorem x_astar {e : Ex} {es : Exs} {ea : Expr} {eas : List Expr} {sp : Pos} (ha : PE X ea (tE (cy P k X Z) W e)) (hs : PA X eas (tAs (cy P k X Z) W es)) : PA X (.Starred ea sp :: eas) (tAs (cy P k X Z) W (.star e es)) := by
  refine PA.weak (StX.pa_star ha hs) fun σ H Q ⟨F, S, r, st, en, po⟩ => ?_
  simp only [evs] at po
  refine ⟨F, S, r, st, en, po.bind.mono fun x H1 ⟨F1, v, S1, k1, s1, r1, po1⟩ => ?_⟩
  cases ei : items S1 v with
  | none => rw [ei] at po1; exact po1.bad.elim
  | some ys =>
    rw [ei] at po1
    obtain ⟨p, us, rfl, rl, sq⟩ := items_R s1 r1 ei
    refine ⟨p, us, rfl, sq.elim (fun q => .inr q.1) fun q => .inl q.1, F1, S1, r, s1, en.keep k1.toKp, (po1.bind (RA := (cy P k X Z).RL)).mono fun xs H2 ⟨F2, vs, S2, k2, s2, r2, po2⟩ => ?_⟩
    exact po2.ok s2 ((rl.keep k2.toKp).append r2)
theorem x_tup {es : Exs} {eas : List Expr} {x1 : Nat} {pos : Pos} (hs : PA X eas (tAs (cy P k X Z) W es)) : PE X (.Tuple eas x1 pos) (tE (cy P k X Z) W (.tup es)) := by
  refine PE.weak (pe_tup hs) fun σ H Q ⟨F, S, r, st, en, po⟩ => ?_
  simp only [ev] at po
  refine ⟨F, S, r, st, en, (po.bind (RA := (cy P k X Z).RL)).mono fun xs H1 ⟨F1, vs, S1, k1, s1, r1, po1⟩ => ?_⟩
  split at po1
  · rename_i hl
    exact ⟨by rw [← RL.length r1]; exact mx_line hl, fun p hp => po1.newT s1 r1 hp⟩
  · exact po1.bad.elim
theorem n_disp {es : Exs} {eas : List Expr} {pos : Pos} (hs : PA X eas (tAs (cy P k X Z) W es)) : PE X (.List eas pos) (tN (cy P k X Z) W (.disp es)) := by
  refine PE.weak (pe_lst hs) fun σ H Q ⟨F, S, r, st, en, po⟩ => ?_
  simp only [evn] at po
  refine ⟨F, S, r, st, en, (po.bind (RA := (cy P k X Z).RL)).mono fun xs H1 ⟨F1, vs, S1, k1, s1, r1, po1⟩ => ?_⟩
  split at po1
  · rename_i hl
    exact ⟨by rw [← RL.length r1]; exact mx_line hl, fun p hp => po1.new s1 r1 hp⟩
  · exact po1.elim
/-- a new list as an expression -/
theorem x_nl {m : Bool} {n : Nl} {e : Expr} (h : PE X e (tN (cy P k X Z) W n)) : PE X e (tE (cy P k X Z) W (.nl m n)) := by
  refine PE.weak h fun σ H Q ⟨F, S, r, st, en, po⟩ => ?_
  simp only [ev] at po
  exact ⟨F, S, r, st, en, Post.ofN po⟩
theorem x_frz {a : Ex} {e : Expr} (h : PE X e (tE (cy P k X Z) W a)) : PE X e (tE (cy P k X Z) W (.frz a)) := by
  refine PE.weak h fun σ H Q ⟨F, S, r, st, en, po⟩ => ?_
  simp only [ev] at po
  refine ⟨F, S, r, st, en, po.bind.mono fun x H1 ⟨F1, v, S1, k1, s1, r1, po1⟩ => ?_⟩
  cases v with
  | loc n =>
    dsimp only at po1
    split at po1
    · rename_i xs e
      obtain ⟨p, us, h1, h2, rl⟩ := StOk.lst s1 e
      have kd := Keep.die (Z := Z) F1 H1 n
      refine po1 (F1.set n none) H1 x kd (s1.die n) ?_
      rw [R.loc_ref r1 h1]
      simp only [Cy.R, R]
      refine ⟨p, us, rfl, h2, ?_, rl.keep kd.toKp⟩
      rintro (m | m)
      · obtain ⟨j, hj⟩ := List.mem_iff_getElem?.mp m
        by_cases e : n = j
        · subst e
          rw [List.getElem?_set_self (List.getElem?_eq_some_iff.mp h1).1] at hj
          cases hj
        · rw [List.getElem?_set_ne e] at hj
          exact e (s1.inj n j p h1 hj)
      · exact s1.zl p m (List.mem_of_getElem? h1)
    · exact po1.bad.elim
  | _ => exact po1.bad.elim
/-! ### subscripts -/
theorem ixAt_atI {α : Type} {xs : List α} {i : Int} {v : α} (h : ixAt xs i = some v) : atI xs i = some v := by
  unfold ixAt at h
  unfold atI ixN
  by_cases h0 : 0 ≤ i
  · rw [if_pos h0] at h ⊢
    by_cases h1 : i < xs.length
    · rw [if_pos h1] at h ⊢
      exact h
    · rw [if_neg h1] at h; cases h
  · rw [if_neg h0] at h ⊢
    by_cases h1 : -(xs.length : Int) ≤ i
    · rw [if_pos h1] at h ⊢
      exact h
    · rw [if_neg h1] at h; cases h
theorem RL.atI {K : PySem.W.Frag} {F : Fs} {H : Hp} {xs : List Val} {us : List V} {i : Int} {x : Val} (rl : RL K Z F H xs us) (h : ixAt xs i = some x) : ∃ v, L2.atI us i = some v ∧ R K Z F H x v := by
  have l := rl.length
  unfold ixAt at h
  unfold L2.atI ixN
  rw [← l]
  by_cases h0 : 0 ≤ i
  · rw [if_pos h0] at h ⊢
    by_cases h1 : i < xs.length
    · rw [if_pos h1] at h ⊢
      exact rl.get h
    · rw [if_neg h1] at h; cases h
  · rw [if_neg h0] at h ⊢
    by_cases h1 : -(xs.length : Int) ≤ i
    · rw [if_pos h1] at h ⊢
      exact rl.get h
    · rw [if_neg h1] at h; cases h
theorem idx_ok {y : Cy} (hK : y.K = X.K) : IxR X (rOp y opIdx) := by
  intro value slice pins s σ H x z v u Q I rx rz h hs
  obtain ⟨F, S, a, b, st, ra, rb, po⟩ := h
  cases b with
  | int i =>
    obtain rfl := rb.of_int
    have seq : Post y F H (match items S a with
        | some xs => (match ixAt xs i with
          | some v => .ok v S
          | none => .bad)
        | none => .bad) y.R WT Q → wpAny (model X.prog X.w) X.A (subscriptTail value slice v u) (EP X pins σ Q) X.xe s := by
      intro po
      cases e : items S a with
      | none => rw [e] at po; exact po.bad.elim
      | some xs =>
        rw [e] at po
        dsimp only at po
        cases e2 : ixAt xs i with
        | none => rw [e2] at po; exact po.bad.elim
        | some w =>
          rw [e2] at po
          obtain ⟨p, us, rfl, rl, sq⟩ := items_R st ra e
          obtain ⟨t, ht, rt⟩ := RL.atI rl e2
          rw [hK] at sq
          rcases sq with ⟨sq, _⟩ | ⟨sq, _⟩
          · exact ix_list value slice pins s σ H _ _ v u Q I rx rz ⟨p, us, i, t, rfl, rfl, sq, ht, po.ok st rt⟩ hs
          · exact ix_tup value slice pins s σ H _ _ v u Q I rx rz ⟨p, us, i, t, rfl, rfl, sq, ht, po.ok st rt⟩ hs
    cases a with
    | str t =>
      simp only [opIdx] at po
      cases e : ixAt t i with
      | none => rw [e] at po; exact po.bad.elim
      | some c =>
        rw [e] at po
        dsimp only at po
        split at po
        · rename_i hl
          obtain rfl := ra.of_str
          exact ix_str value slice pins s σ H _ _ v u Q I rx rz ⟨sv t, i, c, rfl, rfl, by rw [size_sv]; exact mx_line hl, by simpa [sv] using ixAt_atI e, po.str st⟩ hs
        · exact po.bad.elim
    | non => exact seq po
    | bl b => exact seq po
    | int i => exact seq po
    | tup xs => exact seq po
    | lst xs => exact seq po
    | loc n => exact seq po
    | scr n => exact seq po
  | _ => exact po.bad.elim
/-- a subscript's expression that is no slice -/
def notSlice : Expr → Bool
  | .Slice _ _ _ _ => false
  | _ => true
theorem notSlice_plain {b : Expr} (h : notSlice b = true) : PlainIx b := by
  intro o i
  cases b <;> first
    | rfl
    | (simp [notSlice] at h)
theorem x_idx {a i : Ex} {ea ei : Expr} {pos : Pos} (ha : PE X ea (tE (cy P k X Z) W a)) (hi : PE X ei (tE (cy P k X Z) W i)) (hn : notSlice ei = true) : PE X (.Subscript ea ei pos) (tE (cy P k X Z) W (.idx a i)) := by
  refine PE.weak (pe_ix (idx_ok (y := cy P k X Z) rfl) ha hi (notSlice_plain hn)) fun σ H Q ⟨F, S, r, st, en, po⟩ => ?_
  simp only [ev] at po
  refine ⟨F, S, r, st, en, po.bind.mono fun x H1 ⟨F1, v, S1, k1, s1, r1, po1⟩ => ?_⟩
  refine ⟨F1, S1, r, s1, en.keep k1.toKp, po1.bind.mono fun z H2 ⟨F2, u, S2, k2, s2, r2, po2⟩ => ?_⟩
  exact ⟨F2, S2, v, u, s2, r1.keep k2.toKp, r2, po2.wish fun _ _ _ _ => trivial⟩
theorem o_no : PO X none (tOx (cy P k X Z) W .no) := PO.weak po_none fun σ H Q ⟨F, S, r, st, en, po⟩ => by
  simp only [evo] at po
  exact po.ok st rfl
theorem o_yes {a : Ex} {ea : Expr} (ha : PE X ea (tE (cy P k X Z) W a)) : PO X (some ea) (tOx (cy P k X Z) W (.yes a)) := by
  refine PO.weak (po_some ha) fun σ H Q ⟨F, S, r, st, en, po⟩ => ?_
  simp only [evo] at po
  refine ⟨F, S, r, st, en, po.bind.mono fun x H1 ⟨F1, v, S1, k1, s1, r1, po1⟩ => ?_⟩
  cases v with
  | int i => exact ⟨i, R.of_int r1, po1.ok s1 rfl⟩
  | _ => exact po1.bad.elim
def rCut (y : Cy) : V → Option Int → Option Int → Hp → VK → Prop := fun x lo hi H Q => ∃ F S a, y.St F S H ∧ y.R F H a x ∧ Post y F H (opCut a lo hi S) y.R WT Q
theorem cut_cutV {K : PySem.W.Frag} {F : Fs} {H : Hp} {xs : List Val} {us : List V} (rl : RL K Z F H xs us) (lo hi : Option Int) : RL K Z F H (cut xs lo hi) (cutV us lo hi) := by
  unfold cut cutV
  rw [← rl.length]
  exact (rl.drop _).take _
theorem cut_ok {y : Cy} (hK : y.K = X.K) : SlR X (rCut y) := by
  intro pins s σ H x v vl vu lo hi sl Q I rx hs pl pu h
  obtain ⟨F, S, a, st, ra, po⟩ := h
  have lists : Post y F H (match items S a with
      | some xs => .ok (.lst (cut xs lo hi)) S
      | none => .bad) y.R WT Q → (∀ zs, a ≠ .tup zs) → ∃ T id, typeLookup (.type T) "__getitem__" = pure (some (.builtin id)) ∧ s.TypeIs v T ∧ wpAny (model X.prog X.w) X.A (getItem v (.ref sl)) (EP X pins σ Q) X.xe s := by
    intro po nt
    cases e : items S a with
    | none => rw [e] at po; exact po.bad.elim
    | some xs =>
      rw [e] at po
      obtain ⟨p, us, rfl, rl, sq⟩ := items_R st ra e
      rw [hK] at sq
      rcases sq with ⟨sq, _⟩ | ⟨sq, e2⟩
      · exact sl_list pins s σ H _ v vl vu lo hi sl Q I rx hs pl pu ⟨p, us, rfl, sq, fun q hq => po.newL st (cut_cutV rl lo hi) hq⟩
      · exact absurd e2 (nt xs)
  cases a with
  | tup xs =>
    obtain ⟨p, us, rfl, t, rl⟩ := ra.of_tup
    rw [hK] at t
    refine sl_tupA pins s σ H _ v vl vu lo hi sl Q I rx hs pl pu ⟨p, us, rfl, t.sq, fun hw => ?_, fun hw q hq => ?_⟩
    · have e : cut xs lo hi = xs := by
        unfold cut
        have l := rl.length
        rw [show cutIx xs.length 0 lo = 0 by rw [l]; exact hw.1, show cutIx xs.length xs.length hi = xs.length by rw [l]; exact hw.2]
        simp
      simp only [opCut, e] at po
      exact po.ok st ra
    · exact Post.newT (xs := cut xs lo hi) po st (cut_cutV rl lo hi) hq
  | str _ => exact po.bad.elim
  | non => exact lists po fun _ z => by cases z
  | bl _ => exact lists po fun _ z => by cases z
  | int _ => exact lists po fun _ z => by cases z
  | lst _ => exact lists po fun _ z => by cases z
  | loc _ => exact lists po fun _ z => by cases z
  | scr _ => exact lists po fun _ z => by cases z
theorem x_slc {a : Ex} {lo hi : OEx} {ea : Expr} {el eh : Option Expr} {p2 pos : Pos} (ha : PE X ea (tE (cy P k X Z) W a)) (hl : PO X el (tOx (cy P k X Z) W lo)) (hh : PO X eh (tOx (cy P k X Z) W hi)) : PE X (.Subscript ea (.Slice el eh none p2) pos) (tE (cy P k X Z) W (.slc a lo hi)) := by
  refine PE.weak (pe_slice (cut_ok (y := cy P k X Z) rfl) ha hl hh) fun σ H Q ⟨F, S, r, st, en, po⟩ => ?_
  simp only [ev] at po
  refine ⟨F, S, r, st, en, po.bind.mono fun x H1 ⟨F1, v, S1, k1, s1, r1, po1⟩ => ?_⟩
  refine ⟨F1, S1, r, s1, en.keep k1.toKp, (po1.bind (RA := eqA)).mono fun l H2 ⟨F2, l', S2, k2, s2, r2, po2⟩ => ?_⟩
  have e : l' = l := r2
  subst e
  refine ⟨F2, S2, r, s2, (en.keep k1.toKp).keep k2.toKp, (po2.bind (RA := eqA)).mono fun u H3 ⟨F3, u', S3, k3, s3, r3, po3⟩ => ?_⟩
  have e : u' = u := r3
  subst e
  exact ⟨F3, S3, v, s3, r1.keep (k2.trans k3).toKp, po3.wish fun _ _ _ _ => trivial⟩
end
end DI
/-! DI6: calls of the program's own functions. -/
namespace DI
open PySem PySem.Spec PyProof.Rows L2
/-! ### the binding of arguments -/
theorem lookup_zip {α : Type} : ∀ (ps : List Str) (us : List α) (i : Nat) (h : i < ps.length), ps.Nodup → (ps.zip us).lookup ps[i] = us[i]?
  | [], _, _, h, _ => absurd h (by simp)
  | p :: ps, [], i, h, _ => by simp
  | p :: ps, u :: us, 0, h, nd => by simp
  | p :: ps, u :: us, i + 1, h, nd => by
    have h2 : i < ps.length := by simpa using h
    have ne : ((p :: ps)[i + 1] == p) = false := by
      rw [beq_eq_false_iff_ne]
      intro e
      exact (List.nodup_cons.mp nd).1 (e ▸ by simp)
    rw [List.zip_cons_cons, List.lookup_cons, ne]
    simpa using lookup_zip ps us i h2 (List.nodup_cons.mp nd).2
theorem lookup_names {α : Type} (ps : List Str) (nd : ps.Nodup) (i : Nat) (hi : i < ps.length) : ∀ (js : List Nat) (ws : List α), (∀ j ∈ js, j < ps.length) → ((js.map fun j => ps.getD j default).zip ws).lookup ps[i] = (js.zip ws).lookup i
  | [], _, _ => by simp
  | j :: js, [], _ => by simp
  | j :: js, w :: ws, h => by
    have hj : j < ps.length := h j (by simp)
    have ih := lookup_names ps nd i hi js ws fun a b => h a (by simp [b])
    rw [List.map_cons, List.zip_cons_cons, List.zip_cons_cons, List.lookup_cons, List.lookup_cons, ih]
    have e : ps.getD j default = ps[j] := by simp [hj]
    rw [e]
    by_cases q : i = j
    · subst q; simp
    · have n1 : (i == j) = false := by simp [q]
      have n2 : (ps[i] == ps[j]) = false := by
        rw [beq_eq_false_iff_ne]
        intro z
        exact q ((List.getElem_inj nd).mp z)
      rw [n1, n2]
theorem kwFine_names (ps : List Str) : ∀ (js : List Nat) (ws : List Value) (sl : List (Str × Value)), (∀ j ∈ js, j < ps.length) → (js.map fun j => ps.getD j default).Nodup → (∀ j ∈ js, (sl.lookup (ps.getD j default)).isSome = false) →
    kwFine ps sl ((js.map fun j => ps.getD j default).zip ws)
  | [], _, _, _, _, _ => by simp [kwFine]
  | j :: js, [], _, _, _, _ => by simp [kwFine]
  | j :: js, w :: ws, sl, h, nd, hs => by
    have hj : j < ps.length := h j (by simp)
    rw [List.map_cons, List.zip_cons_cons]
    rw [List.map_cons] at nd
    have nd2 := List.nodup_cons.mp nd
    refine ⟨?_, hs j (by simp), kwFine_names ps js ws _ (fun a b => h a (by simp [b])) nd2.2 fun a b => ?_⟩
    · have e : ps.getD j default = ps[j] := by simp [hj]
      rw [e]
      simp
    · rw [List.lookup_append, List.lookup_cons]
      have ne : (ps.getD a default == ps.getD j default) = false := by
        rw [beq_eq_false_iff_ne]
        intro e
        exact nd2.1 (e ▸ List.mem_map_of_mem (f := fun j => ps.getD j default) b)
      rw [ne]
      have := hs a (by simp [b])
      simpa using this
theorem fm_zip : ∀ (ps : List Str) (L : Str → Option Value) (g : Nat → Option Value), (∀ (i : Nat) (h : i < ps.length), L ps[i] = g i ∧ (g i).isSome = true) → (ps.filterMap fun m => (L m).map fun v => (m, v)) = ps.zip ((List.range ps.length).filterMap g)
  | [], _, _, _ => by simp
  | p :: ps, L, g, h => by
    obtain ⟨e, s⟩ := h 0 (by simp)
    obtain ⟨v, hv⟩ := Option.isSome_iff_exists.mp s
    have ih := fm_zip ps L (fun i => g (i + 1)) fun i hi => by
      have := h (i + 1) (by simpa using hi)
      simpa using this
    have e2 : L p = some v := by rw [← hv]; simpa using e
    rw [List.length_cons, List.range_succ_eq_map, List.filterMap_cons, List.filterMap_cons, e2, hv, List.filterMap_map]
    simp only [Option.map_some, List.zip_cons_cons]
    rw [ih]
    rfl
/-- keywords that fill up what is lacking -/
def kwOk (n m : Nat) (js : List Nat) : Bool := decide js.Nodup && (js.all (fun j => decide (m ≤ j ∧ j < n)) && ((List.range n).all (fun i => decide (i < m) || js.contains i) && decide (m ≤ n)))
theorem kwOk_inv {n m : Nat} {js : List Nat} (h : kwOk n m js = true) : js.Nodup ∧ (∀ j ∈ js, m ≤ j ∧ j < n) ∧ (∀ i, i < n → i < m ∨ i ∈ js) ∧ m ≤ n := by
  unfold kwOk at h
  simp only [Bool.and_eq_true, decide_eq_true_eq, List.all_eq_true, Bool.or_eq_true, List.contains_iff_mem, List.mem_range] at h
  exact ⟨h.1, h.2.1, h.2.2.1, h.2.2.2⟩
theorem lookup_some {α : Type} : ∀ {js : List Nat} {ws : List α} {i : Nat}, js.length = ws.length → i ∈ js → ((js.zip ws).lookup i).isSome = true
  | [], _, _, _, h => by simp at h
  | j :: js, [], _, h, _ => by simp at h
  | j :: js, w :: ws, i, hl, h => by
    rw [List.zip_cons_cons, List.lookup_cons]
    by_cases e : i = j
    · subst e; simp
    · have : (i == j) = false := by simp [e]
      rw [this]
      exact lookup_some (by simpa using hl) (by simpa [e] using h)
theorem placed_some {α : Type} {n : Nat} {us : List α} {js : List Nat} {ws : List α} (h : kwOk n us.length js = true) (hl : js.length = ws.length) : ∀ i, i < n → (if i < us.length then us[i]? else (js.zip ws).lookup i).isSome = true := by
  obtain ⟨_, h2, h3, h4⟩ := kwOk_inv h
  intro i hi
  by_cases q : i < us.length
  · rw [if_pos q, List.getElem?_eq_getElem q]; rfl
  · rw [if_neg q]
    exact lookup_some hl ((h3 i hi).resolve_left q)
theorem binds_kw {fd : FuncData} {ps : List Str} (nd : ps.Nodup) (h1 : fd.params.posonlyargs = []) (h2 : fd.params.args.map (·.arg) = ps) (h3 : fd.params.vararg = none) (h4 : fd.params.kwonlyargs = []) (h5 : fd.params.kwarg = none)
    (hd : fd.defaults = .none) {us ws : List Value} {js : List Nat} (hk : kwOk ps.length us.length js = true) (hl : js.length = ws.length) (s : Shared) :
    BindsTo s fd ⟨us, (js.map fun j => ps.getD j default).zip ws⟩ (ps.zip (placed ps.length us (js.zip ws))) := by
  obtain ⟨k1, k2, k3, k4⟩ := kwOk_inv hk
  have sm := placed_some hk hl
  have ndN : (js.map fun j => ps.getD j default).Nodup := by
    rw [List.Nodup, List.pairwise_map]
    refine List.Pairwise.imp_of_mem (R := fun a b => a ≠ b) (fun {a b} ha hb ne e => ne ?_) k1
    have h1 := (k2 a ha).2
    have h2 := (k2 b hb).2
    simp [h1, h2] at e
    exact (List.getElem_inj nd).mp e
  have look : ∀ (i : Nat) (h : i < ps.length), (ps.zip us ++ (js.map fun j => ps.getD j default).zip ws).lookup ps[i] = if i < us.length then us[i]? else (js.zip ws).lookup i := fun i h => by
    rw [List.lookup_append, lookup_zip ps us i h nd, lookup_names ps nd i h js ws fun j hj => (k2 j hj).2]
    by_cases q : i < us.length
    · rw [if_pos q, List.getElem?_eq_getElem q]; rfl
    · rw [if_neg q, List.getElem?_eq_none (Nat.le_of_not_lt q)]; rfl
  refine BindsTo.of_eq ((bind_plain h1 h2 h3 h4 h5 hd us _ k4 (kwFine_names ps js ws _ (fun j hj => (k2 j hj).2) ndN fun j hj => ?_) fun n hn => ?_).trans (congrArg pure ?_))
  · have hj2 := k2 j hj
    have e : ps.getD j default = ps[j]'hj2.2 := by simp [hj2.2]
    rw [e, lookup_zip ps us j hj2.2 nd, List.getElem?_eq_none hj2.1]
    rfl
  · obtain ⟨i, hi, e⟩ := List.getElem_of_mem hn
    rw [← e, look i hi]
    have := sm i hi
    cases q : (if i < us.length then us[i]? else (js.zip ws).lookup i) with
    | none => rw [q] at this; cases this
    | some v => rfl
  · exact fm_zip ps _ _ fun i hi => ⟨look i hi, sm i hi⟩
theorem fm_self {α : Type} (us : List α) : (List.range us.length).filterMap (fun i => if i < us.length then us[i]? else none) = us := by
  have : ∀ (us : List α), (List.range us.length).filterMap (fun i => us[i]?) = us := by
    intro us
    induction us with
    | nil => rfl
    | cons u us ih =>
      rw [List.length_cons, List.range_succ_eq_map, List.filterMap_cons, List.filterMap_map]
      simp only [List.getElem?_cons_zero]
      exact congrArg (u :: ·) ih
  have cg : ∀ (l : List Nat) (f g : Nat → Option α), (∀ i ∈ l, f i = g i) → l.filterMap f = l.filterMap g := by
    intro l f g
    induction l with
    | nil => intro _; rfl
    | cons a l ih =>
      intro h
      rw [List.filterMap_cons, List.filterMap_cons, h a (by simp), ih fun i hi => h i (by simp [hi])]
  refine Eq.trans (cg _ _ _ fun i hi => ?_) (this us)
  rw [if_pos (by simpa using hi)]
theorem placed_nil {α : Type} (us : List α) : placed us.length us [] = us := by
  unfold placed
  simpa using fm_self us
theorem binds_pos {fd : FuncData} {ps : List Str} (nd : ps.Nodup) (h1 : fd.params.posonlyargs = []) (h2 : fd.params.args.map (·.arg) = ps) (h3 : fd.params.vararg = none) (h4 : fd.params.kwonlyargs = []) (h5 : fd.params.kwarg = none)
    (hd : fd.defaults = .none) {us : List Value} (hl : us.length = ps.length) (s : Shared) : BindsTo s fd ⟨us, []⟩ (ps.zip us) := by
  have := binds_kw (us := us) (ws := []) (js := []) nd h1 h2 h3 h4 h5 hd (by simp [kwOk, hl]) rfl s
  simp only [List.map_nil, List.zip_nil_left] at this
  rw [← hl, placed_nil] at this
  exact this
theorem lookup_rel {α β : Type} {r : α → β → Prop} : ∀ {js : List Nat} {zs : List α} {ws : List β} {i : Nat} {x : α} {y : β}, (∀ (j : Nat) a b, zs[j]? = some a → ws[j]? = some b → r a b) → (js.zip zs).lookup i = some x → (js.zip ws).lookup i = some y → r x y
  | [], _, _, _, _, _, _, h, _ => by simp at h
  | j :: js, [], _, _, _, _, _, h, _ => by simp at h
  | j :: js, z :: zs, [], _, _, _, _, _, h => by simp at h
  | j :: js, z :: zs, w :: ws, i, x, y, hr, h1, h2 => by
    rw [List.zip_cons_cons, List.lookup_cons] at h1 h2
    by_cases e : i = j
    · subst e
      simp at h1 h2
      subst h1; subst h2
      exact hr 0 _ _ (by simp) (by simp)
    · have : (i == j) = false := by simp [e]
      rw [this] at h1 h2
      exact lookup_rel (fun k a b q1 q2 => hr (k + 1) a b (by simpa using q1) (by simpa using q2)) h1 h2
theorem fm_get {α : Type} : ∀ (n : Nat) (g : Nat → Option α), (∀ i, i < n → (g i).isSome = true) → ((List.range n).filterMap g).length = n ∧ ∀ i, i < n → ((List.range n).filterMap g)[i]? = g i
  | 0, _, _ => by simp
  | n + 1, g, h => by
    obtain ⟨v, hv⟩ := Option.isSome_iff_exists.mp (h 0 (by omega))
    obtain ⟨l, ih⟩ := fm_get n (fun i => g (i + 1)) fun i hi => h (i + 1) (by omega)
    rw [List.range_succ_eq_map, List.filterMap_cons, hv, List.filterMap_map]
    refine ⟨?_, fun i hi => ?_⟩
    · simp only [List.length_cons]
      exact congrArg (· + 1) l
    · cases i with
      | zero => simp [hv]
      | succ i =>
        rw [List.getElem?_cons_succ]
        exact ih i (by omega)
/-- what is placed is so related -/
theorem placed_rel {α β : Type} {r : α → β → Prop} {n : Nat} {vs : List α} {us : List β} {js : List Nat} {zs : List α} {ws : List β} (hk : kwOk n vs.length js = true) (l1 : js.length = zs.length) (l2 : vs.length = us.length) (l3 : zs.length = ws.length)
    (h1 : ∀ (j : Nat) a b, vs[j]? = some a → us[j]? = some b → r a b) (h2 : ∀ (j : Nat) a b, zs[j]? = some a → ws[j]? = some b → r a b) :
    (placed n vs (js.zip zs)).length = n ∧ (placed n us (js.zip ws)).length = n ∧ ∀ (i : Nat) a b, (placed n vs (js.zip zs))[i]? = some a → (placed n us (js.zip ws))[i]? = some b → r a b := by
  have s1 := fm_get n _ (placed_some hk l1)
  have s2 := fm_get n _ (placed_some (us := us) (ws := ws) (by rw [← l2]; exact hk) (l1.trans l3))
  refine ⟨s1.1, s2.1, fun i a b e1 e2 => ?_⟩
  have hi : i < n := by
    have := (List.getElem?_eq_some_iff.mp e1).1
    rw [show (placed n vs (js.zip zs)).length = n from s1.1] at this
    exact this
  have f1 := s1.2 i hi
  have f2 := s2.2 i hi
  unfold placed at e1 e2
  rw [f1] at e1
  rw [f2] at e2
  by_cases q : i < vs.length
  · rw [if_pos q] at e1
    rw [if_pos (by rw [← l2]; exact q)] at e2
    exact h1 i a b e1 e2
  · rw [if_neg q] at e1
    rw [if_neg (by rw [← l2]; exact q)] at e2
    exact lookup_rel h2 e1 e2
theorem vals_of_pw : ∀ {vs : List V} {us : List Value}, vs.length = us.length → (∀ (i : Nat) a b, vs[i]? = some a → us[i]? = some b → RelV a b) → Vals vs us
  | [], [], _, _ => .nil
  | [], _ :: _, h, _ => by simp at h
  | _ :: _, [], h, _ => by simp at h
  | v :: vs, u :: us, h, g => .cons (g 0 v u (by simp) (by simp)) (vals_of_pw (by simpa using h) fun i a b e1 e2 => g (i + 1) a b (by simpa using e1) (by simpa using e2))
theorem pw_of_vals {vs : List V} {us : List Value} (r : Vals vs us) (i : Nat) (a : V) (b : Value) (h1 : vs[i]? = some a) (h2 : us[i]? = some b) : RelV a b := by
  obtain ⟨u, e, h⟩ := r.get h1
  rw [h2] at e
  cases e
  exact h
section
variable {P : Pg} {k : Nat} {N : List Str} {sc : List (Str × NameKind)} {so : List Str} {X : Cx} {Z : Addr → Prop} {W : WX}
/-- the callee runs -/
theorem run_at {f : Nat} {d : Fn} {fa : Addr} {fd : FuncData} {pins : List (Addr × Obj)} {σ : L2.St} {H : Hp} {s : Shared} {Q : VK} {vs : List V} {us : List Value} {args : Args} (A : FnAt P k X.prog X.w X.K X.mg X.base f d fa fd) (hr : Room k X.A) (tk : Takes X W)
    (I : Inv X pins σ H s) (r : Vals vs us) (hb : BindsTo s fd args (d.ps.zip us)) (h : spI P X.K X.mg k f vs H Q (fun c d H' => W c d σ H')) : wpAny (model X.prog X.w) X.A (call (.ref fa) args.pos args.kw) (EP X pins σ Q) X.xe s := by
  refine wpAny_call (codeAny_mono (A.ok.run X.A X.stack s H args us vs Q (fun c d H' => W c d σ H') hr I.env0 hb r h) fun q s' hq => ?_)
  cases q with
  | error e => exact tk _ _ (XE.of_call I (fun _ _ _ h => h) hq)
  | ok fl =>
    cases fl with
    | ret u => exact I.after hq
    | next => exact False.elim hq
    | brk => exact False.elim hq
    | cont => exact False.elim hq
def allPlain : List Expr → Bool
  | [] => true
  | e :: es => notStar e && allPlain es
theorem allPlain_any {pos : Pos} {env : Env} : ∀ {es : List Expr}, allPlain es = true → (backTo pos (starEach es env)).any (·.1) = false
  | [], _ => rfl
  | e :: es, h => by
    have h2 : notStar e = true ∧ allPlain es = true := by simpa [allPlain] using h
    rw [notStar_each h2.1]
    exact allPlain_any h2.2
theorem spI_of {f : Nat} {d : Fn} (e : P.fns f = some d) {F : Fs} {H : Hp} {S : Store} {vs : List Val} {us : List V} {σ : L2.St} {Q : VK} (st : (cy P k X Z).St F S H) (rl : (cy P k X Z).RL F H vs us) (hl : vs.length = d.ps.length) (po : Post (cy P k X Z) F H (run P k f vs S) (cy P k X Z).R (fun c d H' => W c d σ H') Q) :
    spI P X.K X.mg k f us H Q (fun c d H' => W c d σ H') := ⟨Z, F, S, vs, d, e, hl, st, rl, po⟩
theorem run_bad {f : Nat} {vs : List Val} {S : Store} {d : Fn} (e : P.fns f = some d) (h : vs.length ≠ d.ps.length) : run P k f vs S = .bad := by
  cases k with
  | zero => rfl
  | succ k => simp only [run, e, if_neg h]
theorem run_none {f : Nat} {vs : List Val} {S : Store} (e : P.fns f = none) : run P k f vs S = .bad := by
  cases k with
  | zero => rfl
  | succ k => simp only [run, e]
theorem x_cal (g : Good P k N sc so X) (tk : Takes X W) {f : Nat} {d : Fn} (e : P.fns f = some d) {es : Exs} {eas : List Expr} {p pos : Pos} (hg : gloB sc (P.fnm f) = true) (hs : PA X eas (tAs (cy P k X Z) W es)) (hn : allPlain eas = true) (h0 : eas = [] → es = .nil) :
    PE X (.Call (.Name (P.fnm f) p) eas [] pos) (tE (cy P k X Z) W (.cal f es)) := by
  refine ⟨fun pins s σ H Q I ⟨F, S, r, st, en, po⟩ => ?_⟩
  simp only [ev] at po
  obtain ⟨h1, h2⟩ := g.glo hg
  obtain ⟨fa, fd, A⟩ := g.fns f d e
  have main : ∀ (us : List Value) (vs : List V) (xs : List Val) (F1 : Fs) (H1 : Hp) (S1 : Store) (s1 : Shared), Inv X pins σ H1 s1 → Vals vs us → (cy P k X Z).St F1 S1 H1 → (cy P k X Z).RL F1 H1 xs vs → Post (cy P k X Z) F1 H1 (run P k f xs S1) (cy P k X Z).R (fun c d H' => W c d σ H') Q →
      wpAny (model X.prog X.w) X.A (call (.ref fa) us) (EP X pins σ Q) X.xe s1 := by
    intro us vs xs F1 H1 S1 s1 I1 rv st1 rl po1
    by_cases hl : xs.length = d.ps.length
    · have hl2 : us.length = d.ps.length := by rw [← rv.length, ← RL.length rl, hl]
      exact run_at (args := ⟨us, []⟩) A g.room tk I1 rv (binds_pos A.nod A.p1 A.p2 A.p3 A.p4 A.p5 A.p6 hl2 s1) (spI_of e st1 rl hl po1)
    · rw [run_bad e hl] at po1
      exact po1.bad.elim
  refine wpAny_Call_Name_kw (ld_glob I h1 A.hm ?_ h2)
  cases eas with
  | nil =>
    rw [h0 rfl] at po
    simp only [evs, Out.bind_ok] at po
    exact PySem.W.callWith_K0 I.kIn A.kp (main [] [] [] F H S s I .nil st RL.nil po)
  | cons ea eas =>
    have hn2 : notStar ea = true ∧ allPlain eas = true := by simpa [allPlain] using hn
    refine PySem.W.callWith_K (h₀ := X.base) I.ok.mod.kin A.kp (thn (hs.run pos pins s σ H _ I ⟨F, S, r, st, en, po.bind (RA := (cy P k X Z).RL)⟩) fun us s1 ⟨vs, H1, I1, rv, F1, xs, S1, k1, st1, r1, po1⟩ => ⟨I1.kIn, ?_⟩) (notStar_each hn2.1) (allPlain_any hn2.2)
    exact main us vs xs F1 H1 S1 s1 I1 rv st1 r1 po1
/-! ### keywords -/
theorem x_knil : PK X [] (tKs (cy P k X Z) W .nil) := ⟨fun pos pins s σ H Q I ⟨F, S, r, st, en, po⟩ => by
  simp only [evk] at po
  have rn : rlK (cy P k X Z) F H [] [] := (RL.nil : RL X.K Z F H [] [])
  exact pk_nil.run pos pins s σ H Q I (po.ok st rn)⟩
theorem x_kcons {j : Nat} {e : Ex} {ks : Kws} {ea : Expr} {nm : Option Str} {kpos : Pos} {kws : List Keyword} (ha : PE X ea (tE (cy P k X Z) W e)) (hs : PK X kws (tKs (cy P k X Z) W ks)) : PK X (⟨nm, ea, kpos⟩ :: kws) (tKs (cy P k X Z) W (.cons j e ks)) := by
  refine ⟨fun pos pins s σ H Q I ⟨F, S, r, st, en, po⟩ => (pk_cons ha hs).run pos pins s σ H Q I ?_⟩
  simp only [evk] at po
  refine ⟨F, S, r, st, en, po.bind.mono fun x H1 ⟨F1, v, S1, k1, s1, r1, po1⟩ => ?_⟩
  refine ⟨F1, S1, r, s1, en.keep k1.toKp, (po1.bind (RA := rlK (cy P k X Z))).mono fun xs H2 ⟨F2, vs, S2, k2, s2, r2, po2⟩ => ?_⟩
  exact po2.ok s2 (RL.cons (R.keep k2.toKp r1) r2)
/-- the places that the keywords fill -/
def kwJs : Kws → List Nat
  | .nil => []
  | .cons j _ ks => j :: kwJs ks
/-- the written keywords' names are those of these places -/
def kwNames (ps : List Str) : List Keyword → Kws → Bool
  | [], .nil => true
  | ⟨some x, _, _⟩ :: r, .cons j _ ks => (x == ps.getD j default) && kwNames ps r ks
  | _, _ => false
theorem kwNames_all {ps : List Str} {pos : Pos} {env : Env} : ∀ {kws : List Keyword} {ks : Kws}, kwNames ps kws ks = true → (backToKw pos (keywordEach kws env)).all (·.1.isSome) = true ∧ (backToKw pos (keywordEach kws env)).any (·.1.isNone) = false ∧
    (backToKw pos (keywordEach kws env)).filterMap (·.1) = (kwJs ks).map fun j => ps.getD j default
  | [], .nil, _ => ⟨rfl, rfl, rfl⟩
  | [], .cons _ _ _, h => by simp [kwNames] at h
  | ⟨none, _, _⟩ :: _, _, h => by simp [kwNames] at h
  | ⟨some x, _, _⟩ :: _, .nil, h => by simp [kwNames] at h
  | ⟨some x, v, q⟩ :: r, .cons j e ks, h => by
    have h2 : x = ps.getD j default ∧ kwNames ps r ks = true := by simpa [kwNames] using h
    obtain ⟨a, b, c⟩ := kwNames_all (pos := pos) (env := env) h2.2
    refine ⟨?_, ?_, ?_⟩
    · exact a
    · exact b
    · show x :: (backToKw pos (keywordEach r env)).filterMap (·.1) = ps.getD j default :: (kwJs ks).map fun j => ps.getD j default
      rw [c, h2.1]
theorem evk_js {C : Cf} : ∀ {ks : Kws} {r : Sl} {S S' : Store} {zs : List (Nat × Val)}, evk P C ks r S = .ok zs S' → zs.map (·.1) = kwJs ks
  | .nil, r, S, S', zs, h => by
    simp only [evk] at h
    cases h
    rfl
  | .cons j e ks, r, S, S', zs, h => by
    simp only [evk] at h
    cases q : ev P C e r S with
    | ok x S1 =>
      rw [q] at h
      simp only [Out.bind_ok] at h
      cases q2 : evk P C ks r S1 with
      | ok xs S2 =>
        rw [q2] at h
        simp only [Out.bind_ok] at h
        cases h
        have := evk_js q2
        simp [kwJs, this]
      | exn x S2 => rw [q2] at h; cases h
      | bad => rw [q2] at h; cases h
    | exn x S1 => rw [q] at h; cases h
    | bad => rw [q] at h; cases h
theorem Post.and {α β : Type} {y : Cy} {F : Fs} {H : Hp} {r : Out α} {RA : Fs → Hp → α → β → Prop} {W : WK} {Q : β → Hp → Prop} {p : α → Prop} (hp : ∀ a S, r = .ok a S → p a) (h : Post y F H r RA W Q) : Post y F H r (fun F H a b => RA F H a b) W Q := h
theorem Post.bindP {α β γ α' : Type} {y : Cy} {F : Fs} {H : Hp} {r : Out α} {W : WK} {Q : β → Hp → Prop} {f : α → Store → Out γ} {RB : Fs → Hp → γ → β → Prop} {RA : Fs → Hp → α → α' → Prop} (h : Post y F H (r.bind f) RB W Q) :
    Post y F H r RA W fun b H' => ∃ F' a S', y.Kp F H F' H' ∧ y.St F' S' H' ∧ RA F' H' a b ∧ Post y F' H' (f a S') RB W Q ∧ r = .ok a S' := by
  cases r with
  | ok a S' => exact fun F' H' b k s ra => ⟨F', a, S', k, s, ra, Post.keep k h, rfl⟩
  | exn x S' => exact h
  | bad => exact h
theorem x_calk (g : Good P k N sc so X) (tk : Takes X W) {f : Nat} {d : Fn} (e : P.fns f = some d) {es : Exs} {ks : Kws} {eas : List Expr} {kws : List Keyword} {p pos : Pos} (hg : gloB sc (P.fnm f) = true) (hs : PA X eas (tAs (cy P k X Z) W es)) (hk : PK X kws (tKs (cy P k X Z) W ks))
    (hn : allPlain eas = true) (h0 : eas = [] → es = .nil) (hkn : kwNames d.ps kws ks = true) (hko : kwOk d.ps.length eas.length (kwJs ks) = true) (hel : ∀ r S xs S', evs P (run P k) es r S = .ok xs S' → xs.length = eas.length) :
    PE X (.Call (.Name (P.fnm f) p) eas kws pos) (tE (cy P k X Z) W (.calk f es ks)) := by
  refine ⟨fun pins s σ H Q I ⟨F, S, r, st, en, po⟩ => ?_⟩
  simp only [ev] at po
  obtain ⟨h1, h2⟩ := g.glo hg
  obtain ⟨fa, fd, A⟩ := g.fns f d e
  obtain ⟨n1, n2, n3⟩ := kwNames_all (pos := pos) (env := X.env) hkn
  have main : ∀ (us ws : List Value) (vs zv : List V) (xs : List Val) (zs : List (Nat × Val)) (F1 : Fs) (H1 : Hp) (S1 : Store) (s1 : Shared), Inv X pins σ H1 s1 → Vals vs us → Vals zv ws → (cy P k X Z).St F1 S1 H1 → (cy P k X Z).RL F1 H1 xs vs → rlK (cy P k X Z) F1 H1 zs zv →
      xs.length = eas.length → zs.map (·.1) = kwJs ks → Post (cy P k X Z) F1 H1 (run P k f (placed d.ps.length xs zs) S1) (cy P k X Z).R (fun c d H' => W c d σ H') Q →
      wpAny (model X.prog X.w) X.A (call (.ref fa) us (((kwJs ks).map fun j => d.ps.getD j default).zip ws)) (EP X pins σ Q) X.xe s1 := by
    intro us ws vs zv xs zs F1 H1 S1 s1 I1 rv rz st1 rl rk hl hj po1
    have lv : xs.length = vs.length := RL.length rl
    have lz : zs.length = zv.length := by have := RL.length rk; simpa using this
    have lj : (kwJs ks).length = zs.length := by rw [← hj]; simp
    have ez : zs = (kwJs ks).zip (zs.map (·.2)) := by
      rw [← hj]
      clear lz lj po1 rk hj
      induction zs with
      | nil => rfl
      | cons z zs ih => simp only [List.map_cons, List.zip_cons_cons]; rw [← ih]
    have pr1 := placed_rel (r := RelV) (n := d.ps.length) (vs := vs) (us := us) (js := kwJs ks) (zs := zv) (ws := ws) (by rw [← lv, hl]; exact hko) (lj.trans lz) rv.length rz.length (pw_of_vals rv) (pw_of_vals rz)
    have pr2 := placed_rel (r := (cy P k X Z).R F1 H1) (n := d.ps.length) (vs := xs) (us := vs) (js := kwJs ks) (zs := zs.map (·.2)) (ws := zv) (by rw [hl]; exact hko) (by simpa using lj) lv (by simpa using lz)
      (fun j a b q1 q2 => by
        obtain ⟨v, e1, h⟩ := RL.get rl q1
        rw [q2] at e1
        cases e1
        exact h) (fun j a b q1 q2 => by
        obtain ⟨v, e1, h⟩ := RL.get rk q1
        rw [q2] at e1
        cases e1
        exact h)
    rw [← ez] at pr2
    have bt := binds_kw (us := us) (ws := ws) (js := kwJs ks) A.nod A.p1 A.p2 A.p3 A.p4 A.p5 A.p6 (by rw [← rv.length, ← lv, hl]; exact hko) ((lj.trans lz).trans rz.length) s1
    exact run_at (args := ⟨us, _⟩) (vs := placed d.ps.length vs ((kwJs ks).zip zv)) A g.room tk I1 (vals_of_pw (pr1.1.trans pr1.2.1.symm) pr1.2.2) bt
      (spI_of e st1 (RL.of_get (pr2.1.trans pr2.2.1.symm) pr2.2.2) pr2.1 po1)
  refine wpAny_Call_Name_kw (ld_glob I h1 A.hm ?_ h2)
  have fin : ∀ (us : List Value) (vs : List V) (xs : List Val) (F1 : Fs) (H1 : Hp) (S1 : Store) (s1 : Shared), Inv X pins σ H1 s1 → Vals vs us → (cy P k X Z).St F1 S1 H1 → (cy P k X Z).En F1 H1 r σ → (cy P k X Z).RL F1 H1 xs vs → xs.length = eas.length →
      Post (cy P k X Z) F1 H1 ((evk P (run P k) ks r S1).bind fun zs S2 => match P.fns f with
        | some d => run P k f (placed d.ps.length xs zs) S2
        | none => .bad) (cy P k X Z).R (fun c d H' => W c d σ H') Q →
      wpAny (model X.prog X.w) X.A (evalAll ((backToKw pos (keywordEach kws X.env)).map (·.2))) (fun ks' s2 => X.K.In s2.heap ∧ wpAny (model X.prog X.w) X.A (call (.ref fa) ([] ++ us) (((backToKw pos (keywordEach kws X.env)).filterMap (·.1)).zip ks')) (EP X pins σ Q) X.xe s2) X.xe s1 := by
    intro us vs xs F1 H1 S1 s1 I1 rv st1 en1 rl hl po1
    refine thn (hk.run pos pins s1 σ H1 _ I1 ⟨F1, S1, r, st1, en1, po1.bindP (RA := rlK (cy P k X Z))⟩) fun ws s2 ⟨zv, H2, I2, rz, F2, zs, S2, k2, st2, r2, po2, eo⟩ => ⟨I2.kIn, ?_⟩
    rw [n3]
    rw [e] at po2
    exact main us ws vs zv xs zs F2 H2 S2 s2 I2 rv rz st2 (RL.keep k2.toKp rl) r2 hl (evk_js eo) po2
  cases eas with
  | nil =>
    rw [h0 rfl] at po
    simp only [evs, Out.bind_ok] at po
    refine PySem.W.callWith_KW0 (h₀ := X.base) I.ok.mod.kin A.kp n1 ?_ (by show (false || _) = false; rw [n2]; rfl)
    exact fin [] [] [] F H S s I .nil st en RL.nil rfl po
  | cons ea eas =>
    have hn2 : notStar ea = true ∧ allPlain eas = true := by simpa [allPlain] using hn
    refine PySem.W.callWith_KW (h₀ := X.base) I.ok.mod.kin A.kp n1 (thn (hs.run pos pins s σ H _ I ⟨F, S, r, st, en, po.bindP (RA := (cy P k X Z).RL)⟩) fun us s1 ⟨vs, H1, I1, rv, F1, xs, S1, k1, st1, r1, po1, eo⟩ => ?_) (by rw [n2, allPlain_any hn]; rfl) (notStar_each hn2.1)
    exact fin us vs xs F1 H1 S1 s1 I1 rv st1 (en.keep k1.toKp) r1 (hel _ _ _ _ eo) po1
end
end DI
/-! DI7: built-ins and methods. -/
namespace DI
open PySem PySem.Spec PyProof.Rows L2
section
variable {P : Pg} {k : Nat} {N : List Str} {sc : List (Str × NameKind)} {so : List Str} {X : Cx} {Z : Addr → Prop} {W : WX} {y : Cy}
def rBi (y : Cy) (b : Bi) : List V → Hp → VK → Prop := fun xs H Q => ∃ F S vs, y.St F S H ∧ y.RL F H vs xs ∧ Post y F H (biop b vs S) y.R WT Q
theorem RL.one {K : PySem.W.Frag} {F : Fs} {H : Hp} {x : Val} {xs : List V} (h : RL K Z F H [x] xs) : ∃ u, xs = [u] ∧ R K Z F H x u := by
  obtain ⟨v, r, e, h1, h2⟩ := h.cons_inv
  rw [h2.nil_inv] at e
  exact ⟨v, e, h1⟩
theorem RL.two {K : PySem.W.Frag} {F : Fs} {H : Hp} {x z : Val} {xs : List V} (h : RL K Z F H [x, z] xs) : ∃ u v, xs = [u, v] ∧ R K Z F H x u ∧ R K Z F H z v := by
  obtain ⟨v, r, e, h1, h2⟩ := h.cons_inv
  obtain ⟨u, rfl, h3⟩ := h2.one
  exact ⟨v, u, e, h1, h3⟩
/-- a list that is not locked, of ints -/
theorem lst_ints {F : Fs} {H : Hp} {S : Store} {v : Val} {x : V} {xs : List Val} {ns : List Int} (hK : y.K = X.K) (st : y.St F S H) (r : y.R F H v x) (e : lstOf S v = some xs) (e2 : intsOf xs = some ns) : ∃ p, x = .ref p ∧ SqL X.K H p (ns.map V.int) := by
  obtain ⟨p, us, rfl, hp, rl⟩ := lstOf_R st r e
  rw [intsOf_map e2] at rl
  rw [rl.ints] at hp
  exact ⟨p, rfl, .of hp⟩
theorem lst_bls {F : Fs} {H : Hp} {S : Store} {v : Val} {x : V} {xs : List Val} {ns : List Bool} (hK : y.K = X.K) (st : y.St F S H) (r : y.R F H v x) (e : lstOf S v = some xs) (e2 : bsOf xs = some ns) : ∃ p, x = .ref p ∧ SqL X.K H p (ns.map V.bl) := by
  obtain ⟨p, us, rfl, hp, rl⟩ := lstOf_R st r e
  rw [bsOf_map e2] at rl
  rw [rl.bls] at hp
  exact ⟨p, rfl, .of hp⟩
theorem maxI_of {m : Int} : ∀ {ns : List Int}, m ∈ ns → (∀ z, z ∈ ns → z ≤ m) → maxI ns = m
  | [], h, _ => by simp at h
  | [a], h, _ => by simp at h; simp [maxI, h]
  | a :: b :: r, h, g => by
    have g0 := g a (by simp)
    unfold maxI
    by_cases hm : m ∈ b :: r
    · rw [maxI_of hm fun z hz => g z (List.mem_cons_of_mem _ hz)]
      omega
    · have : m = a := by rcases List.mem_cons.mp h with h | h; exact h; exact absurd h hm
      subst this
      have : maxI (b :: r) ≤ m := by
        have key : ∀ ns : List Int, ns ≠ [] → maxI ns ∈ ns := by
          intro ns
          induction ns with
          | nil => intro h; exact absurd rfl h
          | cons x t ih =>
            intro _
            cases t with
            | nil => simp [maxI]
            | cons z t =>
              unfold maxI
              have := ih (by simp)
              rcases Int.le_total x (maxI (z :: t)) with q | q
              · rw [Int.max_eq_right q]; exact List.mem_cons_of_mem _ this
              · rw [Int.max_eq_left q]; simp
        exact g _ (List.mem_cons_of_mem _ (key _ (by simp)))
      omega
theorem minI_of {m : Int} : ∀ {ns : List Int}, m ∈ ns → (∀ z, z ∈ ns → m ≤ z) → minI ns = m
  | [], h, _ => by simp at h
  | [a], h, _ => by simp at h; simp [minI, h]
  | a :: b :: r, h, g => by
    have g0 := g a (by simp)
    unfold minI
    by_cases hm : m ∈ b :: r
    · rw [minI_of hm fun z hz => g z (List.mem_cons_of_mem _ hz)]
      omega
    · have : m = a := by rcases List.mem_cons.mp h with h | h; exact h; exact absurd h hm
      subst this
      have : m ≤ minI (b :: r) := by
        have key : ∀ ns : List Int, ns ≠ [] → minI ns ∈ ns := by
          intro ns
          induction ns with
          | nil => intro h; exact absurd rfl h
          | cons x t ih =>
            intro _
            cases t with
            | nil => simp [minI]
            | cons z t =>
              unfold minI
              have := ih (by simp)
              rcases Int.le_total x (minI (z :: t)) with q | q
              · rw [Int.min_eq_left q]; simp
              · rw [Int.min_eq_right q]; exact List.mem_cons_of_mem _ this
        exact g _ (List.mem_cons_of_mem _ (key _ (by simp)))
      omega
theorem len_ok (hK : y.K = X.K) : CallR X (.builtin "len") (rBi y .len) := by
  intro pins s σ H xs us Q I r h
  obtain ⟨F, S, vs, st, rl, po⟩ := h
  match vs, rl, po with
  | [], _, po => exact po.bad.elim
  | [.str t], rl, po =>
    obtain ⟨u, rfl, ru⟩ := rl.one
    obtain rfl := ru.of_str
    simp only [biop] at po
    split at po
    · rename_i hl
      refine call_len pins s σ H _ us Q I r ⟨_, t.length, rfl, ⟨by rw [size_sv]; exact mx_line hl, by rw [size_sv]⟩, po.int st⟩
    · exact po.bad.elim
  | [.non], _, po => exact po.bad.elim
  | [.bl _], _, po => exact po.bad.elim
  | [.int _], _, po => exact po.bad.elim
  | [.tup ys], rl, po =>
    obtain ⟨u, rfl, ru⟩ := rl.one
    obtain ⟨p, ws, rfl, t, rl2⟩ := ru.of_tup
    rw [hK] at t
    refine call_len pins s σ H _ us Q I r ⟨_, ys.length, rfl, .inr ⟨ws, t.sq, RL.length rl2⟩, ?_⟩
    exact Post.int (i := ys.length) po st
  | [.lst ys], rl, po =>
    obtain ⟨u, rfl, ru⟩ := rl.one
    obtain ⟨p, ws, rfl, t, _, rl2⟩ := ru.of_lst
    refine call_len pins s σ H _ us Q I r ⟨_, ys.length, rfl, .inl ⟨ws, .of t, RL.length rl2⟩, ?_⟩
    exact Post.int (i := ys.length) po st
  | [.scr ns], rl, po =>
    obtain ⟨u, rfl, ru⟩ := rl.one
    simp only [Cy.R, R] at ru
    obtain ⟨p, rfl, t⟩ := ru
    rw [hK] at t
    refine call_len pins s σ H _ us Q I r ⟨_, (ns.map Val.int).length, rfl, .inl ⟨_, t.sq, by simp⟩, ?_⟩
    exact Post.int (i := (ns.map Val.int).length) po st
  | [.loc n], rl, po =>
    obtain ⟨u, rfl, ru⟩ := rl.one
    simp only [biop] at po
    cases e : items S (.loc n) with
    | none => rw [e] at po; exact po.bad.elim
    | some ys =>
      rw [e] at po
      obtain ⟨p, ws, rfl, rl2, sq⟩ := items_R st ru e
      rw [hK] at sq
      rcases sq with ⟨sq, _⟩ | ⟨sq, _⟩
      · exact call_len pins s σ H _ us Q I r ⟨_, ys.length, rfl, .inl ⟨ws, sq, RL.length rl2⟩, Post.int (i := ys.length) po st⟩
      · exact call_len pins s σ H _ us Q I r ⟨_, ys.length, rfl, .inr ⟨ws, sq, RL.length rl2⟩, Post.int (i := ys.length) po st⟩
  | _ :: _ :: _, _, po => exact (show False by simpa [biop, Post] using po).elim
theorem abs_ok : CallR X (.builtin "abs") (rBi y .abs) := by
  intro pins s σ H xs us Q I r h
  obtain ⟨F, S, vs, st, rl, po⟩ := h
  match vs, rl, po with
  | [.int i], rl, po =>
    obtain ⟨u, rfl, ru⟩ := rl.one
    obtain rfl := ru.of_int
    exact call_abs pins s σ H _ us Q I r ⟨i, rfl, Post.int po st⟩
  | [], _, po => exact po.bad.elim
  | [.non], _, po => exact po.bad.elim
  | [.bl _], _, po => exact po.bad.elim
  | [.str _], _, po => exact po.bad.elim
  | [.tup _], _, po => exact po.bad.elim
  | [.lst _], _, po => exact po.bad.elim
  | [.loc _], _, po => exact po.bad.elim
  | [.scr _], _, po => exact po.bad.elim
  | _ :: _ :: _, _, po => exact (show False by simpa [biop, Post] using po).elim
theorem int_ok : CallR X (.type "int") (rBi y .int) := by
  intro pins s σ H xs us Q I r h
  obtain ⟨F, S, vs, st, rl, po⟩ := h
  match vs, rl, po with
  | [.int i], rl, po =>
    obtain ⟨u, rfl, ru⟩ := rl.one
    obtain rfl := ru.of_int
    exact call_int1 pins s σ H _ us Q I r (.inl ⟨i, rfl, Post.int po st⟩)
  | [.bl b], rl, po =>
    obtain ⟨u, rfl, ru⟩ := rl.one
    obtain rfl := ru.of_bl
    exact call_int1 pins s σ H _ us Q I r (.inr ⟨b, rfl, Post.int po st⟩)
  | [], _, po => exact po.bad.elim
  | [.non], _, po => exact po.bad.elim
  | [.str _], _, po => exact po.bad.elim
  | [.tup _], _, po => exact po.bad.elim
  | [.lst _], _, po => exact po.bad.elim
  | [.loc _], _, po => exact po.bad.elim
  | [.scr _], _, po => exact po.bad.elim
  | _ :: _ :: _, _, po => exact (show False by simpa [biop, Post] using po).elim
theorem tuple_ok (hK : y.K = X.K) : CallR X (.type "tuple") (rBi y .tuple) := by
  intro pins s σ H xs us Q I r h
  obtain ⟨F, S, vs, st, rl, po⟩ := h
  match vs, rl, po with
  | [], _, po => exact po.bad.elim
  | [v], rl, po =>
    obtain ⟨u, rfl, ru⟩ := rl.one
    simp only [biop] at po
    cases e : items S v with
    | none => rw [e] at po; exact po.bad.elim
    | some ys =>
      rw [e] at po
      obtain ⟨p, ws, rfl, rl2, sq⟩ := items_R st ru e
      rw [hK] at sq
      rcases sq with ⟨sq, _⟩ | ⟨sq, e2⟩
      · exact call_tuple_of pins s σ H _ us Q I r ⟨p, ws, rfl, .inl ⟨sq, fun l hl => Post.newT (xs := ys) po st rl2 hl⟩⟩
      · subst e2
        exact call_tuple_of pins s σ H _ us Q I r ⟨p, ws, rfl, .inr ⟨sq, Post.ok (a := Val.tup ys) po st ru⟩⟩
  | _ :: _ :: _, _, po => exact (show False by simpa [biop, Post] using po).elim
theorem sum_ok (hK : y.K = X.K) (hc : X.calm = true) : CallR X (.builtin "sum") (rBi y .sum) := by
  intro pins s σ H xs us Q I r h
  obtain ⟨F, S, vs, st, rl, po⟩ := h
  match vs, rl, po with
  | [], _, po => exact po.bad.elim
  | [v], rl, po =>
    obtain ⟨u, rfl, ru⟩ := rl.one
    simp only [biop] at po
    cases e : items S v with
    | none => rw [e] at po; exact po.bad.elim
    | some ys =>
      rw [e] at po
      dsimp only at po
      cases e2 : intsOf ys with
      | none => rw [e2] at po; exact po.bad.elim
      | some ns =>
        rw [e2] at po
        obtain ⟨p, ws, rfl, rl2, sq⟩ := items_R st ru e
        rw [intsOf_map e2] at rl2
        obtain rfl := rl2.ints
        rw [hK] at sq
        rcases sq with ⟨sq, _⟩ | ⟨sq, _⟩
        · exact cr_sum hc pins s σ H _ us Q I r ⟨p, ns, rfl, sq, Post.int po st⟩
        · obtain ⟨its, rv, pt, hz⟩ := I.tuple sq
          rw [Vals.ref1 r]
          have hi := rv.ints
          obtain ⟨xs, hx⟩ := hi.allInts.items
          have hn : numsOf (intItems xs).toList = ns := by rw [← hx]; exact hi.numsOf
          rw [hx] at pt
          rw [nums_intItems] at hn
          refine PySem.W.ktm_sumG (I.ok.hd hc) pt fun h' tk t' hk => ?_
          rw [preSum_eq, List.take_of_length_le (by simp), hn]
          exact ⟨.int _, H, I.kept (t' := tk) hk, ⟨_, rfl⟩, Post.int po st⟩
  | _ :: _ :: _, _, po => exact (show False by simpa [biop, Post] using po).elim
theorem all_ok (hK : y.K = X.K) (hc : X.calm = true) : CallR X (.builtin "all") (rBi y .all) := by
  intro pins s σ H xs us Q I r h
  obtain ⟨F, S, vs, st, rl, po⟩ := h
  match vs, rl, po with
  | [], _, po => exact po.bad.elim
  | [v], rl, po =>
    obtain ⟨u, rfl, ru⟩ := rl.one
    simp only [biop] at po
    cases e : lstOf S v with
    | none => rw [e] at po; exact po.bad.elim
    | some ys =>
      rw [e] at po
      dsimp only at po
      cases e2 : bsOf ys with
      | none => rw [e2] at po; exact po.bad.elim
      | some ns =>
        rw [e2] at po
        obtain ⟨p, rfl, sq⟩ := lst_bls hK st ru e e2
        exact cr_all hc pins s σ H _ us Q I r ⟨p, ns, rfl, sq, Post.bl po st⟩
  | _ :: _ :: _, _, po => exact (show False by simpa [biop, Post] using po).elim
theorem any_ok (hK : y.K = X.K) (hc : X.calm = true) : CallR X (.builtin "any") (rBi y .any) := by
  intro pins s σ H xs us Q I r h
  obtain ⟨F, S, vs, st, rl, po⟩ := h
  match vs, rl, po with
  | [], _, po => exact po.bad.elim
  | [v], rl, po =>
    obtain ⟨u, rfl, ru⟩ := rl.one
    simp only [biop] at po
    cases e : lstOf S v with
    | none => rw [e] at po; exact po.bad.elim
    | some ys =>
      rw [e] at po
      dsimp only at po
      cases e2 : bsOf ys with
      | none => rw [e2] at po; exact po.bad.elim
      | some ns =>
        rw [e2] at po
        obtain ⟨p, rfl, sq⟩ := lst_bls hK st ru e e2
        exact cr_any hc pins s σ H _ us Q I r ⟨p, ns, rfl, sq, Post.bl po st⟩
  | _ :: _ :: _, _, po => exact (show False by simpa [biop, Post] using po).elim
theorem alike_ints (n : Int) (ns : List Int) : PySem.W.AlikeAll (.int n :: ns.map .int) := by
  have h : ∀ x ∈ (PyData.int n :: ns.map PyData.int), ∃ k, x = .int k := fun x hx => by
    rcases List.mem_cons.mp hx with rfl | hx
    · exact ⟨n, rfl⟩
    · obtain ⟨k, _, rfl⟩ := List.mem_map.mp hx
      exact ⟨k, rfl⟩
  refine ⟨fun x hx z hz => ?_, fun x hx => ?_⟩
  · obtain ⟨k, rfl⟩ := h x hx
    obtain ⟨l, rfl⟩ := h z hz
    rfl
  · obtain ⟨k, rfl⟩ := h x hx
    intro z
    cases z
theorem depth_ints (n : Int) (ns : List Int) : PyData.depthAll (.int n :: ns.map .int) = 0 := by
  have : ∀ ns : List Int, PyData.depthAll (ns.map .int) = 0 := by
    intro ns
    induction ns with
    | nil => simp [PyData.depthAll]
    | cons a ns ih => simp [PyData.depthAll, PyData.depth, ih]
  simp [PyData.depthAll, PyData.depth, this ns]
theorem reads_int {h : Heap} {v : Value} {k : Int} {as : List Addr} (r : PySem.Reads h v (.int k) as) : ∃ t, v = .int k t := by
  cases r
  exact ⟨_, rfl⟩
theorem foldl_minI : ∀ (ns : List Int) (n : Int), ns.foldl min n = minI (n :: ns)
  | [], n => rfl
  | a :: ns, n => by
    have key : ∀ (l : List Int) (a b : Int), min a (l.foldl min b) = l.foldl min (min a b) := by
      intro l
      induction l with
      | nil => intro a b; rfl
      | cons c l ih =>
        intro a b
        rw [List.foldl_cons, List.foldl_cons, ih, Int.min_assoc]
    rw [List.foldl_cons, ← key, foldl_minI ns a]
    rfl
theorem foldl_maxI : ∀ (ns : List Int) (n : Int), ns.foldl max n = maxI (n :: ns)
  | [], n => rfl
  | a :: ns, n => by
    have key : ∀ (l : List Int) (a b : Int), max a (l.foldl max b) = l.foldl max (max a b) := by
      intro l
      induction l with
      | nil => intro a b; rfl
      | cons c l ih =>
        intro a b
        rw [List.foldl_cons, List.foldl_cons, ih, Int.max_assoc]
    rw [List.foldl_cons, ← key, foldl_maxI ns a]
    rfl
theorem minD_int (n : Int) (ns : List Int) : PySem.W.minD (.int n) (ns.map .int) = .int (minI (n :: ns)) := by rw [PySem.W.minD_ints, foldl_minI]
theorem maxD_int (n : Int) (ns : List Int) : PySem.W.maxD (.int n) (ns.map .int) = .int (maxI (n :: ns)) := by rw [PySem.W.maxD_ints, foldl_maxI]
theorem maxL_ok (hK : y.K = X.K) (hc : X.calm = true) (hu : X.A.units + 64 < cLine) : CallR X (.builtin "max") (rBi y .maxL) := by
  intro pins s σ H xs us Q I r h
  obtain ⟨F, S, vs, st, rl, po⟩ := h
  match vs, rl, po with
  | [], _, po => exact po.bad.elim
  | [v], rl, po =>
    obtain ⟨u, rfl, ru⟩ := rl.one
    simp only [biop] at po
    cases e : items S v with
    | none => rw [e] at po; exact po.bad.elim
    | some ys =>
      rw [e] at po
      dsimp only at po
      cases e2 : intsOf ys with
      | none => rw [e2] at po; exact po.bad.elim
      | some ns =>
        rw [e2] at po
        cases ns with
        | nil => exact po.bad.elim
        | cons n ns =>
          obtain ⟨p, ws, rfl, rl2, sq⟩ := items_R st ru e
          rw [intsOf_map e2] at rl2
          obtain rfl := rl2.ints
          rw [hK] at sq
          rcases sq with ⟨sq, _⟩ | ⟨sq, _⟩
          · refine cr_max hc pins s σ H _ us Q I r ⟨p, n :: ns, rfl, sq, by simp, fun m hm hb => ?_⟩
            rw [← maxI_of hm hb]
            exact Post.int po st
          · obtain ⟨its, rv, pt, hz⟩ := I.tuple sq
            rw [Vals.ref1 r]
            refine PySem.W.max_tuple_data (x := .int n) (xs := ns.map .int) (as := []) (I.ok.hd hc) pt (by simpa using rv.ints.reads s.heap) (alike_ints n ns) (by rw [depth_ints]; omega) fun i v' h' tk bs _ hr hk => ?_
            rw [maxD_int] at hr
            obtain ⟨t, rfl⟩ := reads_int hr
            exact ⟨.int _, H, I.kept (t' := tk) hk, ⟨t, rfl⟩, Post.int po st⟩
  | _ :: _ :: _, _, po => exact (show False by simpa [biop, Post] using po).elim
theorem minL_ok (hK : y.K = X.K) (hc : X.calm = true) (hu : X.A.units + 64 < cLine) : CallR X (.builtin "min") (rBi y .minL) := by
  intro pins s σ H xs us Q I r h
  obtain ⟨F, S, vs, st, rl, po⟩ := h
  match vs, rl, po with
  | [], _, po => exact po.bad.elim
  | [v], rl, po =>
    obtain ⟨u, rfl, ru⟩ := rl.one
    simp only [biop] at po
    cases e : items S v with
    | none => rw [e] at po; exact po.bad.elim
    | some ys =>
      rw [e] at po
      dsimp only at po
      cases e2 : intsOf ys with
      | none => rw [e2] at po; exact po.bad.elim
      | some ns =>
        rw [e2] at po
        cases ns with
        | nil => exact po.bad.elim
        | cons n ns =>
          obtain ⟨p, ws, rfl, rl2, sq⟩ := items_R st ru e
          rw [intsOf_map e2] at rl2
          obtain rfl := rl2.ints
          rw [hK] at sq
          rcases sq with ⟨sq, _⟩ | ⟨sq, _⟩
          · refine cr_min hc pins s σ H _ us Q I r ⟨p, n :: ns, rfl, sq, by simp, fun m hm hb => ?_⟩
            rw [← minI_of hm hb]
            exact Post.int po st
          · obtain ⟨its, rv, pt, hz⟩ := I.tuple sq
            rw [Vals.ref1 r]
            refine PySem.W.min_tuple_data (x := .int n) (xs := ns.map .int) (as := []) (I.ok.hd hc) pt (by simpa using rv.ints.reads s.heap) (alike_ints n ns) (by rw [depth_ints]; omega) fun i v' h' tk bs _ hr hk => ?_
            rw [minD_int] at hr
            obtain ⟨t, rfl⟩ := reads_int hr
            exact ⟨.int _, H, I.kept (t' := tk) hk, ⟨t, rfl⟩, Post.int po st⟩
  | _ :: _ :: _, _, po => exact (show False by simpa [biop, Post] using po).elim
/-- min(xs, default=None) -/
theorem cr_minDef (hK : y.K = X.K) (hc : X.calm = true) (hu : X.A.units + 64 < cLine) {rr : List V → Hp → VK → Prop} (hr : ∀ xs H Q, rr xs H Q → ∃ F S v, y.St F S H ∧ y.RL F H [v] xs ∧ Post y F H (match items S v with
    | some xs => (match intsOf xs with
      | some [] => .ok .non S
      | some (n :: ns) => .ok (.int (minI (n :: ns))) S
      | none => .bad)
    | none => .bad) y.R WT Q) : CallRK X (.builtin "min") [Str.ofString "default"] (fun vs zs H Q => zs = [V.non] ∧ rr vs H Q) := by
  intro pins s σ H xs zs us ws Q I r rz h
  obtain ⟨rfl, h⟩ := h
  obtain ⟨F, S, v, st, rl, po⟩ := hr xs H Q h
  obtain ⟨u, rfl, ru⟩ := rl.one
  obtain ⟨w1, rfl, e1⟩ := vals1 rz
  obtain rfl : w1 = Value.none := e1
  cases e : items S v with
  | none => rw [e] at po; exact po.bad.elim
  | some ys =>
    rw [e] at po
    dsimp only at po
    cases e2 : intsOf ys with
    | none => rw [e2] at po; exact po.bad.elim
    | some ns =>
      rw [e2] at po
      obtain ⟨p, ws, rfl, rl2, sq⟩ := items_R st ru e
      rw [intsOf_map e2] at rl2
      obtain rfl := rl2.ints
      rw [hK] at sq
      rw [Vals.ref1 r]
      have dz : PyData.depthAll (ns.map .int) = 0 := by
        cases ns with
        | nil => rfl
        | cons n ns => exact depth_ints n ns
      have al : PySem.W.AlikeAll (ns.map .int) := by
        cases ns with
        | nil => exact ⟨fun x hx => by simp at hx, fun x hx => by simp at hx⟩
        | cons n ns => exact alike_ints n ns
      have h0 : ns.map PyData.int = [] → ∀ h' tk, (∀ b o, s.heap.get? b = some o → h'.get? b = some o) → EP X pins σ Q Value.none { s with heap := h', toks := tk } := fun z h' tk hk => by
        have : ns = [] := by simpa using z
        subst this
        exact ⟨.non, H, I.kept (t' := tk) hk, rfl, Post.non po st⟩
      have h1 : ∀ (q : PyData) (qs : List PyData) (i : Nat) v' h' tk bs, ns.map PyData.int = q :: qs → PySem.Reads h' v' (PySem.W.minD q qs) bs → (∀ b o, s.heap.get? b = some o → h'.get? b = some o) → EP X pins σ Q v' { s with heap := h', toks := tk } := fun q qs i v' h' tk bs z hr hk => by
        cases ns with
        | nil => cases z
        | cons n ns =>
          cases z
          rw [minD_int] at hr
          obtain ⟨t, rfl⟩ := reads_int hr
          exact ⟨.int _, H, I.kept (t' := tk) hk, ⟨t, rfl⟩, Post.int po st⟩
      rcases sq with ⟨sq, _⟩ | ⟨sq, _⟩
      · obtain ⟨its, rv, pt, hz⟩ := I.list sq
        exact PySem.W.min_list_default (xs := ns.map .int) (as := []) (I.ok.hd hc) pt.isList (by simpa using rv.ints.reads s.heap) al (by rw [dz]; omega) h0 fun q qs i v' h' tk bs z _ hr hk => h1 q qs i v' h' tk bs z hr hk
      · obtain ⟨its, rv, pt, hz⟩ := I.tuple sq
        exact PySem.W.min_tuple_default (xs := ns.map .int) (as := []) (I.ok.hd hc) pt (by simpa using rv.ints.reads s.heap) al (by rw [dz]; omega) h0 fun q qs i v' h' tk bs z _ hr hk => h1 q qs i v' h' tk bs z hr hk
theorem max2_ok (hc : X.calm = true) : CallR X (.builtin "max") (rBi y .max2) := by
  intro pins s σ H xs us Q I r h
  obtain ⟨F, S, vs, st, rl, po⟩ := h
  simp only [biop] at po
  split at po
  · rename_i i j
    obtain ⟨u, v, rfl, r1, r2⟩ := rl.two
    obtain rfl := r1.of_int
    obtain rfl := r2.of_int
    exact call_max2 hc pins s σ H _ us Q I r ⟨i, j, rfl, Post.int po st⟩
  · exact po.bad.elim
theorem min2_ok (hc : X.calm = true) : CallR X (.builtin "min") (rBi y .min2) := by
  intro pins s σ H xs us Q I r h
  obtain ⟨F, S, vs, st, rl, po⟩ := h
  simp only [biop] at po
  split at po
  · rename_i i j
    obtain ⟨u, v, rfl, r1, r2⟩ := rl.two
    obtain rfl := r1.of_int
    obtain rfl := r2.of_int
    exact call_min2 hc pins s σ H _ us Q I r ⟨i, j, rfl, Post.int po st⟩
  · exact po.bad.elim
/-! ### isinstance -/
def Ty.s : Ty → String
  | .int => "int"
  | .bool => "bool"
  | .str => "str"
  | .list => "list"
  | .tuple => "tuple"
def Ty.nm : Ty → Str
  | .int => "int"
  | .bool => "bool"
  | .str => "str"
  | .list => "list"
  | .tuple => "tuple"
def Kd.s : Kd → String
  | .non => "NoneType"
  | .bool => "bool"
  | .int => "int"
  | .str => "str"
  | .list => "list"
  | .tuple => "tuple"
theorem boot_ty (t : Ty) : bootBuiltins t.nm = some (.type t.s) := by
  cases t <;> decide +kernel
theorem nm_ok (t : Ty) : t.nm ≠ ("__name__" : Str) ∧ (t.nm == ("__debug__" : Str)) = false ∧ t.nm ∈ bltNames := by
  cases t <;> decide
theorem kd_kit {K : PySem.W.Frag} (a : Kd) (t : Ty) : PySem.W.kitOne K (.type a.s) (.type t.s) = some (kdB a t) := by
  cases a <;> cases t <;> exact kit_ty (by decide +kernel)
theorem kd_any {K : PySem.W.Frag} (a : Kd) : ∀ ts : List Ty, PySem.W.kitAny K (.type a.s) (ts.map fun t => Value.type t.s) = some (ts.any (kdB a))
  | [] => kitAny_nil
  | t :: ts => by
    refine kitAny_cons (kd_kit a t) (fun h => ?_) fun h => ?_
    · rw [kd_any a ts, List.any_cons, h]; rfl
    · rw [List.any_cons, h]; rfl
theorem kd_ty {F : Fs} {H : Hp} {S : Store} {v : Val} {x : V} {a : Kd} (hK : y.K = X.K) (st : y.St F S H) (r : y.R F H v x) (e : kd S v = some a) : TyX X.K H x (.type a.s) := by
  cases v with
  | non => cases e; rw [r.of_non]; exact .base .non
  | bl b => cases e; rw [r.of_bl]; exact .base (.bl b)
  | int i => cases e; rw [r.of_int]; exact .base (.int i)
  | str s => cases e; rw [r.of_str]; exact .base (.str _)
  | tup xs =>
    cases e
    obtain ⟨p, us, rfl, t, _⟩ := r.of_tup
    rw [hK] at t
    rcases t with t | ⟨o, its, n, e1, e2, _⟩
    · exact .base (.tup t)
    · exact .kTuple e1 e2
  | lst xs =>
    cases e
    obtain ⟨p, us, rfl, t, _⟩ := r.of_lst
    exact .base (.lst t)
  | scr ns =>
    cases e
    simp only [Cy.R, R] at r
    obtain ⟨p, rfl, t⟩ := r
    rw [hK] at t
    rcases t with ⟨o, t⟩ | ⟨o, its, n, e1, e2, _⟩
    · exact .base (.frz t)
    · exact .kList e1 e2
  | loc n =>
    cases q : S[n]? with
    | none => simp [kd, q] at e
    | some ob =>
      cases ob with
      | dead => simp [kd, q] at e
      | lst xs =>
        have : Kd.list = a := by simpa [kd, q] using e
        subst this
        obtain ⟨p, us, h1, t, _⟩ := st.lst q
        rw [r.loc_ref h1]
        exact .base (.lst t)
      | frz xs =>
        have : Kd.list = a := by simpa [kd, q] using e
        subst this
        obtain ⟨p, o, us, h1, t, _⟩ := st.frz q
        rw [r.loc_ref h1]
        exact .base (.frz t)
theorem isi_inv {ts : List Ty} {F : Fs} {H : Hp} {S : Store} {v : Val} {x : V} {Q : VK} {W : WK} (hK : y.K = X.K) (st : y.St F S H) (r : y.R F H v x) (po : Post y F H (biop (.isi ts) [v] S) y.R W Q) :
    ∃ a, TyX X.K H x (.type (Kd.s a)) ∧ Q (.bl (ts.any (kdB a))) H := by
  simp only [biop] at po
  cases e : kd S v with
  | none => rw [e] at po; exact po.bad.elim
  | some a =>
    rw [e] at po
    exact ⟨a, kd_ty hK st r e, Post.bl po st⟩
theorem pe_ty (g : Good P k N sc so X) (t : Ty) (h : gloB sc t.nm = true) {pos : Pos} : PE X (.Name t.nm pos) (tC (.ty t.s)) := by
  obtain ⟨h1, _⟩ := g.glo h
  obtain ⟨n1, n2, n3⟩ := nm_ok t
  exact pe_bltn h1 (g.blt _ n3) (boot_ty t) rfl n1 n2
theorem boot_isi : bootBuiltins "isinstance" = some (.builtin "isinstance") := by decide +kernel
theorem x_isi1 (g : Good P k N sc so X) {e : Ex} {ea : Expr} {t : Ty} {p p2 pos : Pos} (ha : PE X ea (tE (cy P k X Z) W e)) (hn : notStar ea = true) (h : gloB sc t.nm = true) (h2 : gloB sc "isinstance" = true) :
    PE X (.Call (.Name "isinstance" p) [ea, .Name t.nm p2] [] pos) (tE (cy P k X Z) W (.bi (.isi [t]) (.cons e .nil))) := by
  refine PE.weak (pe_callB call_isi (g.glo h2).1 (g.blt _ (by decide)) boot_isi (pa_cons ha (pa_cons (pe_ty g t h) pa_nil) (notStar_each hn)) (he := notStar_each hn)) fun σ H Q ⟨F, S, r, st, en, po⟩ => ?_
  simp only [ev, evs, Out.bind_assoc, Out.bind_ok] at po
  refine ⟨F, S, r, st, en, po.bind.mono fun x H1 ⟨F1, v, S1, k1, s1, r1, po1⟩ => ?_⟩
  obtain ⟨a, ty, q⟩ := isi_inv (y := cy P k X Z) rfl s1 r1 po1
  exact ⟨x, .ty t.s, .type a.s, .type t.s, _, rfl, .ty _, ty, kd_kit a t, by simpa using q⟩
def tyNames : List Expr → List Ty → Bool
  | [], [] => true
  | .Name x _ :: r, t :: ts => (x == t.nm) && tyNames r ts
  | _, _ => false
def tyVs (ts : List Ty) : TA := fun _ H Q => Q (ts.map fun t => V.ty t.s) H
theorem pa_tys (g : Good P k N sc so X) : ∀ {es : List Expr} {ts : List Ty}, tyNames es ts = true → (∀ t ∈ ts, gloB sc t.nm = true) → PA X es (tyVs ts)
  | [], [], _, _ => PA.weak pa_nil fun σ H Q h => h
  | .Name x q :: r, t :: ts, h, h2 => by
    have h3 : x = t.nm ∧ tyNames r ts = true := by simpa [tyNames] using h
    obtain ⟨rfl, h3⟩ := h3
    exact PA.weak (pa_cons (pe_ty g t (h2 t (by simp))) (pa_tys g h3 fun z hz => h2 z (List.mem_cons_of_mem _ hz)) rfl) fun σ H Q h => h
  | [], _ :: _, h, _ => by simp [tyNames] at h
  | e :: r, [], h, _ => by cases e <;> simp [tyNames] at h
  | e :: r, t :: ts, h, h2 => by
    cases e with
    | Name x q =>
      have h3 : x = t.nm ∧ tyNames r ts = true := by simpa [tyNames] using h
      obtain ⟨rfl, h3⟩ := h3
      exact PA.weak (pa_cons (pe_ty g t (h2 t (by simp))) (pa_tys g h3 fun z hz => h2 z (List.mem_cons_of_mem _ hz)) rfl) fun σ H Q h => h
    | _ => simp [tyNames] at h
theorem paired_ty : ∀ ts : List Ty, Paired ClsV (ts.map fun t => V.ty t.s) (ts.map fun t => Value.type t.s)
  | [] => .nil
  | t :: ts => .cons (.ty _) (paired_ty ts)
theorem Keep.hp {F : Fs} {H : Hp} (s : StOk y.K y.Z F S H) {p : Addr} {o : HO} (hp : H p = none) : y.Kp F H F (upd H p o) := Keep.new s hp
theorem x_isiT (g : Good P k N sc so X) {e : Ex} {ea : Expr} {ts : List Ty} {es : List Expr} {j : Nat} {p p2 pos : Pos} (ha : PE X ea (tE (cy P k X Z) W e)) (hn : notStar ea = true) (h : ∀ t ∈ ts, gloB sc t.nm = true) (h2 : gloB sc "isinstance" = true) (h3 : tyNames es ts = true) (h4 : ts.length ≤ mx) :
    PE X (.Call (.Name "isinstance" p) [ea, .Tuple es j p2] [] pos) (tE (cy P k X Z) W (.bi (.isi ts) (.cons e .nil))) := by
  refine PE.weak (pe_callB call_isiT (g.glo h2).1 (g.blt _ (by decide)) boot_isi (pa_cons ha (pa_cons (pe_tup (pa_tys g h3 h)) pa_nil) (notStar_each hn)) (he := notStar_each hn)) fun σ H Q ⟨F, S, r, st, en, po⟩ => ?_
  simp only [ev, evs, Out.bind_assoc, Out.bind_ok] at po
  refine ⟨F, S, r, st, en, po.bind.mono fun x H1 ⟨F1, v, S1, k1, s1, r1, po1⟩ => ?_⟩
  refine ⟨by rw [List.length_map]; exact mx_line h4, fun q hq => ?_⟩
  have kn : (cy P k X Z).Kp F1 H1 F1 (upd H1 q (.tup (ts.map fun t => V.ty t.s))) := Keep.new s1 hq
  obtain ⟨a, ty, qq⟩ := isi_inv (y := cy P k X Z) rfl (StOk.new s1 hq) (R.keep kn.toKp r1) (Post.keep kn po1)
  exact ⟨x, q, _, .type a.s, _, _, rfl, upd_same, paired_ty ts, ty, kd_any a ts, qq⟩
/-! ### built-ins by name -/
def Bi.py : Bi → Option (Str × Value)
  | .len => some ("len", .builtin "len")
  | .abs => some ("abs", .builtin "abs")
  | .int => some ("int", .type "int")
  | .tuple => some ("tuple", .type "tuple")
  | .sum => some ("sum", .builtin "sum")
  | .all => some ("all", .builtin "all")
  | .any => some ("any", .builtin "any")
  | .max2 => some ("max", .builtin "max")
  | .min2 => some ("min", .builtin "min")
  | .maxL => some ("max", .builtin "max")
  | .minL => some ("min", .builtin "min")
  | .isi _ => none
theorem boot_bi {b : Bi} {x : Str} {v : Value} (h : b.py = some (x, v)) : bootBuiltins x = some v ∧ x ≠ ("__name__" : Str) ∧ (x == ("__debug__" : Str)) = false ∧ x ∈ bltNames := by
  cases b <;> simp [Bi.py] at h <;> obtain ⟨rfl, rfl⟩ := h <;> exact ⟨by decide +kernel, by decide, by decide, by decide⟩
theorem bi_ok (hK : y.K = X.K) (hc : X.calm = true) (hu : X.A.units + 64 < cLine) {b : Bi} {x : Str} {v : Value} (h : b.py = some (x, v)) : CallR X v (rBi y b) := by
  cases b <;> simp [Bi.py] at h <;> obtain ⟨rfl, rfl⟩ := h
  · exact len_ok hK
  · exact abs_ok
  · exact int_ok
  · exact tuple_ok hK
  · exact sum_ok hK hc
  · exact all_ok hK hc
  · exact any_ok hK hc
  · exact max2_ok hc
  · exact min2_ok hc
  · exact maxL_ok hK hc hu
  · exact minL_ok hK hc hu
theorem bi_kind {b : Bi} {x : Str} {v : Value} (h : b.py = some (x, v)) : (∃ id, v = .builtin id) ∨ ∃ T, v = .type T := by
  cases b <;> simp [Bi.py] at h <;> obtain ⟨rfl, rfl⟩ := h <;> first
    | exact .inl ⟨_, rfl⟩
    | exact .inr ⟨_, rfl⟩
theorem x_bi (g : Good P k N sc so X) {b : Bi} {es : Exs} {x : Str} {v : Value} {ea : Expr} {eas : List Expr} {p pos : Pos} (hb : b.py = some (x, v)) (hg : gloB sc x = true) (hs : PA X (ea :: eas) (tAs (cy P k X Z) W es)) (hn : allPlain (ea :: eas) = true) :
    PE X (.Call (.Name x p) (ea :: eas) [] pos) (tE (cy P k X Z) W (.bi b es)) := by
  obtain ⟨b1, b2, b3, b4⟩ := boot_bi hb
  have hn2 : notStar ea = true ∧ allPlain eas = true := by simpa [allPlain] using hn
  have key : PE X (.Call (.Name x p) (ea :: eas) [] pos) (tCB (rBi (cy P k X Z) b) (tAs (cy P k X Z) W es)) := by
    have cr := bi_ok (y := cy P k X Z) rfl g.calm g.room.units hb
    rcases bi_kind hb with ⟨id, rfl⟩ | ⟨T, rfl⟩
    · exact pe_callB cr (g.glo hg).1 (g.blt _ b4) b1 hs b2 b3 (notStar_each hn2.1) (allPlain_any hn2.2)
    · exact pe_callTy cr (g.glo hg).1 (g.blt _ b4) b1 hs b2 b3 (notStar_each hn2.1) (allPlain_any hn2.2)
  refine PE.weak key fun σ H Q ⟨F, S, r, st, en, po⟩ => ?_
  simp only [ev] at po
  refine ⟨F, S, r, st, en, (po.bind (RA := (cy P k X Z).RL)).mono fun xs H1 ⟨F1, vs, S1, k1, s1, r1, po1⟩ => ?_⟩
  exact ⟨F1, S1, vs, s1, r1, po1.wish fun _ _ _ _ => trivial⟩
/-! ### methods -/
def rMt (y : Cy) (m : Mt) : V → List V → Hp → VK → Prop := fun x xs H Q => ∃ F S o vs, y.St F S H ∧ y.R F H o x ∧ y.RL F H vs xs ∧ Post y F H (mtop m o vs S) y.R WT Q
theorem append_ok : MtR X "list.append" (rMt y .append) := by
  intro pins s σ H x xs v us Q I rx rxs h
  obtain ⟨F, S, o, vs, st, ro, rl, po⟩ := h
  simp only [mtop] at po
  split at po
  · rename_i n
    split at po
    · rename_i w
      split at po
      · rename_i ys e
        split at po
        · rename_i hl
          obtain ⟨a, ws, h1, h2, rl2⟩ := StOk.lst st e
          obtain ⟨u, rfl, ru⟩ := RL.one rl
          have ex : x = .ref a := ro.loc_ref h1
          subst ex
          have kd := Keep.mut (us' := ws ++ [u]) st h1 h2
          refine mt_append pins s σ H _ _ v us Q I rx rxs ⟨a, ws, u, rfl, rfl, h2, ?_, ?_⟩
          · rw [← RL.length rl2, sizeLine_eq]; exact hl
          · exact po F _ .non kd (StOk.mut st h1 h2 (rl2.append (.cons ru RL.nil))) (by simp [Cy.R, R])
        · exact po.bad.elim
      · exact po.bad.elim
    · exact po.bad.elim
  · exact po.bad.elim
theorem extend_ok : MtR X "list.extend" (rMt y .extend) := by
  intro pins s σ H x xs v us Q I rx rxs h
  obtain ⟨F, S, o, vs, st, ro, rl, po⟩ := h
  simp only [mtop] at po
  split at po
  · rename_i n
    split at po
    · rename_i w
      split at po
      · rename_i ys e
        cases e2 : lstOf S w with
        | none => rw [e2] at po; exact po.bad.elim
        | some zs =>
          rw [e2] at po
          dsimp only at po
          split at po
          · rename_i hl
            obtain ⟨a, ws, h1, h2, rl2⟩ := StOk.lst st e
            obtain ⟨u, rfl, ru⟩ := RL.one rl
            obtain ⟨b, wz, rfl, h3, rl3⟩ := lstOf_R st ru e2
            have ex : x = .ref a := ro.loc_ref h1
            subst ex
            have kd := Keep.mut (us' := ws ++ wz) st h1 h2
            refine mt_extend pins s σ H _ _ v us Q I rx rxs ⟨a, b, ws, wz, rfl, rfl, h2, h3, ?_, ?_⟩
            · rw [← RL.length rl2, ← RL.length rl3]; exact mx_line hl
            · exact po F _ .non kd (StOk.mut st h1 h2 (rl2.append rl3)) (by simp [Cy.R, R])
          · exact po.bad.elim
      · exact po.bad.elim
    · exact po.bad.elim
  · exact po.bad.elim
theorem pop_ok : MtR X "list.pop" (rMt y .pop) := by
  intro pins s σ H x xs v us Q I rx rxs h
  obtain ⟨F, S, o, vs, st, ro, rl, po⟩ := h
  simp only [mtop] at po
  split at po
  · rename_i n
    split at po
    · split at po
      · rename_i ys e
        cases e2 : ys[ys.length - 1]? with
        | none => rw [e2] at po; exact po.bad.elim
        | some w =>
          rw [e2] at po
          obtain ⟨a, ws, h1, h2, rl2⟩ := StOk.lst st e
          obtain rfl := rl.nil_inv
          have ex : x = .ref a := ro.loc_ref h1
          subst ex
          obtain ⟨u, e3, ru⟩ := rl2.get e2
          have kd := Keep.mut (us' := ws.dropLast) st h1 h2
          refine mt_pop pins s σ H _ _ v us Q I rx rxs ⟨a, ws, u, rfl, rfl, h2, by rw [← RL.length rl2]; exact e3, ?_⟩
          refine po F _ u kd (StOk.mut st h1 h2 ?_) (ru.keep kd.toKp)
          rw [List.dropLast_eq_take, List.dropLast_eq_take, ← RL.length rl2]
          exact rl2.take _
      · exact po.bad.elim
    · exact po.bad.elim
  · exact po.bad.elim
theorem RL.eraseIdx {K : PySem.W.Frag} {F : Fs} {H : Hp} : ∀ {xs : List Val} {us : List V} (i : Nat), RL K Z F H xs us → RL K Z F H (xs.eraseIdx i) (us.eraseIdx i)
  | [], _, _, h => by rw [h.nil_inv]; simpa using RL.nil
  | x :: xs, _, 0, h => by
    obtain ⟨v, r, e, h1, h2⟩ := h.cons_inv
    subst e
    exact h2
  | x :: xs, _, i + 1, h => by
    obtain ⟨v, r, e, h1, h2⟩ := h.cons_inv
    subst e
    exact .cons h1 (RL.eraseIdx i h2)
theorem popi_ok : MtR X "list.pop" (rMt y .popi) := by
  intro pins s σ H x xs v us Q I rx rxs h
  obtain ⟨F, S, o, vs, st, ro, rl, po⟩ := h
  simp only [mtop] at po
  split at po
  · rename_i n
    split at po
    · rename_i i
      split at po
      · rename_i ys e
        split at po
        · rename_i hi
          cases e2 : ys[i.toNat]? with
          | none => rw [e2] at po; exact po.bad.elim
          | some w =>
            rw [e2] at po
            obtain ⟨a, ws, h1, h2, rl2⟩ := StOk.lst st e
            obtain ⟨u1, rfl, r1⟩ := RL.one rl
            obtain rfl := r1.of_int
            have ex : x = .ref a := ro.loc_ref h1
            subst ex
            obtain ⟨u, e3, ru⟩ := rl2.get e2
            have kd := Keep.mut (us' := ws.eraseIdx i.toNat) st h1 h2
            have hlt := (List.getElem?_eq_some_iff.mp e3).1
            refine mt_popAt pins s σ H _ _ v us Q I rx rxs ⟨a, ws, i, i.toNat, u, rfl, rfl, h2, by omega, by omega, ?_, e3, ?_⟩
            · unfold seqIndex?
              simp
              omega
            · exact po F _ u kd (StOk.mut st h1 h2 (rl2.eraseIdx _)) (ru.keep kd.toKp)
        · exact po.bad.elim
      · exact po.bad.elim
    · exact po.bad.elim
  · exact po.bad.elim
end
end DI
/-! DI7m: count, index of data; methods; sorted(..) of data. -/
namespace DI
open PySem PySem.Spec PyProof.Rows L2
mutual
theorem plain_of : ∀ v : Val, (toD v).plain = true
  | .non => by simp [toD, PyData.plain]
  | .bl _ => by simp [toD, PyData.plain]
  | .int _ => by simp [toD, PyData.plain]
  | .str _ => by simp [toD, PyData.plain]
  | .loc _ => by simp [toD, PyData.plain]
  | .scr _ => by simp [toD, PyData.plain]
  | .tup xs => by simp [toD, PyData.plain, plains_of xs]
  | .lst xs => by simp [toD, PyData.plain, plains_of xs]
theorem plains_of : ∀ xs : List Val, PyData.plainAll (toDs xs) = true
  | [] => by simp [toDs, PyData.plainAll]
  | x :: xs => by simp [toDs, PyData.plainAll, plain_of x, plains_of xs]
end
theorem countP_toDs {d : Val} (hd : d.dat = true) : ∀ {xs : List Val}, Val.dats xs = true → ((toDs xs).countP fun z => PyData.eqv z (toD d)) = xs.countP fun z => Val.eqv z d
  | [], _ => by simp [toDs]
  | x :: xs, h => by
    have e1 : x.dat = true ∧ Val.dats xs = true := by simpa [Val.dats] using h
    simp only [toDs, List.countP_cons, eqv_of e1.1 hd, countP_toDs hd e1.2]
theorem toDs_get : ∀ {xs : List Val} {j : Nat} (h1 : j < (toDs xs).length) (h2 : j < xs.length), (toDs xs)[j] = toD xs[j]
  | x :: xs, 0, _, _ => by simp [toDs]
  | x :: xs, j + 1, h1, h2 => by
    have := toDs_get (xs := xs) (j := j) (by simpa [toDs] using h1) (by simpa using h2)
    simpa [toDs] using this
theorem find_true : ∀ {bs : List Bool} {j : Nat}, bs.findIdx? id = some j → bs.idxOf true = j ∧ true ∈ bs
  | [], _, h => by simp at h
  | true :: bs, j, h => by
    have : 0 = j := by simpa [List.findIdx?_cons] using h
    subst this
    exact ⟨by simp, by simp⟩
  | false :: bs, j, h => by
    rw [List.findIdx?_cons] at h
    simp only [id, Bool.false_eq_true, if_false] at h
    obtain ⟨i, h1, h2⟩ := Option.map_eq_some_iff.mp h
    obtain ⟨h3, h4⟩ := find_true h1
    refine ⟨?_, by simp [h4]⟩
    rw [List.idxOf_cons]
    simp [h3, h2]
section
variable {P : Pg} {k : Nat} {N : List Str} {sc : List (Str × NameKind)} {so : List Str} {X : Cx} {Z : Addr → Prop} {W : WX} {y : Cy}
/-- a list of data and a datum, in the heap -/
theorem seq_raw {F : Fs} {H : Hp} {S : Store} {o v : Val} {x z : V} {vx vz : Value} {pins : List (Addr × Obj)} {s : Shared} {σ : L2.St} {xs : List Val} (hK : y.K = X.K) (I : Inv X pins σ H s) (st : y.St F S H) (ro : y.R F H o x) (rv : y.R F H v z)
    (rx : RelV x vx) (rz : RelV z vz) (e : lstOf S o = some xs) (hd : Val.dats xs = true) (hv : v.dat = true) :
    ∃ p vs as bs, vx = .ref p ∧ s.heap.IsList p vs ∧ ReadsAll s.heap vs.toList (toDs xs) as ∧ Reads s.heap vz (toD v) bs := by
  obtain ⟨p, us, rfl, hl, rl⟩ := lstOf_R st ro e
  obtain ⟨bs, r1⟩ := Dp.reads I _ z vz (by rw [← hK]; exact dp_of hv rv) rz
  have da : DpAll X.K H us (toDs xs) := by rw [← hK]; exact dps_of hd rl
  obtain ⟨as, r2⟩ := Dp.reads I (.list (toDs xs)) _ vx (.lst (.of hl) da) rx
  cases r2 with
  | list h1 h2 h3 h4 => exact ⟨_, _, _, bs, rfl, ⟨_, h1, h2, _, h3⟩, h4, r1⟩
theorem count_ok (hK : y.K = X.K) {n : Nat} (hr : Room n X.A) : MtR X "list.count" (rMt y .count) := by
  intro pins s σ H x xs v us Q I rx rxs h
  obtain ⟨F, S, o, vs, st, ro, rl, po⟩ := h
  simp only [mtop] at po
  split at po
  · rename_i w
    cases e : lstOf S o with
    | none => rw [e] at po; exact po.bad.elim
    | some ys =>
      rw [e] at po
      dsimp only at po
      split at po
      · rename_i hc
        simp only [Bool.and_eq_true, decide_eq_true_eq] at hc
        obtain ⟨h1, h2, h3, h4⟩ := hc
        obtain ⟨u1, rfl, r1⟩ := RL.one rl
        obtain ⟨w1, rfl, rw1⟩ := vals1 rxs
        obtain ⟨p, vs, as, bs, rfl, sq, rs, rd⟩ := seq_raw hK I st ro r1 rx rw1 e h1 h2
        have hu := units64 hr
        have hm : min (PyData.depthAll (toDs ys)) (toD w).depth ≤ 60 := Nat.le_trans (Nat.min_le_right _ _) (by rw [dep_of]; exact h4)
        have ec := countP_toDs h2 h1
        refine SeqAt.count_list_data sq rs rd (plains_of _) (plain_of _) (by omega) ?_
        rw [ec]
        exact ⟨.int _, H, I.tok _, ⟨_, rfl⟩, Post.int po st⟩
      · exact po.bad.elim
  · exact po.bad.elim
theorem index_ok (hK : y.K = X.K) {n : Nat} (hr : Room n X.A) : MtR X "list.index" (rMt y .index) := by
  intro pins s σ H x xs v us Q I rx rxs h
  obtain ⟨F, S, o, vs, st, ro, rl, po⟩ := h
  simp only [mtop] at po
  split at po
  · rename_i w
    cases e : lstOf S o with
    | none => rw [e] at po; exact po.bad.elim
    | some ys =>
      rw [e] at po
      dsimp only at po
      split at po
      · rename_i hc
        simp only [Bool.and_eq_true, decide_eq_true_eq] at hc
        obtain ⟨h1, h2, h3, h4, h5⟩ := hc
        obtain ⟨u1, rfl, r1⟩ := RL.one rl
        obtain ⟨w1, rfl, rw1⟩ := vals1 rxs
        obtain ⟨p, vs, as, bs, rfl, sq, rs, rd⟩ := seq_raw hK I st ro r1 rx rw1 e h1 h2
        have hu := units64 hr
        have hm : min (PyData.depthAll (toDs ys)) (toD w).depth ≤ 60 := Nat.le_trans (Nat.min_le_right _ _) (by rw [dep_of]; exact h4)
        have hm2 : X.A.units + 1 + min (PyData.depthAll (toDs ys)) (toD w).depth < cLine := by omega
        have hlen : vs.size = (toDs ys).length := SeqAt.len_at rs
        have hl2 : (toDs ys).length = ys.length := DpAll.of_toDs
        cases ef : ys.findIdx? (fun z => Val.eqv z w) with
        | none => rw [ef] at po; exact po.bad.elim
        | some j =>
          rw [ef] at po
          have hb : (ys.map fun z => Val.eqv z w).findIdx? _root_.id = some j := by
            rw [List.findIdx?_map]
            exact ef
          obtain ⟨g1, g2⟩ := find_true hb
          have he : SeqAt.ItemsEq X.A.in1 s vs.toList (ys.map fun z => Val.eqv z w) w1 true := by
            refine ⟨by rw [Array.length_toList, List.length_map, hlen, hl2], fun i i1 i2 => ?_⟩
            have i3 : i < vs.size := by simpa using i1
            have q := SeqAt.items_plain (A := X.A) rs rd (plains_of _) (plain_of _) hm2 vs[i] (Array.getElem_mem i3)
            obtain ⟨i4, eq⟩ := SeqAt.readOf_at rs (plains_of _) i i3
            have i5 : i < ys.length := by rw [← hl2]; exact i4
            rw [eq, toDs_get i4 i5] at q
            have hdi : (ys[i]).dat = true := by
              have key : ∀ (l : List Val), Val.dats l = true → ∀ z ∈ l, z.dat = true := by
                intro l
                induction l with
                | nil => intro _ z hz; simp at hz
                | cons a l ih =>
                  intro q z hz
                  have q2 : a.dat = true ∧ Val.dats l = true := by simpa [Val.dats] using q
                  rcases List.mem_cons.mp hz with rfl | hz
                  · exact q2.1
                  · exact ih q2.2 z hz
              exact key ys h1 _ (List.getElem_mem i5)
            rw [eqv_of hdi h2] at q
            have : decide ((ys.map fun z => Val.eqv z w)[i] = true) = Val.eqv ys[i] w := by simp
            rw [this]
            simpa using q
          have etl : vs.toList.toArray = vs := Array.toArray_toList
          refine SeqAt.call_list_index (vs := vs.toList) (by rw [etl]; exact sq) he (by rw [List.length_map, sizeLine_eq]; exact h5) g2 ?_
          rw [g1]
          exact ⟨.int _, H, I.tok _, ⟨_, rfl⟩, Post.int po st⟩
      · exact po.bad.elim
  · exact po.bad.elim
/-- what stands ahead of a method's name -/
def plainBase : Expr → Bool
  | .Name _ _ => true
  | .Subscript _ _ _ => true
  | _ => false
theorem plainBase_ok {o : Expr} (h : plainBase o = true) (a : Str) (env : Env) (w : Sem Value) : attributeBase o a env w = w := by
  cases o <;> first
    | rfl
    | (simp [plainBase] at h)
def Mt.py : Mt → Str
  | .append => "append"
  | .extend => "extend"
  | .pop => "pop"
  | .popi => "pop"
  | .count => "count"
  | .index => "index"
theorem mt_list {F : Fs} {H : Hp} {S : Store} {o : Val} {x : V} (hK : y.K = X.K) (st : y.St F S H) (ro : y.R F H o x) {ys : List Val} (e : lstOf S o = some ys) : tyV X.K "list" x H := by
  obtain ⟨a, us, rfl, h, _⟩ := lstOf_R st ro e
  exact .inl ⟨rfl, us, .of h⟩
theorem few_one {ea : Expr} {cpos : Pos} {env : Env} (h : notStar ea = true) : ((backTo cpos (starEach [ea] env)).all (fun x => !x.1) && (backToKw cpos (keywordEach [] env)).all (fun x => x.1.isSome)
    && decide ([ea].length + ([] : List Keyword).length + (if ([] : List Keyword).isEmpty then 0 else 1) < 30)) = true := by
  rw [notStar_each h]
  rfl
theorem x_mth (g : Good P k N sc so X) {m : Mt} {o e : Ex} {eo ea : Expr} {apos cpos : Pos} (ho : PE X eo (tE (cy P k X Z) W o)) (ha : PE X ea (tE (cy P k X Z) W e)) (hb : plainBase eo = true) (hn : notStar ea = true) (hline : (apos.endLine == cpos.line) = true) :
    PE X (.Call (.Attribute eo m.py apos) [ea] [] cpos) (tE (cy P k X Z) W (.mth m o (.cons e .nil))) := by
  have key : PE X (.Call (.Attribute eo m.py apos) [ea] [] cpos) (tBM X.K "list" (rMt (cy P k X Z) m) (tE (cy P k X Z) W o) (tAs (cy P k X Z) W (.cons e .nil))) := by
    cases m with
    | append => exact pe_bm F.plainAttrs_list F.slot_list_append F.type_list_append append_ok ho (x_acons ha x_anil hn) (plainBase_ok hb _ _ _) (few_one hn) hline (notStar_each hn) rfl
    | extend => exact pe_bm F.plainAttrs_list F.slot_list_extend F.type_list_extend extend_ok ho (x_acons ha x_anil hn) (plainBase_ok hb _ _ _) (few_one hn) hline (notStar_each hn) rfl
    | pop => exact pe_bm F.plainAttrs_list F.slot_list_pop F.type_list_pop pop_ok ho (x_acons ha x_anil hn) (plainBase_ok hb _ _ _) (few_one hn) hline (notStar_each hn) rfl
    | popi => exact pe_bm F.plainAttrs_list F.slot_list_pop F.type_list_pop popi_ok ho (x_acons ha x_anil hn) (plainBase_ok hb _ _ _) (few_one hn) hline (notStar_each hn) rfl
    | count => exact pe_bm F.plainAttrs_list F.slot_list_count F.type_list_count (count_ok (y := cy P k X Z) rfl g.room) ho (x_acons ha x_anil hn) (plainBase_ok hb _ _ _) (few_one hn) hline (notStar_each hn) rfl
    | index => exact pe_bm F.plainAttrs_list F.slot_list_index F.type_list_index (index_ok (y := cy P k X Z) rfl g.room) ho (x_acons ha x_anil hn) (plainBase_ok hb _ _ _) (few_one hn) hline (notStar_each hn) rfl
  refine PE.weak key fun σ H Q ⟨F, S, r, st, en, po⟩ => ?_
  simp only [ev] at po
  refine ⟨F, S, r, st, en, po.bind.mono fun x H1 ⟨F1, v, S1, k1, s1, r1, po1⟩ => ?_⟩
  cases el : lstOf S1 v with
  | none => rw [el] at po1; exact po1.bad.elim
  | some ys =>
    rw [el] at po1
    refine ⟨mt_list (y := cy P k X Z) rfl s1 r1 el, F1, S1, r, s1, en.keep k1.toKp, (po1.bind (RA := (cy P k X Z).RL)).mono fun xs H2 ⟨F2, vs, S2, k2, s2, r2, po2⟩ => ?_⟩
    exact ⟨F2, S2, v, vs, s2, R.keep k2.toKp r1, r2, po2.wish fun _ _ _ _ => trivial⟩
/-- xs.pop() -/
theorem x_pop {o : Ex} {eo : Expr} {apos cpos : Pos} (ho : PE X eo (tE (cy P k X Z) W o)) (hb : plainBase eo = true) (hline : (apos.endLine == cpos.line) = true) :
    PE X (.Call (.Attribute eo "pop" apos) [] [] cpos) (tE (cy P k X Z) W (.mth .pop o .nil)) := by
  refine PE.weak (pe_bm0 F.plainAttrs_list F.slot_list_pop F.type_list_pop (pop_ok (y := cy P k X Z)) ho (plainBase_ok hb _ _ _) hline) fun σ H Q ⟨F, S, r, st, en, po⟩ => ?_
  simp only [ev, evs, Out.bind_ok] at po
  refine ⟨F, S, r, st, en, po.bind.mono fun x H1 ⟨F1, v, S1, k1, s1, r1, po1⟩ => ?_⟩
  cases el : lstOf S1 v with
  | none => rw [el] at po1; exact po1.bad.elim
  | some ys =>
    rw [el] at po1
    exact ⟨mt_list (y := cy P k X Z) rfl s1 r1 el, F1, S1, v, [], s1, r1, RL.nil, po1.wish fun _ _ _ _ => trivial⟩
end
end DI
namespace DI
open PySem PySem.Spec PyProof.Rows L2 RZ PySem.W
theorem meets_en1 {v : Value} {ob : Obj} {Hh : Heap → Prop} (B : Begins v ob Hh) : Meets (Builtin.«enumerate.__new__» ⟨[.type "enumerate", v], []⟩) (fun _ R s => Hh s.heap ∧
    R (.ok (.ret (.ref (s.heap.push ob).objs.size))) { s with heap := (s.heap.push ob).push { cls := .type "enumerate", data := .fields #[.none, .bool false, .ref s.heap.objs.size, rawInt 0, .none, .none] } }) := by
  refine .of_wp fun prog w A R s hs => ?_
  obtain ⟨hp, g, d, tk, os⟩ := s
  obtain ⟨h1, hR⟩ := hs
  have hsub := sub_enumerate
  have step : ∀ {A' : Around} {E Q : Value → Shared → Prop}, Q (.ref hp.objs.size) ⟨hp.push ob, g, d, tk, os⟩ → wpAny (model prog w) A' (pyIter v) Q E ⟨hp, g, d, tk, os⟩ := fun q => B.iter prog w _ _ ⟨hp, g, d, tk, os⟩ _ h1 q
  wp_walk using step
  refine wpAny_stack_any fun st => wpAny_pure ?_
  split
  · rename_i c _ _ _ _ _
    cases (c == Value.type "enumerate") <;> (wp_walk using step; exact ⟨_, rfl, hR⟩)
  · wp_walk using step
    exact ⟨_, rfl, hR⟩
/-- the tuple at a, each item in a new pair -/
def IteT (K : PySem.W.Frag) (a : Addr) : L2.It where
  go := fun i H => ∃ xs x, SqT K H a xs ∧ xs[i]? = some x
  yld := fun i H v H2 => ∃ q x, v = V.ref q ∧ H q = none ∧ H2 = upd H q (.tup [.int (i : Nat), x]) ∧ ∀ xs, SqT K H a xs → xs[i]? = some x
  stop := fun i H => ∃ xs : List V, SqT K H a xs ∧ xs.length = i
def EnSt (a e it : Addr) (i : Nat) (h : Heap) : Prop := (∃ old, IsEnum h e it ((i : Nat) : Int) old) ∧ h.IsTupleIter it a i ∧ e ≠ it ∧ a ≠ it ∧ e ≠ a
theorem turn_enT {P : Program} {w : World} {K : PySem.W.Frag} {elts : List Expr} {kk : Nat} {tpos : Pos} (a e it : Addr) : Turn P w K (.Tuple elts kk tpos) (IteT K a) [e, it] e (EnSt a e it) where
  mem := by simp
  obj := fun i h ⟨⟨old, he⟩, ⟨o, ho, _, hd⟩, _⟩ b hb => by
    rcases (show b = e ∨ b = it by simpa using hb) with z | z <;> subst z
    · exact ⟨_, he, fun v q => nomatch q⟩
    · exact ⟨o, ho, fun v q => by rw [hd] at q; cases q⟩
  keep := fun i h h' ⟨⟨old, he⟩, hi, hne⟩ k => ⟨⟨old, k e (by simp) _ he⟩, hi.at fun o q => k it (by simp) o q, hne⟩
  item := by
    intro X hP hw hK hc i pins s σ H E I hf st hg
    subst hP hw hK
    obtain ⟨⟨old, he⟩, hit, hne, hai, hea⟩ := st
    obtain ⟨xs, x, hq, hx⟩ := hg
    obtain ⟨its, rv, p, hz⟩ := I.tuple hq
    obtain ⟨u, hu, ru⟩ := rv.get hx
    have le : e < s.heap.objs.size := Heap.lt_size he
    have li : it < s.heap.objs.size := by obtain ⟨_, q, _⟩ := hit; exact Heap.lt_size q
    have hi : i < its.toArray.size := by
      have := (List.getElem?_eq_some_iff.mp hu).1
      simpa using this
    have pt : s.heap.IsTuple a its.toArray := p
    have D := PySem.Draws.tuple (prog := X.prog) (w := X.w) (A := X.A.in1) (I.ok.hd hc) it a hai its.toArray
    refine wpAny_pyNext_enum_itemC D he ⟨hit, pt⟩ hi hne (by simp [hne, hea]) fun y h' tk hy hout hst hT hsz hk => ?_
    have ey : y = u := by
      have h1 : its.toArray[i]? = some u := by simpa using hu
      exact Option.some.inj (hy.symm.trans h1)
    subst ey
    refine ⟨_, rfl, wpAny_letOwnedTupleGo_enum (s := { s with heap := h', toks := tk + 1 }) hout fun h2 he2 sb => ?_⟩
    have hT2 := (sb.2 _ (Nat.ne_of_gt le)).trans hT
    have ob : ObjOk X.prog X.w (upd H s.heap.objs.size (.tup [.int (i : Nat), x])) h2 s.heap.objs.size (.tup [.int (i : Nat), x]) := ⟨by show 2 ≤ sizeLine; decide, [.int i tk, y], .cons ⟨_, rfl⟩ (.cons ru .nil), ⟨_, hT2, rfl, _, rfl⟩⟩
    have I2 : L2.Inv X pins σ (upd H s.heap.objs.size (.tup [.int (i : Nat), x])) { s with heap := h2, toks := tk + 1 } :=
      I.turnedNew (ch := [e, it]) (fun b o hb q => (sb.2 b fun z => hb (by simp [z])).trans (hk b o (fun z => hb (by simp [z])) (fun z => hb (by simp [z])) q)) hf (Nat.le_refl _) ob
    have ei : ((i + 1 : Nat) : Int) = (i : Int) + 1 := by omega
    refine ⟨.ref s.heap.objs.size, _, I2, rfl, ⟨_, x, rfl, I.hok.fresh (Nat.le_refl _), rfl, fun zs hz => by rw [I.tuple_inj hz hq]; exact hx⟩, ⟨⟨y, by rw [ei]; exact he2⟩, hst.1.at fun o q => (sb.2 it (Ne.symm hne)).trans q, hne, hai, hea⟩, fun b hb => ?_⟩
    have lb : b < s.heap.objs.size := by
      rcases (show b = e ∨ b = it by simpa using hb) with z | z <;> rw [z] <;> assumption
    rw [upd_ne (Nat.ne_of_lt lb)]
    exact (hf b hb).1
  done := by
    intro X hP hw hK hc i pins s σ H E I hf st hg
    subst hP hw hK
    obtain ⟨⟨old, he⟩, hit, hne, hai, hea⟩ := st
    obtain ⟨xs, hq, hx⟩ := hg
    obtain ⟨its, rv, p, hz⟩ := I.tuple hq
    have pt : s.heap.IsTuple a its.toArray := p
    obtain ⟨f0, f1, f2, f3, f4, f5⟩ := hf it (by simp)
    have D := PySem.Draws.tuple (prog := X.prog) (w := X.w) (A := X.A.in1) (I.ok.hd hc) it a hai its.toArray
    have en : its.toArray.size = i := by
      rw [List.size_toArray, ← rv.length]
      exact hx
    refine wpAny_pyNext_enum_endD D he (by rw [en]; exact ⟨hit, pt⟩) fun h' eb => ⟨rfl, I.turned (t' := s.toks) (fun b o hb q => eb b o hb q) f0 f1 f3 f4 f5⟩
  self := fun A i s Q E st h => let ⟨⟨_, he⟩, _⟩ := st; wpAny_pyIter_enum he h
theorem call_en1 {X : Cx} {A : Around} {E : Value → Shared → Prop} {s : Shared} {t : Addr} {items : Array Value} {Q : Value → Shared → Prop} (ht : s.heap.IsTuple t items)
    (h : ∀ h', IsEnum h' (s.heap.objs.size + 1) s.heap.objs.size 0 .none → h'.IsTupleIter s.heap.objs.size t 0 → (∀ b o, s.heap.get? b = some o → h'.get? b = some o) → Q (.ref (s.heap.objs.size + 1)) { s with heap := h' }) :
    wpAny (model X.prog X.w) A (call (.type "enumerate") [.ref t]) Q E s := by
  refine callType_new F.called_enumerate (by decide) (F.typeCall_enumerate_1 _) (F.newCall_enumerate_1 _) (fun obj => F.args_object_init_2 obj _) F.entry_enumerate_new (meets_en1 (begins_tuple t items)) ⟨ht, ?_⟩
  generalize hob : ({ cls := .type "tuple_iterator", data := .fields #[.ref t, .int 0 0] } : Obj) = ob
  have fr : ob.isFreed = false := by rw [← hob]; rfl
  have hz : (s.heap.push ob).objs.size = s.heap.objs.size + 1 := Heap.size_push ..
  show _ ∧ _
  rw [hz]
  have g1 := Heap.get?_push_size (s.heap.push ob) (o := { cls := .type "enumerate", data := .fields #[.none, .bool false, .ref s.heap.objs.size, rawInt 0, .none, .none] }) rfl
  rw [hz] at g1
  have g2 := Heap.get?_push_of_some { cls := .type "enumerate", data := .fields #[.none, .bool false, .ref s.heap.objs.size, rawInt 0, .none, .none] } (Heap.get?_push_size s.heap fr)
  refine ⟨⟨_, g1, rfl⟩, h _ g1 ⟨_, g2, by rw [← hob], by rw [← hob]; rfl⟩ fun b o x => Heap.get?_push_of_some _ (Heap.get?_push_of_some _ x)⟩
def iEnT (K : PySem.W.Frag) (ta : TA) : TI := fun σ H G => ta σ H fun vs H1 => ∃ a xs, vs = [V.ref a] ∧ SqT K H1 a xs ∧ G (IteT K a) H1
theorem pi_enT {X : Cx} {e : Expr} {ta : TA} {p pos tpos : Pos} {elts : List Expr} {kk : Nat} (hg : Gl X "enumerate") (hm : X.mg "enumerate" = none) (ha : PA X [e] ta) (hs : starEach [e] X.env = [(false, eval e X.env)]) :
    PI X (.Tuple elts kk tpos) (.Call (.Name "enumerate" p) [e] [] pos) (iEnT X.K ta) := by
  refine ⟨fun pins s σ H G I h => Call_ (ld_blt I hg hm boot_enumerate (PyProof.Rows.callWith_type1 (thn (ha.run pos pins s σ H _ I h) fun us s1 ⟨vs, H1, I1, r1, a, xs, ex, hq, q⟩ => ?_) hs rfl))⟩
  subst ex
  cases r1 with
  | cons r rr =>
    cases rr
    obtain rfl := (show _ = Value.ref a from r)
    obtain ⟨its, rv, pt, hz⟩ := I1.tuple hq
    have pt : s1.heap.IsTuple a its.toArray := pt
    have la : a < s1.heap.objs.size := by obtain ⟨o, q, _⟩ := pt; exact Heap.lt_size q
    refine call_en1 (X := X) pt fun h2 he hit hk => wpAny_pyIter_enum he ?_
    refine ⟨_, [s1.heap.objs.size + 1, s1.heap.objs.size], _, _, H1, rfl, I1.kept (t' := s1.toks) hk, turn_enT a (s1.heap.objs.size + 1) s1.heap.objs.size, ⟨⟨.none, he⟩, hit, Nat.succ_ne_self _, Nat.ne_of_lt la, Nat.ne_of_gt (Nat.lt_succ_of_lt la)⟩, fun b hb => ?_, q⟩
    have lb : s1.heap.objs.size ≤ b := by
      rcases (show b = s1.heap.objs.size + 1 ∨ b = s1.heap.objs.size by simpa using hb) with z | z
      · rw [z]; exact Nat.le_succ _
      · rw [z]; exact Nat.le_refl _
    exact I1.fpOk lb (I1.hok.fresh lb)
end DI
/-! DI7s: sets of numbers: set(list), set(tuple), len, sorted. -/
namespace DI
open PySem PySem.Spec PyProof.Rows L2 RZ PySem.W
section
variable {P : Program} {w : World} {A : Around} {E : Value → Shared → Prop} {s : Shared}
/-- an empty set, as it is made -/
abbrev set00 (w : World) : Obj := { cls := .type "set", dict := none, data := .set #[] 0 (.fresh 0 0 (!w.params.followText "set-order")) }
theorem call_set_lst {l : Addr} {items : Array Value} (ns : List Int) {Q : Value → Shared → Prop} (hh : A.handled = none) (hl : s.heap.IsList l items) (hit : IntsAre items.toList ns) (hb : ns.length + 1 < scanBound)
    (h : ∀ (h' : Heap) (tk c : Nat), SetR w h' s.heap.objs.size (fun j => decide (j ∈ ns)) c → c ≤ ns.length → (∀ b o, s.heap.get? b = some o → h'.get? b = some o) → Q (.ref s.heap.objs.size) { s with heap := h', toks := tk }) :
    wpAny (model P w) A (call (.type "set") [.ref l]) Q E s := by
  have hisz : items.size = ns.length := (Array.length_toList (xs := items)).symm.trans (IntsAre.length hit)
  obtain ⟨_, _, hmro⟩ := F.called_set.mro
  have k1 := F.called_set.made; have k2 := F.called_set.sub; have k3 := F.called_set.notType; have k4 := F.called_set.canCreate; have k5 := F.typeCall_set_1 (.ref l)
  refine wpAny_call (codeAny_of_tree ?_); show wpAny _ _ (callAny (.type "set") _) _ _ _
  refine wpAny_pure ⟨Code.quiet_builtin _ (by decide +kernel), codeAny_builtin F.entry_type_call ?_⟩; rw [Around.under_plain (weight_type_call_type "set" [.ref l] []) rfl]
  repeat (any_goals (first | assumption | wp_step))
  refine codeAny_mono (code_set_led1 (.ref l) (E := E) (Q₁ := fun obj s₁ => obj = .ref s.heap.objs.size ∧ s₁ = { s with heap := s.heap.push (set00 w) }) ⟨rfl, rfl⟩) fun r s₁ hr => ?_
  cases r with
  | error e => exact hr
  | ok fl =>
    cases fl with
    | ret obj =>
      obtain ⟨rfl, rfl⟩ := hr
      have g0 : (s.heap.push (set00 w)).get? s.heap.objs.size = some (set00 w) := Heap.get?_push_size _ rfl
      have gT : Shared.TypeIs { s with heap := s.heap.push (set00 w) } (.ref s.heap.objs.size) "set" := ⟨_, g0, rfl⟩
      have m1 := F.called_set.init.lookup; have m2 := F.called_set.init.bind (.ref s.heap.objs.size)
      repeat (any_goals (first | assumption | wp_step))
      refine codeAny_mono (codeAny_call_builtin (R := wants (fun r s₂ => r = .none ∧ ∃ h' tk c, s₂ = { s with heap := h', toks := tk } ∧ SetR w h' s.heap.objs.size (fun j => decide (j ∈ ns)) c ∧ c ≤ ns.length ∧ (∀ b o, s.heap.get? b = some o → h'.get? b = some o)) E) F.called_set.init.plain F.entry_set_init (check_set_init_1 gT ?_)) fun r₂ s₂ hr₂ => ?_
      · have lS : l < s.heap.objs.size := by
          obtain ⟨_, q, _⟩ := hl
          exact Heap.lt_size q
        have hl1 : (s.heap.push (set00 w)).IsList l items := hl.push _
        obtain ⟨⟨lc, ld, la, ls⟩, hol, hcl, nl, hdl⟩ := hl1
        cases hcl; cases hdl
        have hl1 : (s.heap.push (set00 w)).IsList l items := ⟨_, hol, rfl, nl, rfl⟩
        have q1 := F.sub_list_set; have q2 := F.sub_list_frozenset; have q3 : (Value.type "list" == Value.type "dict") = false := by decide
        unfold Builtin.«set.__init__» noKeywords Builtin.Frozenset.updateFrom
        generalize hPI : pyIter = PI
        wp_walk
        subst hPI
        refine wpAny_pyIter_list hl1 (wpAny_bind (wpAny_runValue ?_))
        have z1 : (s.heap.push (set00 w)).objs.size = s.heap.objs.size + 1 := Heap.size_push ..
        have nI : l ≠ (s.heap.push (set00 w)).objs.size := by rw [z1]; exact Nat.ne_of_lt (Nat.lt_succ_of_lt lS)
        have nS : s.heap.objs.size ∉ [(s.heap.push (set00 w)).objs.size, l] := by
          rw [z1]
          simp only [List.mem_cons, List.not_mem_nil, or_false, not_or]
          exact ⟨Nat.ne_of_lt (Nat.lt_succ_self _), Nat.ne_of_gt lS⟩
        refine set_update_ints ((Walks.list (show A.in1.in1.in1.handled = none by simp [hh]) _ l nI items).toS) s.heap.objs.size nS ns hisz hb (fun i v hv => ?hval) (items.size - 0) 0 _ (by omega) (Nat.zero_le _)
          ⟨⟨_, Heap.get?_push_size _ rfl, rfl, rfl⟩, (hl1.push _)⟩ ⟨0, Nat.le_refl 0, setR_new_at (Heap.get?_push_of_some _ g0)⟩ ?hR
        case hval =>
          have hi : i < ns.length := hisz ▸ (Array.getElem?_eq_some_iff.mp hv).1
          obtain ⟨t, e⟩ := PyProof.Rows.IntsAre.int_at hit i v (Array.getElem?_toList (xs := items) ▸ hv)
          exact ⟨ns[i], t, List.getElem?_eq_getElem hi, by rw [e, List.getD_eq_getElem?_getD, List.getElem?_eq_getElem hi]; rfl⟩
        case hR =>
          intro s' c' hm hc' hS'
          obtain ⟨h', g2, d', tk', os'⟩ := s'
          obtain rfl : g2 = s.gens := hm.gens
          obtain rfl : d' = s.drawn := hm.drawn
          obtain rfl : os' = s.os := hm.os
          show wpAny _ _ _ _ _ _
          refine wpAny_pure ?_
          show wpAny _ _ (ret Value.none) _ _ _
          refine wpAny_pure ⟨rfl, h', tk', c', rfl, hS', hisz ▸ hc', fun b o e => ?_⟩
          have b0 : b < s.heap.objs.size := Heap.lt_size e
          refine hm.heap b o ?_ (Heap.get?_push_of_some _ (Heap.get?_push_of_some _ e))
          simp only [List.mem_cons, List.not_mem_nil, or_false, not_or]
          exact ⟨Nat.ne_of_lt b0, by rw [z1]; exact Nat.ne_of_lt (Nat.lt_succ_of_lt b0)⟩
      · cases r₂ with
        | error e => exact hr₂
        | ok fl₂ =>
          cases fl₂ with
          | ret r =>
            obtain ⟨rfl, h', tk, c', rfl, a1, a2, a3⟩ := hr₂
            repeat (any_goals (first | assumption | wp_step))
            exact h _ _ _ a1 a2 a3
          | _ => exact hr₂.elim
    | _ => exact hr.elim
end
section
variable {P : Pg} {k : Nat} {N : List Str} {sc : List (Str × NameKind)} {so : List Str} {X : Cx} {Z : Addr → Prop} {W : WX} {y : Cy}
theorem nodup_same {l m : List Int} (hl : l.Nodup) (hm : m.Nodup) (h : ∀ z, z ∈ l ↔ z ∈ m) : l.length = m.length := ((List.perm_ext_iff_of_nodup hl hm).mpr h).length_eq
theorem setR_size {w : World} {h : Heap} {a : Addr} {ns : List Int} {c : Nat} (R : SetR w h a (fun j => decide (j ∈ ns)) c) : c = (usort ns).length := by
  obtain ⟨o, es, ep, t, _, _, _, _, nd, mem, _, _, hc, _⟩ := R
  rw [← hc, ← Array.length_toList, ← List.length_map (f := keyOf)]
  refine nodup_same nd ((usort_sorted ns).imp fun q => Int.ne_of_lt q) fun z => ?_
  rw [← mem z, usort_mem, decide_eq_true_eq]
/-- set(xs), xs a list or a tuple of numbers -/
def rSetI (K : PySem.W.Frag) (w : World) : List V → Hp → VK → Prop := fun vs H Q => ∃ (l : Addr) (ns : List Int), vs = [V.ref l] ∧ (SqL K H l (ns.map V.int) ∨ SqT K H l (ns.map V.int)) ∧ ns.length < 4000 ∧
  ∀ p, H p = none → Q (.ref p) (upd H p (SetO w p (fun j => decide (j ∈ ns)) (usort ns).length))
theorem cr_setI (hc : X.calm = true) : CallR X (.type "set") (rSetI X.K X.w) := by
  intro pins s σ H xs us Q I r h
  obtain ⟨l, ns, rfl, hl, hn, q⟩ := h
  rw [Vals.ref1 r]
  have hf : H s.heap.objs.size = none := I.hok.fresh (Nat.le_refl _)
  have sb : ns.length + 1 < scanBound := by unfold scanBound; omega
  have fin : ∀ (h' : Heap) (tk c : Nat), SetR X.w h' s.heap.objs.size (fun j => decide (j ∈ ns)) c → (∀ b o, s.heap.get? b = some o → h'.get? b = some o) → EP X pins σ Q (.ref s.heap.objs.size) { s with heap := h', toks := tk } := by
    intro h' tk c R kp
    have e := setR_size R
    subst e
    exact ⟨.ref s.heap.objs.size, _, I.laid (t' := tk) kp (Nat.le_refl _) (setO_new R), rfl, q _ hf⟩
  rcases hl with hl | hl
  · obtain ⟨its, rv, pl, hz⟩ := I.list hl
    exact call_set_lst ns (I.ok.hd hc) pl.isList (by simpa using rv.ints) sb fun h' tk c R _ kp => fin h' tk c R kp
  · obtain ⟨its, rv, pl, hz⟩ := I.tuple hl
    exact call_set_tupI ns (I.ok.hd hc) pl (by simpa using rv.ints) sb fun h' tk c R _ kp => fin h' tk c R kp
/-- len(set) -/
def rLenSet (w : World) : List V → Hp → VK → Prop := fun vs H Q => ∃ (a : Addr) (S : Int → Bool) (n : Nat), vs = [V.ref a] ∧ H a = some (SetO w a S n) ∧ Q (.int n) H
theorem cr_lenSet : CallR X (.builtin "len") (rLenSet X.w) := by
  intro pins s σ H xs us Q I r h
  obtain ⟨a, S, n, rfl, ha, q⟩ := h
  rw [Vals.ref1 r]
  obtain ⟨o, es, ep, t, ho, hex, hd, _, _, _, hb, hf, rfl, _⟩ := setO_get I ha
  have : (scanBound : Nat) = 4096 := rfl
  exact call_len_set ho hex hd hf (by omega) ⟨.int es.size, H, I.tok _, ⟨_, rfl⟩, q⟩
/-- range(a, b, c), as it stands -/
def RgO (a b c : Int) (p : Addr) : HO := .ext fun h => ∃ t u v, IsRange h p a b c t u v
theorem cr_range3 : CallR X (.type "range") (fun vs H Q => ∃ i j k, vs = [V.int i, V.int j, V.int k] ∧ k ≠ 0 ∧ k.natAbs < 1073741824 ∧ ∀ p, H p = none → Q (.ref p) (upd H p (RgO i j k p))) := by
  intro pins s σ H vs us Q I r h
  obtain ⟨i, j, k, rfl, k0, k1, q⟩ := h
  obtain ⟨u1, us, rfl, ri, r⟩ : ∃ u1 us', us = u1 :: us' ∧ RelV (V.int i) u1 ∧ Vals [V.int j, V.int k] us' := by
    cases r with
    | cons a b => exact ⟨_, _, rfl, a, b⟩
  obtain ⟨u2, u3, rfl, rj, rk⟩ := vals2 r
  obtain ⟨t, rfl⟩ := ri
  obtain ⟨u, rfl⟩ := rj
  obtain ⟨v, rfl⟩ := rk
  refine call_range_3 k0 ⟨.ref s.heap.objs.size, upd H s.heap.objs.size (RgO i j k s.heap.objs.size), I.laid (t' := s.toks) (fun b o e => Heap.get?_push_of_some _ e) (Nat.le_refl _) ?_, rfl, q _ (I.hok.fresh (Nat.le_refl _))⟩ (.inl (PyProof.noPylong_small k1))
  exact ⟨⟨t, u, v, Heap.get?_push_size _ rfl⟩, ⟨_, Heap.get?_push_size _ rfl⟩, fun h1 h2 ⟨t, u, v, e⟩ kp => ⟨t, u, v, kp _ e⟩⟩
def rgC (a c : Int) (n : Nat) : List V := (List.range n).map fun (i : Nat) => V.int (a + (i : Int) * c)
theorem vals_rgC {a c : Int} {n : Nat} {acc : Array Value} (h : ItemsOf (fun i v => ∃ t, v = .int (a + i * c) t) acc n) : Vals (rgC a c n) acc.toList := by
  have e : acc.toList.length = n := by rw [Array.length_toList]; exact h.1
  unfold rgC
  rw [← e]
  exact vals_of_get acc.toList _ fun j u hj => h.2 j u (by rw [← hj, Array.getElem?_toList])
theorem cr_tupR3 (hc : X.calm = true) : CallR X (.type "tuple") (fun vs H Q => ∃ p i j k n, vs = [V.ref p] ∧ H p = some (RgO i j k p) ∧ Builtin.Range.small i j k = true ∧ Builtin.Range.rangeSize i j k = (n : Nat) ∧ n ≤ 16777216 ∧ ∀ q, H q = none → Q (.ref q) (upd H q (.tup (rgC i k n)))) := by
  intro pins s σ H vs us Q I r h
  obtain ⟨p, i, j, k, n, rfl, hp, h1, h2, h3, q⟩ := h
  rw [Vals.ref1 r]
  obtain ⟨⟨t, u, v, hr⟩, _, _⟩ := I.hok p _ hp
  refine call_tuple_range (n := n) (I.ok.hd hc) hr h1 h2 h3 fun h' tk acc hk hi => ?_
  have I2 : L2.Inv X pins σ H { s with heap := h', toks := tk } := I.kept hk
  refine ⟨.ref h'.objs.size, upd H h'.objs.size (.tup (rgC i k n)), I2.laid (t' := tk) (fun c o e => Heap.get?_push_of_some _ e) (Nat.le_refl _) (show ObjOk X.prog X.w _ _ _ (.tup (rgC i k n)) from ⟨?_, acc.toList, vals_rgC hi, ?_⟩), rfl, q _ (I2.hok.fresh (Nat.le_refl _))⟩
  · unfold rgC; rw [List.length_map, List.length_range, sizeLine_eq]; exact h3
  · rw [Array.toArray_toList]; exact IsTup.new _ _
end
end DI
/-! DI8: what a loop walks. -/
namespace DI
open PySem PySem.Spec PyProof.Rows L2 RZ
/-- the frozen objects as they were -/
def Fr (Z : Addr → Prop) (F : Fs) (H H' : Hp) : Prop := (∀ a us, H a = some (.lst us) → ¬ mu Z F a → H' a = some (.lst us)) ∧ ∀ a us, H a = some (.tup us) → H' a = some (.tup us)
theorem Fr.of {Z : Addr → Prop} {F F' : Fs} {H H' : Hp} (k : DI.Kp Z F H F' H') : Fr Z F H H' := ⟨fun a us h m => (k.lst a us h m).1, k.tup⟩
/-- what a turn gives: an item, or a new tuple of items -/
def RelI (K : PySem.W.Frag) (Z : Addr → Prop) (F : Fs) (H : Hp) (mk : Bool) (x : Val) (us : List V) : Prop := if mk = true then ∃ zs, x = .tup zs ∧ RL K Z F H zs us else ∃ u, us = [u] ∧ R K Z F H x u
def GivesI (mk : Bool) (us : List V) (H : Hp) (v : V) (H2 : Hp) : Prop := if mk = true then ∃ p, H p = none ∧ v = .ref p ∧ H2 = upd H p (.tup us) else us = [v] ∧ H2 = H
structure Src (K : PySem.W.Frag) (Z : Addr → Prop) (F : Fs) (H : Hp) (xs : List Val) (J : L2.It) : Prop where
  ok : ∃ (uss : List (List V)) (mk : Bool), uss.length = xs.length ∧ (∀ (i : Nat) x us, xs[i]? = some x → uss[i]? = some us → RelI K Z F H mk x us) ∧
    ∀ H', Fr Z F H H' → (∀ i, i < xs.length → J.go i H') ∧ J.stop xs.length H' ∧ ∀ i v H2, i < xs.length → J.yld i H' v H2 → ∃ us, uss[i]? = some us ∧ GivesI mk us H' v H2
section
variable {K : PySem.W.Frag} {Z : Addr → Prop} {F F' : Fs} {H H' : Hp} {S : Store} {xs : List Val} {J : L2.It}
theorem Src.keep (s : Src K Z F H xs J) (k : DI.Kp Z F H F' H') : Src K Z F' H' xs J := by
  obtain ⟨uss, mk, l, r, g⟩ := s.ok
  refine ⟨uss, mk, l, fun i x us h1 h2 => ?_, fun H2 f => g H2 ⟨fun a us h m => f.1 a us (k.lst a us h m).1 (k.lst a us h m).2, fun a us h => f.2 a us (k.tup a us h)⟩⟩
  have h := r i x us h1 h2
  unfold RelI at h ⊢
  cases mk with
  | true =>
    obtain ⟨zs, e, rl⟩ := h
    exact ⟨zs, e, rl.keep k⟩
  | false =>
    obtain ⟨u, e, ru⟩ := h
    exact ⟨u, e, ru.keep k⟩
/-- .. and a new hidden list -/
theorem Src.hide (s : Src K Z F H xs J) {D : Addr} {o : HO} (hD : H D = none) : Src K (DI.hide Z D) F (upd H D o) xs J := by
  obtain ⟨uss, mk, l, r, g⟩ := s.ok
  refine ⟨uss, mk, l, fun i x us h1 h2 => ?_, fun H2 f => g H2 ⟨fun a us h m => f.1 a us ?_ ?_, fun a us h => f.2 a us ?_⟩⟩
  · have h := r i x us h1 h2
    unfold RelI at h ⊢
    cases mk with
    | true =>
      obtain ⟨zs, e, rl⟩ := h
      exact ⟨zs, e, (rl.hide hD).keep (Kp.new hD)⟩
    | false =>
      obtain ⟨u, e, ru⟩ := h
      exact ⟨u, e, (ru.hide hD).keep (Kp.new hD)⟩
  · rw [upd_other hD (by rw [h]; simp)]; exact h
  · rintro (q | q | q)
    · exact m (.inl q)
    · exact m (.inr q)
    · rw [q, hD] at h; cases h
  · rw [upd_other hD (by rw [h]; simp)]; exact h
theorem Src.go (s : Src K Z F H xs J) {i : Nat} (h : i < xs.length) : J.go i H := by
  obtain ⟨uss, mk, l, r, g⟩ := s.ok
  exact (g H ⟨fun _ _ h _ => h, fun _ _ h => h⟩).1 i h
theorem Src.stop (s : Src K Z F H xs J) : J.stop xs.length H := by
  obtain ⟨uss, mk, l, r, g⟩ := s.ok
  exact (g H ⟨fun _ _ h _ => h, fun _ _ h => h⟩).2.1
theorem Src.yld (s : Src K Z F H xs J) (st : StOk K Z F S H) {i : Nat} {v : V} {H2 : Hp} {x : Val} (hx : xs[i]? = some x) (h : J.yld i H v H2) : R K Z F H2 x v ∧ Keep Z F H F H2 ∧ StOk K Z F S H2 := by
  obtain ⟨uss, mk, l, r, g⟩ := s.ok
  obtain ⟨us, h1, h2⟩ := (g H ⟨fun _ _ h _ => h, fun _ _ h => h⟩).2.2 i v H2 (List.getElem?_eq_some_iff.mp hx).1 h
  have h3 := r i x us hx h1
  unfold RelI at h3
  unfold GivesI at h2
  cases mk with
  | true =>
    obtain ⟨p, hp, rfl, rfl⟩ := h2
    obtain ⟨zs, rfl, rl⟩ := h3
    refine ⟨?_, Keep.new st hp, st.new hp⟩
    simp only [R]
    exact ⟨p, us, rfl, .inl upd_same, rl.keep (Kp.new hp)⟩
  | false =>
    obtain ⟨rfl, rfl⟩ := h2
    obtain ⟨u, e, ru⟩ := h3
    cases e
    exact ⟨ru, Keep.refl, st⟩
theorem one_of {xs : List Val} {us : List V} (rl : RL K Z F H xs us) (i : Nat) (x : Val) (ws : List V) (h1 : xs[i]? = some x) (h2 : (us.map fun u => [u])[i]? = some ws) : RelI K Z F H false x ws := by
  obtain ⟨u, e, ru⟩ := RL.get rl h1
  rw [List.getElem?_map, e] at h2
  cases h2
  exact ⟨u, rfl, ru⟩
/-- a frozen list, a tuple -/
theorem Src.list {a : Addr} {us : List V} (h : H a = some (.lst us)) (m : ¬ mu Z F a) (rl : RL K Z F H xs us) : Src K Z F H xs (Itl K a) := by
  have l := rl.length
  refine ⟨us.map fun u => [u], false, by rw [List.length_map, l], one_of rl, fun H' f => ?_⟩
  have sq : SqL K H' a us := .of (f.1 a us h m)
  refine ⟨fun i hi => ⟨us, us[i]'(by omega), sq, by simp⟩, ⟨us, sq, by omega⟩, fun i v H2 hi y => ?_⟩
  obtain ⟨rfl, y⟩ := y
  exact ⟨[v], by rw [List.getElem?_map, y us sq]; rfl, rfl, rfl⟩
theorem TupAt.fr {a : Addr} {us : List V} (h : TupAt K H a us) (f : Fr Z F H H') : SqT K H' a us := by
  rcases h with h | h
  · exact .inl (.inl (f.2 a us h))
  · exact .inr h
theorem Src.tup {a : Addr} {us : List V} (h : TupAt K H a us) (rl : RL K Z F H xs us) : Src K Z F H xs (Itt K a) := by
  have l := rl.length
  refine ⟨us.map fun u => [u], false, by rw [List.length_map, l], one_of rl, fun H' f => ?_⟩
  have sq := h.fr f
  refine ⟨fun i hi => ⟨us, us[i]'(by omega), sq, by simp⟩, ⟨us, sq, by omega⟩, fun i v H2 hi y => ?_⟩
  obtain ⟨rfl, y⟩ := y
  exact ⟨[v], by rw [List.getElem?_map, y us sq]; rfl, rfl, rfl⟩
theorem Src.enum {a : Addr} {us : List V} (h : H a = some (.lst us)) (m : ¬ mu Z F a) (rl : RL K Z F H xs us) : Src K Z F H (enumIts xs) (Ite K a) := by
  have l := rl.length
  have le : (enumIts xs).length = xs.length := by simp [enumIts]
  refine ⟨us.mapIdx fun i u => [.int (i : Nat), u], true, by simp [le, l], fun i x ws h1 h2 => ?_, fun H' f => ?_⟩
  · unfold enumIts at h1
    rw [List.getElem?_mapIdx] at h1 h2
    cases e1 : xs[i]? with
    | none => rw [e1] at h1; cases h1
    | some z =>
      rw [e1] at h1
      obtain ⟨u, e, ru⟩ := RL.get rl e1
      rw [e] at h2
      cases h1
      cases h2
      exact ⟨_, rfl, .cons (by simp [R]) (.cons ru RL.nil)⟩
  · have sq : SqL K H' a us := .of (f.1 a us h m)
    refine ⟨fun i hi => ⟨us, us[i]'(by omega), sq, by simp⟩, ⟨us, sq, by omega⟩, fun i v H2 hi y => ?_⟩
    obtain ⟨p, x, rfl, hp, rfl, y⟩ := y
    exact ⟨[.int (i : Nat), x], by rw [List.getElem?_mapIdx, y us sq]; rfl, p, hp, rfl, rfl⟩
theorem Src.enumT {a : Addr} {us : List V} (h : TupAt K H a us) (rl : RL K Z F H xs us) : Src K Z F H (enumIts xs) (IteT K a) := by
  have l := rl.length
  have le : (enumIts xs).length = xs.length := by simp [enumIts]
  refine ⟨us.mapIdx fun i u => [.int (i : Nat), u], true, by simp [le, l], fun i x ws h1 h2 => ?_, fun H' f => ?_⟩
  · unfold enumIts at h1
    rw [List.getElem?_mapIdx] at h1 h2
    cases e1 : xs[i]? with
    | none => rw [e1] at h1; cases h1
    | some z =>
      rw [e1] at h1
      obtain ⟨u, e, ru⟩ := RL.get rl e1
      rw [e] at h2
      cases h1
      cases h2
      exact ⟨_, rfl, .cons (by simp [R]) (.cons ru RL.nil)⟩
  · have sq := h.fr f
    refine ⟨fun i hi => ⟨us, us[i]'(by omega), sq, by simp⟩, ⟨us, sq, by omega⟩, fun i v H2 hi y => ?_⟩
    obtain ⟨p, x, rfl, hp, rfl, y⟩ := y
    exact ⟨[.int (i : Nat), x], by rw [List.getElem?_mapIdx, y us sq]; rfl, p, hp, rfl, rfl⟩
theorem zip_rel {ys : List Val} {us ws : List V} (r1 : RL K Z F H xs us) (r2 : RL K Z F H ys ws) (i : Nat) (x : Val) (zs : List V) (h1 : (zipIts xs ys)[i]? = some x) (h2 : ((us.zip ws).map fun p => [p.1, p.2])[i]? = some zs) : RelI K Z F H true x zs := by
  unfold zipIts at h1
  rw [List.getElem?_map] at h1 h2
  cases e1 : (xs.zip ys)[i]? with
  | none => rw [e1] at h1; cases h1
  | some p =>
    rw [e1] at h1
    cases h1
    have e1' := List.getElem?_zip_eq_some.mp e1
    obtain ⟨u, f1, g1⟩ := RL.get r1 e1'.1
    obtain ⟨w, f2, g2⟩ := RL.get r2 e1'.2
    have e2 : (us.zip ws)[i]? = some (u, w) := List.getElem?_zip_eq_some.mpr ⟨f1, f2⟩
    rw [e2] at h2
    cases h2
    exact ⟨_, rfl, .cons g1 (.cons g2 RL.nil)⟩
theorem Src.zipL {ys : List Val} {a b : Addr} {us ws : List V} (h1 : H a = some (.lst us)) (m1 : ¬ mu Z F a) (r1 : RL K Z F H xs us) (h2 : H b = some (.lst ws)) (m2 : ¬ mu Z F b) (r2 : RL K Z F H ys ws) : Src K Z F H (zipIts xs ys) (Itz K a b) := by
  have l1 := r1.length
  have l2 := r2.length
  have le : (zipIts xs ys).length = min xs.length ys.length := by simp [zipIts]
  refine ⟨(us.zip ws).map fun p => [p.1, p.2], true, by simp [le, l1, l2], zip_rel r1 r2, fun H' f => ?_⟩
  have s1 : SqL K H' a us := .of (f.1 a us h1 m1)
  have s2 : SqL K H' b ws := .of (f.1 b ws h2 m2)
  refine ⟨fun i hi => ⟨us, ws, us[i]'(by omega), ws[i]'(by omega), s1, s2, by simp, by simp⟩, ⟨us, ws, s1, s2, by omega⟩, fun i v H2 hi y => ?_⟩
  obtain ⟨p, x, z, rfl, hp, rfl, y1, y2⟩ := y
  have e2 : (us.zip ws)[i]? = some (x, z) := List.getElem?_zip_eq_some.mpr ⟨y1 us s1, y2 ws s2⟩
  exact ⟨[x, z], by rw [List.getElem?_map, e2]; rfl, p, hp, rfl, rfl⟩
theorem Src.zipT {ys : List Val} {a b : Addr} {us ws : List V} (h1 : TupAt K H a us) (r1 : RL K Z F H xs us) (h2 : TupAt K H b ws) (r2 : RL K Z F H ys ws) : Src K Z F H (zipIts xs ys) (ItzT K a b) := by
  have l1 := r1.length
  have l2 := r2.length
  have le : (zipIts xs ys).length = min xs.length ys.length := by simp [zipIts]
  refine ⟨(us.zip ws).map fun p => [p.1, p.2], true, by simp [le, l1, l2], zip_rel r1 r2, fun H' f => ?_⟩
  have s1 := h1.fr f
  have s2 := h2.fr f
  refine ⟨fun i hi => ⟨us, ws, us[i]'(by omega), ws[i]'(by omega), s1, s2, by simp, by simp⟩, ⟨us, ws, s1, s2, by omega⟩, fun i v H2 hi y => ?_⟩
  obtain ⟨p, x, z, rfl, hp, rfl, y1, y2⟩ := y
  have e2 : (us.zip ws)[i]? = some (x, z) := List.getElem?_zip_eq_some.mpr ⟨y1 us s1, y2 ws s2⟩
  exact ⟨[x, z], by rw [List.getElem?_map, e2]; rfl, p, hp, rfl, rfl⟩
theorem Src.rng {a : Int} {n : Nat} : Src K Z F H ((List.range n).map fun (i : Nat) => Val.int (a + (i : Int))) (Itr a n) := by
  refine ⟨(List.range n).map fun (i : Nat) => [V.int (a + (i : Int))], false, by simp, fun i x us h1 h2 => ?_, fun H' f => ⟨fun i hi => ?_, ?_, fun i v H2 hi y => ?_⟩⟩
  · rw [List.getElem?_map] at h1 h2
    cases e : (List.range n)[i]? with
    | none => rw [e] at h1; cases h1
    | some j =>
      rw [e] at h1 h2
      cases h1
      cases h2
      exact ⟨_, rfl, by simp [R]⟩
  · show i < n
    simpa using hi
  · show n ≤ _
    simp
  · obtain ⟨rfl, rfl⟩ := y
    have hn : i < n := by simpa using hi
    exact ⟨[.int (a + (i : Int))], by rw [List.getElem?_map, List.getElem?_range hn]; rfl, rfl, rfl⟩
theorem Src.rngC {a c : Int} {n : Nat} : Src K Z F H (numsUp a n c) (Itc a c n) := by
  unfold numsUp
  refine ⟨(List.range n).map fun (i : Nat) => [V.int (a + (i : Int) * c)], false, by simp, fun i x us h1 h2 => ?_, fun H' f => ⟨fun i hi => ?_, ?_, fun i v H2 hi y => ?_⟩⟩
  · rw [List.getElem?_map] at h1 h2
    cases e : (List.range n)[i]? with
    | none => rw [e] at h1; cases h1
    | some j =>
      rw [e] at h1 h2
      cases h1
      cases h2
      exact ⟨_, rfl, by simp [R]⟩
  · show i < n
    simpa using hi
  · show n ≤ _
    simp
  · obtain ⟨rfl, rfl⟩ := y
    have hn : i < n := by simpa using hi
    exact ⟨[.int (a + (i : Int) * c)], by rw [List.getElem?_map, List.getElem?_range hn]; rfl, rfl, rfl⟩
end
/-! ### the walks as written -/
def tI (y : Cy) (W : WX) (it : DI.It) : TI := fun σ H G => ∃ F S r, y.St F S H ∧ y.En F H r σ ∧ Post y F H (evi y.P y.C it r S) (Src y.K y.Z) (fun c d H' => W c d σ H') G
theorem PI.weak {X : Cx} {tg e : Expr} {t t' : TI} (h : PI X tg e t) (w : ∀ σ H G, t' σ H G → t σ H G) : PI X tg e t' := ⟨fun pins s σ H G I q => h.run pins s σ H G I (w σ H G q)⟩
def iSeq (K : PySem.W.Frag) (tl : TE) : TI := fun σ H G => tl σ H fun x H1 => ∃ a, x = .ref a ∧ (((∃ xs, SqL K H1 a xs) ∧ G (Itl K a) H1) ∨ ((∃ xs, SqT K H1 a xs) ∧ G (Itt K a) H1))
theorem pi_seq {X : Cx} {tg l : Expr} {tl : TE} (hl : PE X l tl) : PI X tg l (iSeq X.K tl) := by
  refine ⟨fun pins s σ H G I h => ?_⟩
  refine thn (hl.run pins s σ H _ I h) fun v s1 ⟨x, H1, I1, r1, a, e, q1⟩ => ?_
  subst e
  obtain rfl : v = .ref a := r1
  have it0 : ∀ b, b ∈ [s1.heap.objs.size] → FpOk X pins H1 b := fun b hb => by
    obtain rfl : b = s1.heap.objs.size := by simpa using hb
    exact I1.fpOk (Nat.le_refl _) (I1.hok.fresh (Nat.le_refl _))
  rcases q1 with ⟨⟨xs, hq⟩, q⟩ | ⟨⟨xs, hq⟩, q⟩
  · obtain ⟨its, rv, p, _⟩ := I1.list hq
    exact wpAny_pyIter_list p.isList ⟨_, _, _, _, H1, rfl, I1.kept (t' := s1.toks) fun b o e => Heap.get?_push_of_some _ e, turn_list a _, ⟨_, Heap.get?_push_size _ rfl, rfl, rfl⟩, it0, q⟩
  · obtain ⟨its, rv, p, _⟩ := I1.tuple hq
    exact wpAny_pyIter_tuple (show s1.heap.IsTuple a its.toArray from p) ⟨_, _, _, _, H1, rfl, I1.kept (t' := s1.toks) fun b o e => Heap.get?_push_of_some _ e, turn_tuple a _, ⟨_, Heap.get?_push_size _ rfl, rfl, rfl⟩, it0, q⟩
section
variable {P : Pg} {k : Nat} {N : List Str} {sc : List (Str × NameKind)} {so : List Str} {X : Cx} {Z : Addr → Prop} {W : WX} {tg : Expr}
theorem i_ex {e : Ex} {ea : Expr} (ha : PE X ea (tE (cy P k X Z) W e)) : PI X tg ea (tI (cy P k X Z) W (.ex e)) := by
  refine PI.weak (pi_seq ha) fun σ H G ⟨F, S, r, st, en, po⟩ => ?_
  simp only [evi] at po
  refine ⟨F, S, r, st, en, po.bind.mono fun x H1 ⟨F1, v, S1, k1, s1, r1, po1⟩ => ?_⟩
  cases v with
  | tup xs =>
    obtain ⟨a, us, rfl, t, rl⟩ := R.of_tup r1
    exact ⟨a, rfl, .inr ⟨⟨us, t.sq⟩, po1.ok s1 (Src.tup t rl)⟩⟩
  | lst xs =>
    obtain ⟨a, us, rfl, t, m, rl⟩ := R.of_lst r1
    exact ⟨a, rfl, .inl ⟨⟨us, .of t⟩, po1.ok s1 (Src.list t m rl)⟩⟩
  | _ => exact po1.bad.elim
theorem star1 {a : Expr} {env : Env} (h : notStar a = true) : starEach [a] env = [(false, eval a env)] := by rw [notStar_each h]; rfl
theorem evs1 {P : Pg} {C : Cf} {a : Ex} {r : Sl} {S : Store} {γ : Type} {f : Val → Store → Out γ} : (ev P C a r S).bind f = (evs P C (.cons a .nil) r S).bind fun xs S1 => match xs with
    | [x] => f x S1
    | _ => .bad := by
  simp only [evs, Out.bind_assoc, Out.bind_ok]
theorem evs2 {P : Pg} {C : Cf} {a b : Ex} {r : Sl} {S : Store} {γ : Type} {f : Val → Val → Store → Out γ} : ((ev P C a r S).bind fun x S1 => (ev P C b r S1).bind fun z S2 => f x z S2) = (evs P C (.cons a (.cons b .nil)) r S).bind fun xs S1 => match xs with
    | [x, z] => f x z S1
    | _ => .bad := by
  simp only [evs, Out.bind_assoc, Out.bind_ok]
theorem evs3 {P : Pg} {C : Cf} {a b c : Ex} {r : Sl} {S : Store} {γ : Type} {f : Val → Val → Val → Store → Out γ} : ((ev P C a r S).bind fun x S1 => (ev P C b r S1).bind fun z S2 => (ev P C c r S2).bind fun w S3 => f x z w S3) = (evs P C (.cons a (.cons b (.cons c .nil))) r S).bind fun xs S1 => match xs with
    | [x, z, w] => f x z w S1
    | _ => .bad := by
  simp only [evs, Out.bind_assoc, Out.bind_ok]
theorem i_r1 (g : Good P k N sc so X) {a : Ex} {ea : Expr} {p pos : Pos} (ha : PE X ea (tE (cy P k X Z) W a)) (hn : notStar ea = true) (hg : gloB sc "range" = true) : PI X tg (.Call (.Name "range" p) [ea] [] pos) (tI (cy P k X Z) W (.r1 a)) := by
  refine PI.weak (pi_range1 (g.glo hg).1 (g.blt _ (by decide)) (x_acons ha x_anil hn) (star1 hn)) fun σ H G ⟨F, S, r, st, en, po⟩ => ?_
  simp only [evi] at po
  rw [evs1] at po
  refine ⟨F, S, r, st, en, (po.bind (RA := (cy P k X Z).RL)).mono fun vs H1 ⟨F1, xs, S1, k1, s1, r1, po1⟩ => ?_⟩
  split at po1
  · obtain ⟨u, rfl, ru⟩ := RL.one r1
    split at po1
    · rename_i j
      obtain rfl := R.of_int ru
      unfold rngIts at po1
      split at po1
      · rename_i h
        exact ⟨j, rfl, h.2.2.1, h.2.2.2.1, by simpa using po1.ok s1 Src.rng⟩
      · exact po1.bad.elim
    · exact po1.bad.elim
  · exact po1.bad.elim
theorem i_r2 (g : Good P k N sc so X) {a b : Ex} {ea eb : Expr} {p pos : Pos} (ha : PE X ea (tE (cy P k X Z) W a)) (hb : PE X eb (tE (cy P k X Z) W b)) (hn : notStar ea = true) (hn2 : notStar eb = true) (hg : gloB sc "range" = true) :
    PI X tg (.Call (.Name "range" p) [ea, eb] [] pos) (tI (cy P k X Z) W (.r2 a b)) := by
  refine PI.weak (pi_range2 (g.glo hg).1 (g.blt _ (by decide)) (x_acons ha (x_acons hb x_anil hn2) hn) (by rw [notStar_each hn, star1 hn2]) (star1 hn2)) fun σ H G ⟨F, S, r, st, en, po⟩ => ?_
  simp only [evi] at po
  rw [evs2] at po
  refine ⟨F, S, r, st, en, (po.bind (RA := (cy P k X Z).RL)).mono fun vs H1 ⟨F1, xs, S1, k1, s1, r1, po1⟩ => ?_⟩
  split at po1
  · obtain ⟨u, w, rfl, ru, rw'⟩ := RL.two r1
    split at po1
    · rename_i i
      obtain rfl := R.of_int ru
      split at po1
      · rename_i j
        obtain rfl := R.of_int rw'
        unfold rngIts at po1
        split at po1
        · rename_i h
          exact ⟨i, j, rfl, ⟨h.1, h.2.1, h.2.2.1, h.2.2.2.1⟩, po1.ok s1 Src.rng⟩
        · exact po1.bad.elim
      · exact po1.bad.elim
    · exact po1.bad.elim
  · exact po1.bad.elim
theorem RL.three {K : PySem.W.Frag} {F : Fs} {H : Hp} {x z w : Val} {xs : List V} (h : RL K Z F H [x, z, w] xs) : ∃ u v t, xs = [u, v, t] ∧ R K Z F H x u ∧ R K Z F H z v ∧ R K Z F H w t := by
  obtain ⟨v, r, e, h1, h2⟩ := h.cons_inv
  obtain ⟨u, t, rfl, h3, h4⟩ := h2.two
  exact ⟨v, u, t, e, h1, h3, h4⟩
theorem i_r3 (g : Good P k N sc so X) {a b c : Ex} {ea eb ec : Expr} {p pos : Pos} (ha : PE X ea (tE (cy P k X Z) W a)) (hb : PE X eb (tE (cy P k X Z) W b)) (hc : PE X ec (tE (cy P k X Z) W c)) (hn : notStar ea = true) (hn2 : notStar eb = true) (hn3 : notStar ec = true) (hg : gloB sc "range" = true) :
    PI X tg (.Call (.Name "range" p) [ea, eb, ec] [] pos) (tI (cy P k X Z) W (.r3 a b c)) := by
  refine PI.weak (pi_range3 (g.glo hg).1 (g.blt _ (by decide)) (x_acons ha (x_acons hb (x_acons hc x_anil hn3) hn2) hn) (notStar_each hn) (allPlain_any (by simp [allPlain, hn2, hn3]))) fun σ H G ⟨F, S, r, st, en, po⟩ => ?_
  simp only [evi] at po
  rw [evs3] at po
  refine ⟨F, S, r, st, en, (po.bind (RA := (cy P k X Z).RL)).mono fun vs H1 ⟨F1, xs, S1, k1, s1, r1, po1⟩ => ?_⟩
  split at po1
  · obtain ⟨u, w, t, rfl, ru, rw', rt⟩ := RL.three r1
    split at po1
    · rename_i i
      obtain rfl := R.of_int ru
      split at po1
      · rename_i j
        obtain rfl := R.of_int rw'
        split at po1
        · rename_i l
          obtain rfl := R.of_int rt
          unfold rngIts3 at po1
          split at po1
          · rename_i h
            exact ⟨i, j, l, rngN i j l, rfl, ⟨h.1, h.2.1, h.2.2.1, rangeSize_toNat i j l⟩, po1.ok s1 Src.rngC⟩
          · exact po1.bad.elim
        · exact po1.bad.elim
      · exact po1.bad.elim
    · exact po1.bad.elim
  · exact po1.bad.elim
theorem PI.or {X : Cx} {tg e : Expr} {t t' : TI} (h : PI X tg e t) (h' : PI X tg e t') : PI X tg e (fun σ H G => t σ H G ∨ t' σ H G) := ⟨fun pins s σ H G I q => q.elim (h.run pins s σ H G I) (h'.run pins s σ H G I)⟩
theorem i_en (g : Good P k N sc so X) {a : Ex} {ea : Expr} {es : List Expr} {j : Nat} {tp p pos : Pos} (ha : PE X ea (tE (cy P k X Z) W a)) (hn : notStar ea = true) (hg : gloB sc "enumerate" = true) : PI X (.Tuple es j tp) (.Call (.Name "enumerate" p) [ea] [] pos) (tI (cy P k X Z) W (.en a)) := by
  refine PI.weak (PI.or (pi_enum (g.glo hg).1 (g.blt _ (by decide)) (x_acons ha x_anil hn) (star1 hn)) (pi_enT (g.glo hg).1 (g.blt _ (by decide)) (x_acons ha x_anil hn) (star1 hn))) fun σ H G ⟨F, S, r, st, en, po⟩ => ?_
  simp only [evi] at po
  have po : Post (cy P k X Z) F H ((ev P (run P k) a r S).bind fun x S1 => (match x with
    | .lst xs => .ok (enumIts xs) S1
    | .tup xs => .ok (enumIts xs) S1
    | _ => .bad)) (Src X.K Z) (fun c d H' => W c d σ H') G := po
  cases q : ev P (run P k) a r S with
  | bad => rw [q] at po; exact po.bad.elim
  | exn x S1 =>
    rw [q] at po
    have e : evs P (run P k) (.cons a .nil) r S = .exn x S1 := by simp only [evs, q, Out.bind_exn]
    refine .inl ⟨F, S, r, st, en, ?_⟩
    show Post _ _ _ (evs P (run P k) (.cons a .nil) r S) _ _ _
    rw [e]
    exact po
  | ok v S1 =>
    rw [q] at po
    have e : evs P (run P k) (.cons a .nil) r S = .ok [v] S1 := by simp only [evs, q, Out.bind_ok]
    cases v with
    | lst xs =>
      refine .inl ⟨F, S, r, st, en, ?_⟩
      show Post _ _ _ (evs P (run P k) (.cons a .nil) r S) _ _ _
      rw [e]
      intro F1 H1 vs k1 s1 r1
      obtain ⟨u, rfl, ru⟩ := RL.one r1
      obtain ⟨q, us, rfl, t, m, rl⟩ := R.of_lst ru
      exact ⟨q, us, rfl, .of t, Post.ok (a := enumIts xs) (Post.keep k1 po) s1 (Src.enum t m rl)⟩
    | tup xs =>
      refine .inr ⟨F, S, r, st, en, ?_⟩
      show Post _ _ _ (evs P (run P k) (.cons a .nil) r S) _ _ _
      rw [e]
      intro F1 H1 vs k1 s1 r1
      obtain ⟨u, rfl, ru⟩ := RL.one r1
      obtain ⟨q, us, rfl, t, rl⟩ := R.of_tup ru
      exact ⟨q, us, rfl, t.sq, Post.ok (a := enumIts xs) (Post.keep k1 po) s1 (Src.enumT t rl)⟩
    | _ => exact po.bad.elim
theorem i_zp (g : Good P k N sc so X) {a b : Ex} {ea eb : Expr} {es : List Expr} {j : Nat} {tp p pos : Pos} (ha : PE X ea (tE (cy P k X Z) W a)) (hb : PE X eb (tE (cy P k X Z) W b)) (hn : notStar ea = true) (hn2 : notStar eb = true) (hg : gloB sc "zip" = true) :
    PI X (.Tuple es j tp) (.Call (.Name "zip" p) [ea, eb] [] pos) (tI (cy P k X Z) W (.zp a b)) := by
  refine PI.weak (pi_zipA (g.glo hg).1 (g.blt _ (by decide)) (x_acons ha (x_acons hb x_anil hn2) hn) (notStar_each hn) (allPlain_any (by simp [allPlain, hn2]))) fun σ H G ⟨F, S, r, st, en, po⟩ => ?_
  simp only [evi] at po
  rw [evs2] at po
  refine ⟨F, S, r, st, en, (po.bind (RA := (cy P k X Z).RL)).mono fun vs H1 ⟨F1, xs, S1, k1, s1, r1, po1⟩ => ?_⟩
  split at po1
  · obtain ⟨u, w, rfl, ru, rw'⟩ := RL.two r1
    split at po1
    · split at po1
      · obtain ⟨q, us, rfl, t, rl⟩ := R.of_tup ru
        obtain ⟨q2, us2, rfl, t2, rl2⟩ := R.of_tup rw'
        exact ⟨q, q2, us, us2, rfl, .inr ⟨t.sq, t2.sq, po1.ok s1 (Src.zipT t rl t2 rl2)⟩⟩
      · exact po1.bad.elim
    · split at po1
      · obtain ⟨q, us, rfl, t, m, rl⟩ := R.of_lst ru
        obtain ⟨q2, us2, rfl, t2, m2, rl2⟩ := R.of_lst rw'
        exact ⟨q, q2, us, us2, rfl, .inl ⟨.of t, .of t2, po1.ok s1 (Src.zipL t m rl t2 m2 rl2)⟩⟩
      · exact po1.bad.elim
    · exact po1.bad.elim
  · exact po1.bad.elim
end
end DI
/-! DI8s: sorted(..) of data, of a list or a tuple. -/
namespace DI
open PySem PySem.W PySem.Calls PyProof.Rows
section
variable {prog : Program} {w : World} {A : Around} {E : Value → Shared → Prop} {s : Shared}
theorem collect_tup {l : Addr} {vs : List Value} {Q : List Value → Shared → Prop} (hl : s.heap.IsTuple l vs.toArray)
    (h : Q vs { s with heap := (s.heap.push (seqObj "list" #[] 0)).update s.heap.objs.size (Obj.mapSeq (· ++ vs.toArray)) }) (hsz : vs.length ≤ sizeLine) :
    wpAny (model prog w) A (collect (.ref l)) Q E s := by
  obtain ⟨o, ho, hc, n, hd⟩ := id hl
  unfold collect
  refine wpAny_bind (wpAny_runValue (codeAny_builtin entry_proto_collect' ?_))
  show wpAny _ _ (do again (.builtin "list.__iadd__" ⟨[← newList [], .ref l], []⟩)) _ _ s
  refine wpAny_bind (wpAny_newList (wpAny_pure ⟨Code.quiet_builtin _ (by decide +kernel), codeAny_builtin entry_list_iadd' ?_⟩))
  show wpAny _ _ (Builtin.List.listExtendWith (.ref s.heap.objs.size) (.ref l) (.ref s.heap.objs.size)) _ _ { s with heap := s.heap.push (seqObj "list" #[] 0) }
  unfold Builtin.List.listExtendWith
  have ho' : (s.heap.push (seqObj "list" #[] 0)).get? l = some o := Heap.get?_push_of_some _ ho
  refine wpAny_bind (wpAny_typeOf (T := "tuple") ⟨o, ho', hc⟩ ?_)
  have ht : (Value.type "tuple" == Value.type "tuple") = true := by rfl
  rw [if_pos (by rw [ht]; simp)]
  refine wpAny_bind (listItems_at ho' hd ?_)
  refine wpAny_bind (listItems_at (xs := #[]) (n := 0) (Heap.get?_push_size _ rfl) rfl ?_)
  rw [if_neg (by simp)]
  refine wpAny_bind (listUpdate_at (xs := #[]) (n := 0) (Heap.get?_push_size _ rfl) rfl ?_ (Nat.zero_le _) (by show (#[] ++ vs.toArray).size ≤ sizeLine + 1; simp only [Array.size_append, List.size_toArray, List.length_nil]; omega))
  refine wpAny_pure ?_
  show wpAny (model prog w) A (do
      let o ← load s.heap.objs.size
      match o.data with
      | .seq xs _ => pure xs.toList
      | _ => unsupported "internal:collect") Q E { s with heap := (s.heap.push (seqObj "list" #[] 0)).update s.heap.objs.size (Obj.mapSeq (· ++ vs.toArray)) }
  refine wpAny_bind (wpAny_load (get?_update_seq (Heap.get?_push_size _ rfl) _) ?_)
  show wpAny _ _ (pure ((#[] : Array Value) ++ vs.toArray).toList) Q E _
  rw [show ((#[] : Array Value) ++ vs.toArray).toList = vs by simp]
  exact wpAny_pure h
theorem sorted_of_tup {l : Addr} {vs : List Value} {kw : List (Str × Value)} {Q : Value → Shared → Prop} (hl : s.heap.IsTuple l vs.toArray) (hL : vs.length ≤ sizeLine) (ha1 : argsOk "sorted" ⟨[.ref l], kw⟩) (ha2 : ∀ x, argsOk "list.sort" ⟨[.ref x], kw⟩)
    (body : ∀ E' : Value → Shared → Prop, wpAny (model prog w) A.in1.in1 (Builtin.«list.sort» ⟨[.ref (s.heap.objs.size + 1)], kw⟩) (fun f s' => f = .done (.ret .none) ∧ Q (.ref (s.heap.objs.size + 1)) s') E' { s with heap := copyHeap s.heap vs }) :
    wpAny (model prog w) A (call (.builtin "sorted") [.ref l] kw) Q E s := by
  refine call_function_entry_kw kind_sorted plain_sorted entry_sorted ha1 ?_
  unfold Builtin.«sorted»
  refine wpAny_bind (m := checkCount "sorted" 1 1 _) (wpAny_pure ?_)
  refine wpAny_bind (collect_tup hl ?_ hL)
  refine wpAny_bind (wpAny_newList ?_ hL)
  have hsz : ((s.heap.push (seqObj "list" #[] 0)).update s.heap.objs.size (Obj.mapSeq (· ++ vs.toArray))).objs.size = s.heap.objs.size + 1 := by
    rw [Heap.size_update, size_push']
  show wpAny _ _ _ _ _ { s with heap := copyHeap s.heap vs }
  rw [hsz]
  refine wpAny_bind (wpAny_holding (wpAny_call_entry_kw slot_list_sort ⟨_, copyHeap_at s.heap vs, rfl⟩ entry_list_sort ?body (ha2 _)))
  case body =>
    show wpAny (model prog w) A.in1.in1 (Builtin.«list.sort» ⟨[.ref (s.heap.objs.size + 1)], kw⟩) _ _ _
    refine wpAny_mono (body _) (fun f s' hf => ?_) fun _ _ e => e
    obtain ⟨rfl, hq⟩ := hf
    exact ⟨_, rfl, wpAny_pure ⟨_, rfl, hq⟩⟩
theorem sorted_data2 {β : Type} {bs : List β} {enc : β → PyData} {R : Value → β → Prop} {vs : List Value} {l : Addr} {Q : Value → Shared → Prop} (hl : s.heap.IsList l vs.toArray ∨ s.heap.IsTuple l vs.toArray) (e : EachIs R vs bs) (er : EachIs (fun v b => ∃ as, Reads s.heap v (enc b) as) vs bs) (hal : AllAlike (bs.map enc)) (hk : Sortable (bs.map enc)) (hL : bs.length ≤ sizeLine)
    (hu : ∀ b, b ∈ bs → A.units + 2 + (enc b).depth < cLine) (h : ∀ out, out.length = bs.length → EachIs R out (bs.mergeSort (dataLe false enc)) → Q (.ref (s.heap.objs.size + 1)) { s with heap := sortedAll s.heap vs (List.toArray out) }) :
    wpAny (model prog w) A (call (.builtin "sorted") [.ref l]) Q E s := by
  rcases hl with hl | hl
  · exact sorted_data hl e er hal hk hL hu h
  · have er' : EachIs (fun v b => ∃ as, Reads (sortingHeap (copyHeap s.heap vs) (s.heap.objs.size + 1) vs) v (enc b) as) vs bs := er.mono fun _ _ ⟨as, r⟩ => ⟨as, PyProof.Rows.Reads.keeps (fun _ _ => sorting_copy_old) r⟩
    have hL2 : vs.length ≤ sizeLine := by rw [e.length]; exact hL
    have S := SortsAt.data (prog := prog) (w := w) (A := A.in1.in1) (s := { s with heap := sortingHeap (copyHeap s.heap vs) (s.heap.objs.size + 1) vs }) (each_map (R := fun v d => ∃ as, Reads (sortingHeap (copyHeap s.heap vs) (s.heap.objs.size + 1) vs) v d as) enc er') hal hk (bound_map hu)
    exact sorted_of_tup hl hL2 (args_sorted1 _) (fun _ => args_list_sort _) fun _ => list_sort_vals (s := { s with heap := copyHeap s.heap vs }) (copyHeap_at s.heap vs) S hL2 ⟨rfl, h _ (by rw [sortVals_length false rfl]; exact e.length) (sortVals_data false e er' hal)⟩
end
/-! ### order, plainly -/
theorem insD_perm (x : Val) : ∀ l : List Val, (insD x l).Perm (x :: l)
  | [] => .refl _
  | y :: ys => by
    unfold insD
    split
    · exact ((insD_perm x ys).cons y).trans (.swap x y ys)
    · exact .refl _
theorem dsort_perm : ∀ l : List Val, (dsort l).Perm l
  | [] => .refl _
  | x :: xs => (insD_perm x (dsort xs)).trans ((dsort_perm xs).cons x)
theorem dle_total : TotalLe (fun a b : Val => !dlt b a) := sortLe_total (listOrd itemOrd) false fun v => keyToks (toD v)
theorem insD_sorted (x : Val) : ∀ {l : List Val}, l.Pairwise (fun a b => dlt b a = false) → (insD x l).Pairwise (fun a b => dlt b a = false)
  | [], _ => by simp [insD]
  | y :: ys, h => by
    obtain ⟨h1, h2⟩ := List.pairwise_cons.mp h
    unfold insD
    split
    · rename_i q
      refine List.pairwise_cons.mpr ⟨fun z hz => ?_, insD_sorted x h2⟩
      rcases List.mem_cons.mp ((insD_perm x ys).mem_iff.mp hz) with rfl | hz
      · cases e : dlt z y with
        | false => rfl
        | true =>
          have := dle_total.total y z
          simp [q, e] at this
      · exact h1 z hz
    · rename_i q
      have q : dlt y x = false := by simpa using q
      refine List.pairwise_cons.mpr ⟨fun z hz => ?_, h⟩
      rcases List.mem_cons.mp hz with rfl | hz
      · exact q
      · have := dle_total.trans x y z (by simp [q]) (by simp [h1 z hz])
        simpa using this
theorem dsort_sorted : ∀ l : List Val, (dsort l).Pairwise (fun a b => dlt b a = false)
  | [] => .nil
  | x :: xs => insD_sorted x (dsort_sorted xs)
theorem pairsOk_mem : ∀ {xs : List Val}, pairsOk xs = true → ∀ a ∈ xs, ∀ b ∈ xs, alike (toD a) (toD b) = true ∧ (dlt a b = false → dlt b a = false → a = b)
  | x :: xs, h, a, ha, b, hb => by
    simp only [pairsOk, Bool.and_eq_true, List.all_eq_true] at h
    obtain ⟨h1, h2, h3⟩ := h
    have key : ∀ z ∈ xs, (alike (toD x) (toD z) = true ∧ alike (toD z) (toD x) = true) ∧ (dlt x z = false → dlt z x = false → x = z) := fun z hz => by
      have q := h2 z hz
      simp only [pairOk, Bool.and_eq_true, Bool.or_eq_true] at q
      obtain ⟨q1, q2, q3⟩ := q
      refine ⟨⟨q1, q2⟩, fun e1 e2 => ?_⟩
      rcases q3 with q3 | q3 | q3
      · exact Val.beq_of q3
      · rw [e1] at q3; cases q3
      · rw [e2] at q3; cases q3
    rcases List.mem_cons.mp ha with ea | ha2
    · rcases List.mem_cons.mp hb with eb | hb2
      · rw [ea, eb]
        exact ⟨h1, fun _ _ => rfl⟩
      · rw [ea]
        exact ⟨(key b hb2).1.1, (key b hb2).2⟩
    · rcases List.mem_cons.mp hb with eb | hb2
      · rw [eb]
        exact ⟨(key a ha2).1.2, fun e1 e2 => ((key a ha2).2 e2 e1).symm⟩
      · exact pairsOk_mem h3 a ha2 b hb2
theorem sort_kind {xs : List Val} (h : (xs.all tup1B || xs.all otherB) = true) : Sortable (xs.map toD) := by
  rw [Bool.or_eq_true] at h
  rcases h with h | h
  · left
    intro d hd
    obtain ⟨v, hv, rfl⟩ := List.mem_map.mp hd
    have := List.all_eq_true.mp h v hv
    cases v with
    | tup ys =>
      cases ys with
      | nil => simp [tup1B] at this
      | cons y ys => exact ⟨toD y, toDs ys, by simp [toD, toDs]⟩
    | _ => simp [tup1B] at this
  · right
    intro d hd
    obtain ⟨v, hv, rfl⟩ := List.mem_map.mp hd
    have := List.all_eq_true.mp h v hv
    cases v <;> simp [otherB] at this <;> simp [toD]
/-! ### the call -/
open PySem.Spec L2
section
variable {X : Cx} {y : Cy}
theorem each_zip {K : PySem.W.Frag} {Z : Addr → Prop} {F : Fs} {H : Hp} : ∀ {xs : List Val} {us : List V} {its : List Value}, DI.RL K Z F H xs us → Vals us its → EachIs (fun v (b : Val × V) => RelV b.2 v ∧ DI.R K Z F H b.1 b.2) its (xs.zip us)
  | [], _, _, h, r => by
    rw [h.nil_inv] at r ⊢
    cases r
    exact .nil
  | x :: xs, _, _, h, r => by
    obtain ⟨v, us, e, h1, h2⟩ := h.cons_inv
    subst e
    cases r with
    | cons r1 r2 => exact .cons ⟨r1, h1⟩ (each_zip h2 r2)
theorem each_back {K : PySem.W.Frag} {Z : Addr → Prop} {F : Fs} {H : Hp} : ∀ {bs : List (Val × V)} {its : List Value}, EachIs (fun v (b : Val × V) => RelV b.2 v ∧ DI.R K Z F H b.1 b.2) its bs → Vals (bs.map (·.2)) its ∧ DI.RL K Z F H (bs.map (·.1)) (bs.map (·.2))
  | [], _, h => by
    cases h
    exact ⟨.nil, RL.nil⟩
  | b :: bs, _, h => by
    cases h with
    | cons h1 h2 =>
      obtain ⟨a, c⟩ := each_back h2
      exact ⟨.cons h1.1 a, .cons h1.2 c⟩
/-- the one order -/
structure OneOrd (xs ys : List Val) : Prop where
  dat : Val.dats xs = true
  dep : ∀ a ∈ xs, a.dep ≤ 60
  al : ∀ a ∈ xs, ∀ b ∈ xs, alike (toD a) (toD b) = true
  anti : ∀ a ∈ xs, ∀ b ∈ xs, dlt a b = false → dlt b a = false → a = b
  kind : Sortable (xs.map toD)
  perm : ys.Perm xs
  srt : ys.Pairwise (fun a b => dlt b a = false)
theorem srt_call {n : Nat} (hr : Room n X.A) (hK : y.K = X.K) {pins : List (Addr × Obj)} {s : Shared} {σ : L2.St} {H : Hp} {F : Fs} {S : Store} {a : Addr} {us : List V} {xs ys : List Val} {Q : VK} (I : Inv X pins σ H s) (hs : SqL X.K H a us ∨ SqT X.K H a us)
    (rl : y.RL F H xs us) (o : OneOrd xs ys) (q : ∀ ws p, y.RL F H ys ws → H p = none → Q (.ref p) (upd H p (.lst ws))) : wpAny (model X.prog X.w) X.A (call (.builtin "sorted") [.ref a]) (EP X pins σ Q) X.xe s := by
  obtain ⟨its, rv, hl, hz⟩ : ∃ its : List Value, Vals us its ∧ (s.heap.IsList a its.toArray ∨ s.heap.IsTuple a its.toArray) ∧ its.length ≤ sizeLine := by
    rcases hs with hs | hs
    · obtain ⟨its, r, hl, hz⟩ := I.list hs
      exact ⟨its, r, .inl hl.isList, by rw [← r.length]; exact hz⟩
    · obtain ⟨its, r, hl, hz⟩ := I.tuple hs
      exact ⟨its, r, .inr hl, by rw [← r.length]; exact hz⟩
  have e := each_zip rl rv
  have hlen := RL.length rl
  have hu := units64 hr
  have mem1 : ∀ b ∈ xs.zip us, b.1 ∈ xs := fun b hb => (List.of_mem_zip hb).1
  have hdat : ∀ z ∈ xs, z.dat = true := by
    have key : ∀ (l : List Val), Val.dats l = true → ∀ z ∈ l, z.dat = true := by
      intro l
      induction l with
      | nil => intro _ z hz; simp at hz
      | cons a l ih =>
        intro q z hz
        have q2 : a.dat = true ∧ Val.dats l = true := by simpa [Val.dats] using q
        rcases List.mem_cons.mp hz with rfl | hz
        · exact q2.1
        · exact ih q2.2 z hz
    exact key xs o.dat
  have er : EachIs (fun v (b : Val × V) => ∃ as, Reads s.heap v (toD b.1) as) its (xs.zip us) := (each_mem e).mono fun v b ⟨⟨h1, h2⟩, h3⟩ => Dp.reads I _ b.2 v (by rw [← hK]; exact dp_of (hdat _ (mem1 b h3)) h2) h1
  have hm : (xs.zip us).map (fun b => toD b.1) = xs.map toD := by
    have : (xs.zip us).map (fun b => toD b.1) = ((xs.zip us).map (·.1)).map toD := by rw [List.map_map]; rfl
    rw [this, List.map_fst_zip (by omega)]
  refine sorted_data2 (bs := xs.zip us) (enc := fun b => toD b.1) hl e er ?_ (by rw [hm]; exact o.kind) ?_ ?_ ?_
  · rw [hm]
    intro d hd d' hd'
    obtain ⟨v, hv, rfl⟩ := List.mem_map.mp hd
    obtain ⟨v', hv', rfl⟩ := List.mem_map.mp hd'
    exact o.al v hv v' hv'
  · rw [← e.length]
    exact hz
  · intro b hb
    have := o.dep _ (mem1 b hb)
    show X.A.units + 2 + (toD b.1).depth < cLine
    rw [dep_of]
    omega
  · intro out ho he
    obtain ⟨b1, b2⟩ := each_back he
    generalize hL : (xs.zip us).mergeSort (dataLe false fun b => toD b.1) = L at he b1 b2
    have hp : L.Perm (xs.zip us) := by rw [← hL]; exact List.mergeSort_perm _ _
    have tot : TotalLe (dataLe false fun b : Val × V => toD b.1) := sortLe_total (listOrd itemOrd) false fun b : Val × V => keyToks (toD b.1)
    have hsr : L.Pairwise (fun a b => dataLe false (fun b : Val × V => toD b.1) a b = true) := by
      rw [← hL]
      exact List.pairwise_mergeSort tot.trans (fun a b => by rw [Bool.or_eq_true]; exact tot.total a b) _
    have hp2 : (L.map (·.1)).Perm xs := by
      have := hp.map (·.1)
      rwa [List.map_fst_zip (by omega)] at this
    have hs2 : (L.map (·.1)).Pairwise (fun a b => dlt b a = false) := by
      rw [List.pairwise_map]
      refine hsr.imp fun {a b} h => ?_
      have h2 : (!dataLt (toD b.1) (toD a.1)) = true := h
      simpa [dlt] using h2
    have ey : L.map (·.1) = ys := List.Perm.eq_of_pairwise (le := fun a b => dlt b a = false) (fun a b ha hb h1 h2 => o.anti a (hp2.mem_iff.mp ha) b (o.perm.mem_iff.mp hb) h2 h1) hs2 o.srt (hp2.trans o.perm.symm)
    rw [ey] at b2
    obtain ⟨c, hc⟩ := sortedAll_at s.heap its out.toArray
    have hfr : H (s.heap.objs.size + 1) = none := I.hok.fresh (Nat.le_succ _)
    refine ⟨.ref (s.heap.objs.size + 1), upd H (s.heap.objs.size + 1) (.lst (L.map (·.2))), I.laid (t' := s.toks) (fun b ob qq => sortedAll_old qq) (Nat.le_succ _) ⟨?_, out, c, b1, hc⟩, rfl, q _ _ b2 hfr⟩
    rw [List.length_map, hp.length_eq, ← e.length]
    exact hz
theorem dlt_int (i j : Int) : dlt (.int i) (.int j) = decide (i < j) := by
  unfold dlt
  simp only [toD]
  exact dataLt_int i j
theorem srtL_one {xs ys : List Val} (h : srtL xs = some ys) : OneOrd xs ys := by
  unfold srtL at h
  cases e : intsOf xs with
  | some ns =>
    rw [e] at h
    have hy : (isort ns).map Val.int = ys := Option.some.inj h
    have hx := intsOf_map e
    subst hy hx
    have key : ∀ a ∈ ns.map Val.int, ∃ i, a = .int i := fun a ha => by
      obtain ⟨i, _, rfl⟩ := List.mem_map.mp ha
      exact ⟨i, rfl⟩
    refine ⟨?_, ?_, ?_, ?_, ?_, (isort_perm ns).map _, ?_⟩
    · clear key h e
      induction ns with
      | nil => rfl
      | cons n ns ih => simp [Val.dats, Val.dat] at ih ⊢; exact ih
    · intro a ha
      obtain ⟨i, rfl⟩ := key a ha
      simp [Val.dep]
    · intro a ha b hb
      obtain ⟨i, rfl⟩ := key a ha
      obtain ⟨j, rfl⟩ := key b hb
      simp [toD, alike]
    · intro a ha b hb h1 h2
      obtain ⟨i, rfl⟩ := key a ha
      obtain ⟨j, rfl⟩ := key b hb
      rw [dlt_int] at h1 h2
      simp only [decide_eq_false_iff_not] at h1 h2
      have : i = j := by omega
      rw [this]
    · right
      intro d hd
      obtain ⟨v, hv, rfl⟩ := List.mem_map.mp hd
      obtain ⟨i, rfl⟩ := key v hv
      simp [toD]
    · rw [List.pairwise_map]
      refine (isort_sorted ns).imp fun {a b} q => ?_
      rw [dlt_int]
      simp only [decide_eq_false_iff_not]
      omega
  | none =>
    rw [e] at h
    dsimp only at h
    split at h
    · rename_i hc
      have hy : dsort xs = ys := Option.some.inj h
      subst hy
      simp only [sortOk, Bool.and_eq_true, decide_eq_true_eq] at hc
      obtain ⟨h1, h2, h3, h4, h5⟩ := hc
      have hdep : ∀ a ∈ xs, a.dep ≤ 60 := fun a ha => by
        have key : ∀ l : List Val, a ∈ l → a.dep ≤ Val.deps l := by
          intro l
          induction l with
          | nil => intro h; simp at h
          | cons z l ih =>
            intro h
            simp only [Val.deps]
            rcases List.mem_cons.mp h with rfl | h
            · omega
            · have := ih h
              omega
        exact Nat.le_trans (key xs ha) h2
      exact ⟨h1, hdep, fun a ha b hb => (pairsOk_mem h4 a ha b hb).1, fun a ha b hb => (pairsOk_mem h4 a ha b hb).2, sort_kind h3, dsort_perm xs, dsort_sorted xs⟩
    · cases h
def rSrt (y : Cy) (K : PySem.W.Frag) : List V → Hp → VK → Prop := fun vs H Q => ∃ F a us xs ys, vs = [V.ref a] ∧ (SqL K H a us ∨ SqT K H a us) ∧ y.RL F H xs us ∧ srtL xs = some ys ∧ ∀ ws p, y.RL F H ys ws → H p = none → Q (.ref p) (upd H p (.lst ws))
theorem cr_srt {n : Nat} (hr : Room n X.A) (hK : y.K = X.K) : CallR X (.builtin "sorted") (rSrt y X.K) := by
  intro pins s σ H vs us Q I r h
  obtain ⟨F, a, ws, xs, ys, rfl, hs, rl, e, q⟩ := h
  obtain ⟨u, rfl, ru⟩ := vals1 r
  obtain rfl : u = Value.ref a := ru
  exact srt_call (S := []) hr hK I hs rl (srtL_one e) q
end
end DI
/-! DI9: targets; new lists, further; comprehensions. -/
namespace DI
open PySem PySem.Spec PyProof.Rows L2 RZ
/-! ### targets -/
mutual
def chkT (N so : List Str) : Tg → Expr → Bool
  | .n i, e => (match e with
    | .Name x _ => (N[i]? == some x) && so.contains x
    | _ => false)
  | .t ts, e => (match e with
    | .Tuple es _ _ => chkTs N so ts es
    | _ => false)
def chkTs (N so : List Str) : List Tg → List Expr → Bool
  | [], [] => true
  | t :: ts, e :: es => chkT N so t e && chkTs N so ts es
  | _, _ => false
end
mutual
def tgIn (vs : List Nat) : Tg → Bool
  | .n i => vs.contains i
  | .t ts => tgIns vs ts
def tgIns (vs : List Nat) : List Tg → Bool
  | [] => true
  | t :: ts => tgIn vs t && tgIns vs ts
end
def tG (y : Cy) (t : Tg) : TG := fun v σ H Q => ∃ F S r x r', y.St F S H ∧ y.En F H r σ ∧ y.R F H x v ∧ setT t x r S = some r' ∧ ∀ σ', y.En F H r' σ' → (∀ vs, tgIn vs t = true → wipe σ' vs = wipe σ vs) → Q σ' H
def tGs (y : Cy) (ts : List Tg) : TGs := fun vs σ H Q => ∃ F S r xs r', y.St F S H ∧ y.En F H r σ ∧ y.RL F H xs vs ∧ setTs ts xs r S = some r' ∧ ∀ σ', y.En F H r' σ' → (∀ vs, tgIns vs ts = true → wipe σ' vs = wipe σ vs) → Q σ' H
theorem PG.weak {X : Cx} {e : Expr} {t t' : TG} (h : PG X e t) (w : ∀ v σ H Q, t' v σ H Q → t v σ H Q) : PG X e t' := ⟨fun pins s σ H v u Q I r q => h.run pins s σ H v u Q I r (w v σ H Q q)⟩
theorem PGs.weak {X : Cx} {e : List Expr} {t t' : TGs} (h : PGs X e t) (w : ∀ v σ H Q, t' v σ H Q → t v σ H Q) : PGs X e t' := ⟨fun pins s σ H v u Q I r q => h.run pins s σ H v u Q I r (w v σ H Q q)⟩
theorem PG.or {X : Cx} {e : Expr} {t t' : TG} (h : PG X e t) (h' : PG X e t') : PG X e (fun v σ H Q => t v σ H Q ∨ t' v σ H Q) := ⟨fun pins s σ H v u Q I r q => q.elim (h.run pins s σ H v u Q I r) (h'.run pins s σ H v u Q I r)⟩
theorem wipe_set {σ : L2.St} {i : Nat} {v : Option V} : ∀ {vs : List Nat}, vs.contains i = true → wipe (σ.set i v) vs = wipe σ vs
  | [], h => by simp at h
  | j :: vs, h => by
    unfold wipe
    by_cases hi : vs.contains i = true
    · rw [wipe_set hi]
    · have e : i = j := by
        rcases List.mem_cons.mp (by simpa using h) with e | e
        · exact e
        · exact absurd (by simpa using e) hi
      subst e
      have key : ∀ ws : List Nat, (wipe (σ.set i v) ws).set i none = (wipe σ ws).set i none := by
        intro ws
        induction ws with
        | nil => simp [wipe, List.set_set]
        | cons w ws ih =>
          unfold wipe
          by_cases e : w = i
          · subst e
            rw [List.set_set, List.set_set]
            exact ih
          · rw [List.set_comm _ _ e, ih, List.set_comm _ _ e]
      exact key vs
def tgE : Expr → Bool
  | .Starred _ _ => false
  | _ => true
theorem assignEach_cons {e : Expr} {es : List Expr} {env : Env} (h : tgE e = true) : assignEach (e :: es) env = (false, assign e env) :: assignEach es env := by
  cases e <;> first
    | rfl
    | (simp [tgE] at h)
section
variable {P : Pg} {k : Nat} {N : List Str} {sc : List (Str × NameKind)} {so : List Str} {X : Cx} {Z : Addr → Prop} {W : WX}
theorem chkT_tgE {t : Tg} {e : Expr} (h : chkT N so t e = true) : tgE e = true := by
  cases t <;> cases e <;> first
    | rfl
    | (simp [chkT] at h)
theorem chkTs_each {env : Env} : ∀ {ts : List Tg} {es : List Expr}, chkTs N so ts es = true → (assignEach es env).length = ts.length ∧ (assignEach es env).findIdx? (·.1) = none
  | [], [], _ => ⟨rfl, rfl⟩
  | [], _ :: _, h => by simp [chkTs] at h
  | _ :: _, [], h => by simp [chkTs] at h
  | t :: ts, e :: es, h => by
    have h2 : chkT N so t e = true ∧ chkTs N so ts es = true := by simpa [chkTs] using h
    obtain ⟨a, b⟩ := chkTs_each (env := env) h2.2
    rw [assignEach_cons (chkT_tgE h2.1)]
    refine ⟨by rw [List.length_cons, a, List.length_cons], ?_⟩
    rw [List.findIdx?_cons, b]
    rfl
mutual
theorem g_tg (g : Good P k N sc so X) : ∀ (t : Tg) {e : Expr}, chkT N so t e = true → PG X e (tG (cy P k X Z) t)
  | .n i, e, h => by
    cases e with
    | Name x pos =>
      have h2 : N[i]? = some x ∧ so.contains x = true := by simpa [chkT] using h
      obtain ⟨l, f⟩ := g.sto x h2.2
      refine PG.weak (pg_name (by rw [g.hN]; exact g.nd) (by rw [g.hN]; exact h2.1) l f) fun v σ H Q ⟨F, S, r, x, r', st, en, rx, e, q⟩ => ?_
      simp only [setT] at e
      cases e
      exact q _ (en.set rx) fun vs hv => wipe_set (by simpa [tgIn] using hv)
    | _ => simp [chkT] at h
  | .t ts, e, h => by
    cases e with
    | Tuple es j pos =>
      have h2 : chkTs N so ts es = true := by simpa [chkT] using h
      obtain ⟨a, b⟩ := chkTs_each (env := X.env) h2
      have hp := g_tgs g ts h2
      refine PG.weak (PG.or (pg_tup (pos := pos) (k := j) g.calm hp a b) (pg_unl (pos := pos) (k := j) g.calm hp a b)) fun v σ H Q ⟨F, S, r, x, r', st, en, rx, e, q⟩ => ?_
      simp only [setT] at e
      cases ei : items S x with
      | none => rw [ei] at e; cases e
      | some xs =>
        rw [ei] at e
        obtain ⟨p, us, rfl, rl, sq⟩ := items_R st rx ei
        have hl : us.length = ts.length := by
          rw [← rl.length]
          exact (setTs_len e).symm
        have fin : tGs (cy P k X Z) ts us σ H Q := ⟨F, S, r, xs, r', st, en, rl, e, fun σ' en' w => q σ' en' fun vs hv => w vs (by simpa [tgIn] using hv)⟩
        rcases sq with ⟨sq, _⟩ | ⟨sq, _⟩
        · exact .inr ⟨p, us, rfl, sq, hl, fin⟩
        · exact .inl ⟨p, us, rfl, sq, hl, fin⟩
    | _ => simp [chkT] at h
theorem g_tgs (g : Good P k N sc so X) : ∀ (ts : List Tg) {es : List Expr}, chkTs N so ts es = true → PGs X es (tGs (cy P k X Z) ts)
  | [], [], _ => PGs.weak pgs_nil fun vs σ H Q ⟨F, S, r, xs, r', st, en, rl, e, q⟩ => by
    cases xs with
    | nil =>
      simp only [setTs] at e
      cases e
      exact ⟨rl.nil_inv, q σ en fun _ _ => rfl⟩
    | cons x xs => simp [setTs] at e
  | [], _ :: _, h => by simp [chkTs] at h
  | _ :: _, [], h => by simp [chkTs] at h
  | t :: ts, e :: es, h => by
    have h2 : chkT N so t e = true ∧ chkTs N so ts es = true := by simpa [chkTs] using h
    refine PGs.weak (pgs_cons (g_tg g t h2.1) (g_tgs g ts h2.2) (by rw [assignEach_cons (chkT_tgE h2.1)]; rfl)) fun vs σ H Q ⟨F, S, r, xs, r', st, en, rl, e, q⟩ => ?_
    cases xs with
    | nil => simp [setTs] at e
    | cons x xs =>
      simp only [setTs] at e
      cases e1 : setT t x r S with
      | none => rw [e1] at e; cases e
      | some r1 =>
        rw [e1] at e
        obtain ⟨v, us, rfl, rx, rl2⟩ := rl.cons_inv
        refine ⟨v, us, rfl, F, S, r, x, r1, st, en, rx, e1, fun σ1 en1 w1 => ?_⟩
        refine ⟨F, S, r1, xs, r', st, en1, rl2, e, fun σ2 en2 w2 => q σ2 en2 fun vs hv => ?_⟩
        have h3 : tgIn vs t = true ∧ tgIns vs ts = true := by simpa [tgIns] using hv
        rw [w2 vs h3.2, w1 vs h3.1]
theorem setTs_len : ∀ {ts : List Tg} {xs : List Val} {r r' : Sl} {S : Store}, setTs ts xs r S = some r' → ts.length = xs.length
  | [], [], _, _, _, _ => rfl
  | [], _ :: _, _, _, _, e => by simp [setTs] at e
  | _ :: _, [], _, _, _, e => by simp [setTs] at e
  | t :: ts, x :: xs, r, r', S, e => by
    simp only [setTs] at e
    cases e1 : setT t x r S with
    | none => rw [e1] at e; cases e
    | some r1 =>
      rw [e1] at e
      rw [List.length_cons, List.length_cons, setTs_len e]
end
/-! ### new lists -/
theorem n_ofs (g : Good P k N sc so X) {a : Ex} {ea : Expr} {p pos : Pos} (ha : PE X ea (tE (cy P k X Z) W a)) (hn : notStar ea = true) (hg : gloB sc "list" = true) : PE X (.Call (.Name "list" p) [ea] [] pos) (tN (cy P k X Z) W (.ofs a)) := by
  refine PE.weak (pe_callTy call_list_of (g.glo hg).1 (g.blt _ (by decide)) boot_list (x_acons ha x_anil hn) (he := notStar_each hn)) fun σ H Q ⟨F, S, r, st, en, po⟩ => ?_
  simp only [evn] at po
  rw [evs1] at po
  refine ⟨F, S, r, st, en, (po.bind (RA := (cy P k X Z).RL)).mono fun vs H1 ⟨F1, xs, S1, k1, s1, r1, po1⟩ => ?_⟩
  split at po1
  · rename_i x
    obtain ⟨u, rfl, ru⟩ := RL.one r1
    cases e : items S1 x with
    | none => rw [e] at po1; exact po1.elim
    | some ys =>
      rw [e] at po1
      obtain ⟨q, us, rfl, rl, sq⟩ := items_R s1 ru e
      exact ⟨q, us, rfl, sq.imp (·.1) (·.1), fun l hl => po1.new s1 rl hl⟩
  · exact po1.elim
theorem n_cat {a b : Ex} {ea eb : Expr} {pos : Pos} (ha : PE X ea (tE (cy P k X Z) W a)) (hb : PE X eb (tE (cy P k X Z) W b)) : PE X (.BinOp ea .Add eb pos) (tN (cy P k X Z) W (.cat a b)) := by
  refine PE.weak (pe_op op_cat ha hb) fun σ H Q ⟨F, S, r, st, en, po⟩ => ?_
  simp only [evn] at po
  refine ⟨F, S, r, st, en, po.bind.mono fun x H1 ⟨F1, v, S1, k1, s1, r1, po1⟩ => ?_⟩
  refine ⟨F1, S1, r, s1, en.keep k1.toKp, po1.bind.mono fun z H2 ⟨F2, u, S2, k2, s2, r2, po2⟩ => ?_⟩
  cases e : lstOf S2 v with
  | none => rw [e] at po2; exact po2.elim
  | some xs =>
    rw [e] at po2
    dsimp only at po2
    cases e2 : lstOf S2 u with
    | none => rw [e2] at po2; exact po2.elim
    | some ys =>
      rw [e2] at po2
      dsimp only at po2
      split at po2
      · rename_i hl
        obtain ⟨p, us, rfl, hp, rl⟩ := lstOf_R s2 (R.keep k2.toKp r1) e
        obtain ⟨q, ws, rfl, hq, rl2⟩ := lstOf_R s2 r2 e2
        exact ⟨p, q, us, ws, rfl, rfl, hp, hq, by rw [← rl.length, ← rl2.length]; exact mx_line hl, fun n hn => po2.new s2 (rl.append rl2) hn⟩
      · exact po2.elim
theorem n_mul {a b : Ex} {ea eb : Expr} {pos : Pos} (ha : PE X ea (tE (cy P k X Z) W a)) (hb : PE X eb (tE (cy P k X Z) W b)) : PE X (.BinOp ea .Mult eb pos) (tN (cy P k X Z) W (.mul a b)) := by
  refine PE.weak (pe_op op_rep ha hb) fun σ H Q ⟨F, S, r, st, en, po⟩ => ?_
  simp only [evn] at po
  refine ⟨F, S, r, st, en, po.bind.mono fun x H1 ⟨F1, v, S1, k1, s1, r1, po1⟩ => ?_⟩
  refine ⟨F1, S1, r, s1, en.keep k1.toKp, po1.bind.mono fun z H2 ⟨F2, u, S2, k2, s2, r2, po2⟩ => ?_⟩
  cases u with
  | int j =>
    obtain rfl := R.of_int r2
    dsimp only at po2
    cases e : lstOf S2 v with
    | none => rw [e] at po2; exact po2.elim
    | some xs =>
      rw [e] at po2
      dsimp only at po2
      split at po2
      · rename_i hl
        obtain ⟨p, us, rfl, hp, rl⟩ := lstOf_R s2 (R.keep k2.toKp r1) e
        exact ⟨p, j, us, rfl, rfl, hp, hl.1, hl.2.1, by rw [← rl.length]; exact mx_line hl.2.2, fun n hn => po2.new s2 (rl.rep _) hn⟩
      · exact po2.elim
  | _ => exact po2.elim
theorem n_srt (g : Good P k N sc so X) {a : Ex} {ea : Expr} {p pos : Pos} (ha : PE X ea (tE (cy P k X Z) W a)) (hn : notStar ea = true) (hg : gloB sc "sorted" = true) : PE X (.Call (.Name "sorted" p) [ea] [] pos) (tN (cy P k X Z) W (.srt a)) := by
  refine PE.weak (pe_callB (cr_srt (y := cy P k X Z) g.room rfl) (g.glo hg).1 (g.blt _ (by decide)) boot_sorted (x_acons ha x_anil hn) (he := notStar_each hn)) fun σ H Q ⟨F, S, r, st, en, po⟩ => ?_
  simp only [evn] at po
  rw [evs1] at po
  refine ⟨F, S, r, st, en, (po.bind (RA := (cy P k X Z).RL)).mono fun vs H1 ⟨F1, xs, S1, k1, s1, r1, po1⟩ => ?_⟩
  split at po1
  · rename_i x
    obtain ⟨u, rfl, ru⟩ := RL.one r1
    cases e : items S1 x with
    | none => rw [e] at po1; exact po1.elim
    | some ys =>
      rw [e] at po1
      dsimp only at po1
      cases e2 : srtL ys with
      | none => rw [e2] at po1; exact po1.elim
      | some zs =>
        rw [e2] at po1
        obtain ⟨q, us, rfl, rl, sq⟩ := items_R s1 ru e
        exact ⟨F1, q, us, ys, zs, rfl, sq.imp (·.1) (·.1), rl, e2, fun ws p hw hf => po1.new s1 hw hf⟩
  · exact po1.elim
theorem lst_any_ints {F : Fs} {H : Hp} {S : Store} {v : Val} {x : V} {xs : List Val} {ns : List Int} (st : (cy P k X Z).St F S H) (r : (cy P k X Z).R F H v x) (e : items S v = some xs) (e2 : intsOf xs = some ns) : ∃ p, x = .ref p ∧ (SqL X.K H p (ns.map V.int) ∨ SqT X.K H p (ns.map V.int)) := by
  obtain ⟨p, us, rfl, rl, sq⟩ := items_R st r e
  rw [intsOf_map e2] at rl
  obtain rfl := rl.ints
  exact ⟨p, rfl, sq.elim (fun q => .inl q.1) fun q => .inr q.1⟩
/-- set(a) as an argument -/
theorem pe_set (g : Good P k N sc so X) {a : Ex} {ea : Expr} {p pos : Pos} (ha : PE X ea (tE (cy P k X Z) W a)) (hn : notStar ea = true) (hg : gloB sc "set" = true) : PE X (.Call (.Name "set" p) [ea] [] pos) (tCB (rSetI X.K X.w) (tAs (cy P k X Z) W (.cons a .nil))) :=
  pe_callTy (cr_setI g.calm) (g.glo hg).1 (g.blt _ (by decide)) boot_set (x_acons ha x_anil hn) (by decide) (by decide) (notStar_each hn) rfl
theorem n_sst (g : Good P k N sc so X) {a : Ex} {ea : Expr} {p pos p2 pos2 : Pos} (ha : PE X ea (tE (cy P k X Z) W a)) (hn : notStar ea = true) (hg : gloB sc "sorted" = true) (hg2 : gloB sc "set" = true) : PE X (.Call (.Name "sorted" p) [.Call (.Name "set" p2) [ea] [] pos2] [] pos) (tN (cy P k X Z) W (.sst a)) := by
  refine PE.weak (pe_callB (cr_sortedSet g.calm) (g.glo hg).1 (g.blt _ (by decide)) boot_sorted (pa_cons (pe_set g ha hn hg2) pa_nil)) fun σ H Q ⟨F, S, r, st, en, po⟩ => ?_
  simp only [evn] at po
  rw [evs1] at po
  refine ⟨F, S, r, st, en, (po.bind (RA := (cy P k X Z).RL)).mono fun vs H1 ⟨F1, xs, S1, k1, s1, r1, po1⟩ => ?_⟩
  split at po1
  · rename_i x
    obtain ⟨u, rfl, ru⟩ := RL.one r1
    cases e : items S1 x with
    | none => rw [e] at po1; exact po1.elim
    | some ys =>
      rw [e] at po1
      dsimp only at po1
      cases e2 : intsOf ys with
      | none => rw [e2] at po1; exact po1.elim
      | some ns =>
        rw [e2] at po1
        dsimp only at po1
        split at po1
        · rename_i hl
          obtain ⟨q, rfl, sq⟩ := lst_any_ints s1 ru e e2
          refine ⟨q, ns, rfl, sq, hl.2, fun p hp => ⟨p, _, _, rfl, upd_same, hl.1, fun ms q hs hm _ hf => ?_⟩⟩
          have em : ms = usort ns := lt_ext hs (usort_sorted ns) fun z => by rw [hm z, usort_mem, decide_eq_true_eq]
          subst em
          exact (PostN.keep (Keep.new s1 hp) po1).new (s1.new hp) (RL.of_ints _) hf
        · exact po1.elim
  · exact po1.elim
theorem x_lens (g : Good P k N sc so X) {a : Ex} {ea : Expr} {p pos p2 pos2 : Pos} (ha : PE X ea (tE (cy P k X Z) W a)) (hn : notStar ea = true) (hg : gloB sc "len" = true) (hg2 : gloB sc "set" = true) : PE X (.Call (.Name "len" p) [.Call (.Name "set" p2) [ea] [] pos2] [] pos) (tE (cy P k X Z) W (.lens a)) := by
  refine PE.weak (pe_callB cr_lenSet (g.glo hg).1 (g.blt _ (by decide)) boot_len (pa_cons (pe_set g ha hn hg2) pa_nil)) fun σ H Q ⟨F, S, r, st, en, po⟩ => ?_
  simp only [ev] at po
  rw [evs1] at po
  refine ⟨F, S, r, st, en, (po.bind (RA := (cy P k X Z).RL)).mono fun vs H1 ⟨F1, xs, S1, k1, s1, r1, po1⟩ => ?_⟩
  split at po1
  · rename_i x
    obtain ⟨u, rfl, ru⟩ := RL.one r1
    cases e : items S1 x with
    | none => rw [e] at po1; exact po1.bad.elim
    | some ys =>
      rw [e] at po1
      dsimp only at po1
      cases e2 : intsOf ys with
      | none => rw [e2] at po1; exact po1.bad.elim
      | some ns =>
        rw [e2] at po1
        dsimp only at po1
        split at po1
        · rename_i hl
          obtain ⟨q, rfl, sq⟩ := lst_any_ints s1 ru e e2
          refine ⟨q, ns, rfl, sq, hl, fun p hp => ⟨p, _, _, rfl, upd_same, ?_⟩⟩
          exact (Post.keep (Keep.new s1 hp) po1).int (s1.new hp)
        · exact po1.bad.elim
  · exact po1.bad.elim
theorem n_srtr (g : Good P k N sc so X) {a : Ex} {ea : Expr} {j : Nat} {p pos kp kq : Pos} (ha : PE X ea (tE (cy P k X Z) W a)) (hn : notStar ea = true) (hg : gloB sc "sorted" = true) : PE X (.Call (.Name "sorted" p) [ea] [⟨some (Str.ofString "reverse"), .Constant (.bool true) j kq, kp⟩] pos) (tN (cy P k X Z) W (.srtr a)) := by
  refine PE.weak (pe_callBK (cr_sortedRev (b := true)) (g.glo hg).1 (g.blt _ (by decide)) boot_sorted (x_acons ha x_anil hn) (pk_cons pe_bl pk_nil) (he := by rw [notStar_each hn]; rfl) (hpl := by rw [notStar_each hn]; rfl)) fun σ H Q ⟨F, S, r, st, en, po⟩ => ?_
  simp only [evn] at po
  rw [evs1] at po
  refine ⟨F, S, r, st, en, (po.bind (RA := (cy P k X Z).RL)).mono fun vs H1 ⟨F1, xs, S1, k1, s1, r1, po1⟩ => ?_⟩
  split at po1
  · rename_i x
    obtain ⟨u, rfl, ru⟩ := RL.one r1
    cases e : lstOf S1 x with
    | none => rw [e] at po1; exact po1.elim
    | some ys =>
      rw [e] at po1
      dsimp only at po1
      cases e2 : intsOf ys with
      | none => rw [e2] at po1; exact po1.elim
      | some ns =>
        rw [e2] at po1
        obtain ⟨q, rfl, sq⟩ := lst_ints (y := cy P k X Z) (X := X) rfl s1 ru e e2
        refine ⟨q, ns, rfl, rfl, sq, fun ms p hp hs hf => ?_⟩
        have em : ms = (isort ns).reverse := List.Perm.eq_of_pairwise (le := (· ≥ ·)) (fun a b _ _ h1 h2 => Int.le_antisymm h2 h1) hs (List.pairwise_reverse.mpr ((isort_sorted ns).imp fun h => h)) (hp.trans ((List.reverse_perm _).trans (isort_perm ns)).symm)
        rw [em]
        exact po1.new s1 (RL.of_ints _) hf
  · exact po1.elim
def rMinD (y : Cy) : List V → Hp → VK → Prop := fun xs H Q => ∃ F S v, y.St F S H ∧ y.RL F H [v] xs ∧ Post y F H (match items S v with
    | some xs => (match intsOf xs with
      | some [] => .ok .non S
      | some (n :: ns) => .ok (.int (minI (n :: ns))) S
      | none => .bad)
    | none => .bad) y.R WT Q
theorem x_minD (g : Good P k N sc so X) {a : Ex} {ea : Expr} {j : Nat} {p pos kp kq : Pos} (ha : PE X ea (tE (cy P k X Z) W a)) (hn : notStar ea = true) (hg : gloB sc "min" = true) : PE X (.Call (.Name "min" p) [ea] [⟨some (Str.ofString "default"), .Constant .none j kq, kp⟩] pos) (tE (cy P k X Z) W (.minD a)) := by
  refine PE.weak (pe_callBK (cr_minDef (y := cy P k X Z) rfl g.calm g.room.units (rr := rMinD (cy P k X Z)) fun _ _ _ h => h) (g.glo hg).1 (g.blt _ (by decide)) boot_min (x_acons ha x_anil hn) (pk_cons pe_non pk_nil) (he := by rw [notStar_each hn]; rfl) (hpl := by rw [notStar_each hn]; rfl)) fun σ H Q ⟨F, S, r, st, en, po⟩ => ?_
  simp only [ev] at po
  rw [evs1] at po
  refine ⟨F, S, r, st, en, (po.bind (RA := (cy P k X Z).RL)).mono fun vs H1 ⟨F1, xs, S1, k1, s1, r1, po1⟩ => ?_⟩
  split at po1
  · rename_i x
    exact ⟨rfl, F1, S1, x, s1, r1, po1.wish fun _ _ _ _ => trivial⟩
  · exact po1.bad.elim
theorem RL.reverse {K : PySem.W.Frag} {F : Fs} {H : Hp} : ∀ {xs : List Val} {us : List V}, RL K Z F H xs us → RL K Z F H xs.reverse us.reverse
  | [], _, h => by rw [h.nil_inv]; exact RL.nil
  | x :: xs, _, h => by
    obtain ⟨v, r, e, h1, h2⟩ := h.cons_inv
    subst e
    rw [List.reverse_cons, List.reverse_cons]
    exact (RL.reverse h2).append (.cons h1 RL.nil)
theorem n_rev {a : Ex} {ea : Expr} {j : Nat} {p1 p2 p3 pos : Pos} (ha : PE X ea (tE (cy P k X Z) W a)) : PE X (.Subscript ea (.Slice none none (some (.UnaryOp .USub (.Constant (.int 1) j p1) p2)) p3) pos) (tN (cy P k X Z) W (.rev a)) := by
  refine PE.weak (pe_revL ha) fun σ H Q ⟨F, S, r, st, en, po⟩ => ?_
  simp only [evn] at po
  refine ⟨F, S, r, st, en, po.bind.mono fun x H1 ⟨F1, v, S1, k1, s1, r1, po1⟩ => ?_⟩
  have seq : (∀ zs, v ≠ .tup zs) → PostN (cy P k X Z) F1 H1 (match items S1 v with
      | some xs => .ok xs.reverse S1
      | none => .bad) (fun c d H' => W c d σ H') Q → ∃ a xs, x = .ref a ∧ SqL X.K H1 a xs ∧ ∀ p, H1 p = none → Q (.ref p) (upd H1 p (.lst xs.reverse)) := by
    intro nt po1
    cases e : items S1 v with
    | none => rw [e] at po1; exact po1.elim
    | some ys =>
      rw [e] at po1
      obtain ⟨q, us, rfl, rl, sq⟩ := items_R s1 r1 e
      rcases sq with ⟨sq, _⟩ | ⟨_, h⟩
      · exact ⟨q, us, rfl, sq, fun p hp => po1.new s1 rl.reverse hp⟩
      · exact absurd h (nt _)
  cases v with
  | tup zs => exact po1.elim
  | _ => exact seq (fun _ z => by cases z) po1
theorem rg_rl {K : PySem.W.Frag} {F : Fs} {H : Hp} (a b : Int) : RL K Z F H ((List.range (b - a).toNat).map fun (i : Nat) => Val.int (a + (i : Int))) (rgV a b) := by
  have e1 : ((List.range (b - a).toNat).map fun (i : Nat) => Val.int (a + (i : Int))) = ((List.range (b - a).toNat).map fun (i : Nat) => a + (i : Int)).map Val.int := by rw [List.map_map]; rfl
  have e2 : rgV a b = ((List.range (b - a).toNat).map fun (i : Nat) => a + (i : Int)).map V.int := by unfold rgV; rw [List.map_map]; rfl
  rw [e1, e2]
  exact RL.of_ints _
/-- range(..) as an argument -/
def tR (y : Cy) (W : WX) (it : DI.It) : L2.St → Hp → (Int → Int → Hp → Prop) → Prop := fun σ H G => ∃ F S r, y.St F S H ∧ y.En F H r σ ∧ Post y F H (evi y.P y.C it r S) (fun _ _ xs (p : Int × Int) => RgOk p.1 p.2 ∧ xs = (List.range (p.2 - p.1).toNat).map fun (i : Nat) => Val.int (p.1 + (i : Int))) (fun c d H' => W c d σ H') fun p => G p.1 p.2
theorem PRg.weak {X : Cx} {e : Expr} {t t' : L2.St → Hp → (Int → Int → Hp → Prop) → Prop} (h : PRg X e t) (w : ∀ σ H Q, t' σ H Q → t σ H Q) : PRg X e t' := fun pins s σ H Q I q => h pins s σ H Q I (w σ H Q q)
theorem r_1 (g : Good P k N sc so X) {a : Ex} {ea : Expr} {p pos : Pos} (ha : PE X ea (tE (cy P k X Z) W a)) (hn : notStar ea = true) (hg : gloB sc "range" = true) : PRg X (.Call (.Name "range" p) [ea] [] pos) (tR (cy P k X Z) W (.r1 a)) := by
  refine PRg.weak (prg_1 (g.glo hg).1 (g.blt _ (by decide)) ha (notStar_each hn)) fun σ H G ⟨F, S, r, st, en, po⟩ => ?_
  simp only [evi] at po
  refine ⟨F, S, r, st, en, po.bind.mono fun x H1 ⟨F1, v, S1, k1, s1, r1, po1⟩ => ?_⟩
  split at po1
  · rename_i j
    obtain rfl := R.of_int r1
    unfold rngIts at po1
    split at po1
    · rename_i h
      exact ⟨j, rfl, po1.ok (b := ((0 : Int), j)) s1 ⟨⟨h.1, h.2.1, h.2.2.1, h.2.2.2.1, h.2.2.2.2⟩, rfl⟩⟩
    · exact po1.bad.elim
  · exact po1.bad.elim
theorem r_2 (g : Good P k N sc so X) {a b : Ex} {ea eb : Expr} {p pos : Pos} (ha : PE X ea (tE (cy P k X Z) W a)) (hb : PE X eb (tE (cy P k X Z) W b)) (hn : notStar ea = true) (hn2 : notStar eb = true) (hg : gloB sc "range" = true) :
    PRg X (.Call (.Name "range" p) [ea, eb] [] pos) (tR (cy P k X Z) W (.r2 a b)) := by
  refine PRg.weak (prg_2 (g.glo hg).1 (g.blt _ (by decide)) ha hb (notStar_each hn) (notStar_each hn2) (allPlain_any (by simp [allPlain, hn2]))) fun σ H G ⟨F, S, r, st, en, po⟩ => ?_
  simp only [evi] at po
  refine ⟨F, S, r, st, en, po.bind.mono fun x H1 ⟨F1, v, S1, k1, s1, r1, po1⟩ => ?_⟩
  refine ⟨F1, S1, r, s1, en.keep k1.toKp, po1.bind.mono fun z H2 ⟨F2, u, S2, k2, s2, r2, po2⟩ => ?_⟩
  cases v with
  | int i =>
    obtain rfl := R.of_int r1
    cases u with
    | int j =>
      obtain rfl := R.of_int r2
      simp only [rngIts] at po2
      split at po2
      · rename_i h
        exact ⟨i, j, rfl, rfl, po2.ok (b := (i, j)) s2 ⟨⟨h.1, h.2.1, h.2.2.1, h.2.2.2.1, h.2.2.2.2⟩, rfl⟩⟩
      · exact po2.bad.elim
    | _ => exact po2.bad.elim
  | _ => exact po2.bad.elim
theorem n_rng (g : Good P k N sc so X) {it : DI.It} {ea : Expr} {p pos : Pos} (ha : PRg X ea (tR (cy P k X Z) W it)) (hn : notStar ea = true) (hg : gloB sc "list" = true) : PE X (.Call (.Name "list" p) [ea] [] pos) (tN (cy P k X Z) W (.rng it)) := by
  refine PE.weak (pe_listRg g.calm (g.glo hg).1 (g.blt _ (by decide)) ha (notStar_each hn)) fun σ H Q ⟨F, S, r, st, en, po⟩ => ?_
  simp only [evn] at po
  refine ⟨F, S, r, st, en, ?_⟩
  show Post _ _ _ (evi P (run P k) it r S) _ _ _
  have po : PostN (cy P k X Z) F H (evi P (run P k) it r S) (fun c d H' => W c d σ H') Q := po
  cases q : evi P (run P k) it r S with
  | bad => rw [q] at po; exact po
  | exn x S' => rw [q] at po; exact po
  | ok xs S' =>
    rw [q] at po
    rintro F1 H1 ⟨a, b⟩ k1 s1 ⟨ro, e⟩
    subst e
    refine ⟨ro, fun p hp => ?_⟩
    exact PostN.new (PostN.keep k1 po) s1 (rg_rl a b) hp
theorem range_nonneg (a b c : Int) (h : c ≠ 0) : 0 ≤ PySem.Builtin.Range.rangeSize a b c := by
  unfold PySem.Builtin.Range.rangeSize
  split
  · split
    · have := Int.ediv_nonneg (a := b - a - 1) (b := c) (by omega) (by omega)
      omega
    · omega
  · split
    · have := Int.ediv_nonneg (a := a - b - 1) (b := -c) (by omega) (by omega)
      omega
    · omega
theorem numsUp_rl {K : PySem.W.Frag} {F : Fs} {H : Hp} (a c : Int) (n : Nat) : RL K Z F H (numsUp a n c) (rgC a c n) := by
  have e1 : numsUp a n c = ((List.range n).map fun (i : Nat) => a + (i : Int) * c).map Val.int := by unfold numsUp; rw [List.map_map]; rfl
  have e2 : rgC a c n = ((List.range n).map fun (i : Nat) => a + (i : Int) * c).map V.int := by unfold rgC; rw [List.map_map]; rfl
  rw [e1, e2]
  exact RL.of_ints _
theorem x_tupR3 (g : Good P k N sc so X) {a b c : Ex} {ea eb ec : Expr} {p pos p2 pos2 : Pos} (ha : PE X ea (tE (cy P k X Z) W a)) (hb : PE X eb (tE (cy P k X Z) W b)) (hc : PE X ec (tE (cy P k X Z) W c)) (hn : notStar ea = true) (hn2 : notStar eb = true) (hn3 : notStar ec = true) (hg : gloB sc "tuple" = true) (hg2 : gloB sc "range" = true) :
    PE X (.Call (.Name "tuple" p) [.Call (.Name "range" p2) [ea, eb, ec] [] pos2] [] pos) (tE (cy P k X Z) W (.tupR (.r3 a b c))) := by
  have hr := pe_callTy (p := p2) (pos := pos2) cr_range3 (g.glo hg2).1 (g.blt _ (by decide)) boot_range (x_acons ha (x_acons hb (x_acons hc x_anil hn3) hn2) hn) (by decide) (by decide) (notStar_each hn) (by rw [notStar_each hn2, notStar_each hn3]; rfl)
  refine PE.weak (pe_callTy (cr_tupR3 g.calm) (g.glo hg).1 (g.blt _ (by decide)) boot_tuple (pa_cons hr pa_nil)) fun σ H Q ⟨F, S, r, st, en, po⟩ => ?_
  simp only [ev, evi] at po
  rw [evs3, Out.bind_assoc] at po
  refine ⟨F, S, r, st, en, (po.bind (RA := (cy P k X Z).RL)).mono fun vs H1 ⟨F1, xs, S1, k1, s1, r1, po1⟩ => ?_⟩
  split at po1
  · rename_i x z w
    obtain ⟨u1, u2, u3, rfl, ra, rb, rc⟩ := RL.three r1
    cases x with
    | int i =>
      cases z with
      | int j =>
        cases w with
        | int l =>
          obtain rfl := ra.of_int
          obtain rfl := rb.of_int
          obtain rfl := rc.of_int
          dsimp only at po1
          unfold rngIts3 at po1
          split at po1
          · rename_i hl
            rw [Out.bind_ok] at po1
            refine ⟨i, j, l, rfl, hl.1, hl.2.1, fun q hq => ⟨q, i, j, l, rngN i j l, rfl, upd_same, hl.2.2.1, ?_, hl.2.2.2, fun q2 hq2 => ?_⟩⟩
            · unfold rngN
              exact (Int.toNat_of_nonneg (range_nonneg i j l hl.1)).symm
            · exact (Post.keep (Keep.new s1 hq) po1).newT (s1.new hq) (numsUp_rl i l _) hq2
          · exact po1.bad.elim
        | _ => exact po1.bad.elim
      | _ => exact po1.bad.elim
    | _ => exact po1.bad.elim
  · exact po1.bad.elim
theorem x_tupR (g : Good P k N sc so X) {it : DI.It} {ea : Expr} {p pos : Pos} (ha : PRg X ea (tR (cy P k X Z) W it)) (hn : notStar ea = true) (hg : gloB sc "tuple" = true) : PE X (.Call (.Name "tuple" p) [ea] [] pos) (tE (cy P k X Z) W (.tupR it)) := by
  refine PE.weak (pe_tupRg g.calm (g.glo hg).1 (g.blt _ (by decide)) ha (notStar_each hn)) fun σ H Q ⟨F, S, r, st, en, po⟩ => ?_
  simp only [ev] at po
  refine ⟨F, S, r, st, en, po.bind.mono fun pr H1 ⟨F1, xs, S1, k1, s1, r1, po1⟩ => ?_⟩
  obtain ⟨a, b⟩ := pr
  obtain ⟨ro, e⟩ := r1
  subst e
  exact ⟨ro, fun p hp => po1.newT s1 (rg_rl a b) hp⟩
end
end DI
/-! DI9r: a tuple told backwards, t[::-1]. -/
namespace HT
open PySem PySem.Spec PyProof.Rows
section
variable {prog : Program} {w : World} {A : Around} {E : Value → Shared → Prop} {s : Shared}
theorem back_adjust (n : Nat) : Builtin.Slice.sliceAdjust none none (-1) (n : Int) = ((n : Int) - 1, -1) := by
  unfold Builtin.Slice.sliceAdjust
  simp
theorem back_places (n : Nat) : Builtin.Slice.slicePlaces ((n : Int) - 1) (-1) (-1) = n := by
  unfold Builtin.Slice.slicePlaces
  have h1 : ¬ ((-1 : Int) > 0) := by omega
  simp only [h1, if_false]
  split
  · rw [show (- -1 : Int) = 1 by decide, Int.ediv_one]
    omega
  · omega
theorem back_applied {sl : Addr} {vl vu vs : Value} {n : Nat} {Q : Int × Int × Nat → Shared → Prop} (hs : s.heap.IsSliceOf sl vl vu vs) (pl : IsPart vl none) (pu : IsPart vu none) (ps : IsPart vs (some (-1)))
    (h : Q ((n : Int) - 1, -1, n) s) : wpAny (model prog w) A (Builtin.Slice.sliceApplied (.ref sl) (pure (n : Int))) Q E s := by
  obtain ⟨os, hos, hcs, hds⟩ := id hs
  unfold Builtin.Slice.sliceApplied Builtin.Slice.sliceFields
  refine wpAny_bind (wpAny_bind (wpAny_field hos hds (x := vl) rfl (wpAny_bind (wpAny_field hos hds (x := vu) rfl (wpAny_bind (wpAny_field hos hds (x := vs) rfl (wpAny_pure ?_)))))))
  refine wpAny_bind (slicePart_ ps ?_)
  show wpAny _ _ (if ((-1 : Int) == 0) = true then _ else _) _ _ s
  rw [if_neg (by decide)]
  refine wpAny_bind (slicePart_ pl (wpAny_bind (slicePart_ pu (wpAny_bind (wpAny_pure ?_)))))
  show wpAny _ _ (match Builtin.Slice.sliceAdjust none none (-1) (n : Int) with | (lo, hi) => pure (lo, (-1 : Int), Builtin.Slice.slicePlaces lo hi (-1))) _ _ s
  rw [back_adjust n]
  show wpAny _ _ (pure ((n : Int) - 1, (-1 : Int), Builtin.Slice.slicePlaces ((n : Int) - 1) (-1) (-1))) _ _ s
  rw [back_places]
  exact wpAny_pure h
theorem back_pick (xs : Array Value) : ((List.range xs.size).filterMap fun (m : Nat) => xs[(((xs.size : Int) - 1) + (m : Int) * (-1)).toNat]?).toArray = xs.toList.reverse.toArray := by
  have e1 : (List.range xs.size).filterMap (fun (m : Nat) => xs[(((xs.size : Int) - 1) + (m : Int) * (-1)).toNat]?) = ((List.range xs.size).map fun k => xs.size - 1 - k).filterMap (xs[·]?) := by
    rw [List.filterMap_map]
    have key : ∀ l : List Nat, (∀ m ∈ l, m < xs.size) → l.filterMap (fun (m : Nat) => xs[(((xs.size : Int) - 1) + (m : Int) * (-1)).toNat]?) = l.filterMap ((xs[·]?) ∘ fun k => xs.size - 1 - k) := by
      intro l
      induction l with
      | nil => exact fun _ => rfl
      | cons m l ih =>
        intro h
        have hm := h m (by simp)
        have e : (((xs.size : Int) - 1) + (m : Int) * (-1)).toNat = xs.size - 1 - m := by omega
        rw [List.filterMap_cons, List.filterMap_cons, ih fun y hy => h y (by simp [hy]), e]
        rfl
    exact key _ fun m hm => List.mem_range.mp hm
  rw [e1, PySem.W.krv_range, List.filterMap_reverse, PySem.W.krv_all]
theorem getItem_tuple_back {t sl : Addr} {items : Array Value} {vl vu vs : Value} {Q : Value → Shared → Prop} (ht : IsTup s.heap t items) (hs : s.heap.IsSliceOf sl vl vu vs) (pl : IsPart vl none) (pu : IsPart vu none) (ps : IsPart vs (some (-1)))
    (h : Q (.ref s.heap.objs.size) { s with heap := s.heap.push { cls := .type "tuple", data := .seq items.toList.reverse.toArray } })
    (hsz : items.size ≤ sizeLine) : wpAny (model prog w) A (getItem (.ref t) (.ref sl)) Q E s := by
  have htake : sizeOk (.seq items.toList.reverse.toArray) := by
    show items.toList.reverse.toArray.size ≤ sizeLine
    rw [List.size_toArray, List.length_reverse, Array.length_toList]
    exact hsz
  obtain ⟨os, hos, hcs, hds⟩ := id hs
  have hTs : s.TypeIs (.ref sl) "slice" := ⟨os, hos, hcs⟩
  unfold getItem
  try with_reducible refine wpAny_holding ?_
  first | refine wpAny_bind (wpAny_pure ?_) | skip
  refine wpAny_bind (wpAny_sequenceKey ht.typeIs (by decide) ?_)
  refine wpAny_bind (wpAny_callSpecial?_slot (name := Str.ofString "__getitem__") ht.typeIs PyProof.Rows.slot_tuple_getitem
    (wpAny_call_entry PyProof.Rows.slot_tuple_getitem ht.typeIs entry_tuple_getitem ?_ (args_tuple_getitem _ _)))
  show wpAny _ _ (Builtin.Tuple.tupleItemsOf (.ref t) >>= _) _ _ s
  refine wpAny_bind (tupleItemsOf_ ht ?_)
  refine wpAny_bind (wpAny_typeOf hTs ?_)
  rw [if_pos (by decide)]
  refine wpAny_bind (back_applied hs pl pu ps ?_)
  have hno : ¬ ((((items.size : Int) - 1) == 0 && (-1 : Int) == 1 && items.size == items.size) = true) := by
    intro q
    rw [Bool.and_eq_true, Bool.and_eq_true] at q
    exact absurd q.1.2 (by decide)
  show wpAny _ _ (if (((items.size : Int) - 1) == 0 && (-1 : Int) == 1 && items.size == items.size) = true then _ else _) _ _ s
  rw [if_neg hno, back_pick]
  first
    | exact wpAny_bind (m := Builtin.Tuple.tupleExact _) (wpAny_newObj_type (wpAny_pure ⟨_, rfl, wpAny_pure h⟩) htake)
    | exact wpAny_bind (m := Builtin.Tuple.tupleExact _) (wpAny_newObj_type (wpAny_bind (wpAny_pure (wpAny_pure ⟨_, rfl, wpAny_pure h⟩))) htake)
    | exact wpAny_bind (wpAny_bind (m := Builtin.Tuple.tupleExact _) (wpAny_newObj_type (wpAny_pure (wpAny_pure ⟨_, rfl, wpAny_pure h⟩)) htake))
    | exact wpAny_bind (wpAny_bind (m := Builtin.Tuple.tupleExact _) (wpAny_newObj_type (wpAny_pure ⟨_, rfl, wpAny_pure h⟩) htake))
end
end HT
namespace L2
open PySem PySem.Spec PyProof.Rows
section
variable {X : Cx}
def tRevA (K : PySem.W.Frag) (te : TE) : TE := fun σ H Q => te σ H fun x H1 => ∃ a xs, x = .ref a ∧ ((SqL K H1 a xs ∧ ∀ p, H1 p = none → Q (.ref p) (upd H1 p (.lst xs.reverse))) ∨ (SqT K H1 a xs ∧ ∀ p, H1 p = none → Q (.ref p) (upd H1 p (.tup xs.reverse))))
/-- e[::-1] of a list or of a tuple -/
theorem pe_revA {e : Expr} {te : TE} {k : Nat} {p1 p2 p3 pos : Pos} (he : PE X e te) : PE X (.Subscript e (.Slice none none (some (.UnaryOp .USub (.Constant (.int 1) k p1) p2)) p3) pos) (tRevA X.K te) := by
  refine ⟨fun pins s σ H Q I h => ?_⟩
  refine Subscript_ (thn (he.run pins s σ H _ I h) fun v s1 ⟨x, H1, I1, r1, q1⟩ => ?_)
  obtain ⟨a, xs, ex, q⟩ := q1
  subst ex
  cases r1
  have hst : PO X (some (.UnaryOp .USub (.Constant (.int 1) k p1) p2)) (tPart (tUn (rU fun i => .int (-i)) (tC (.int 1)))) := po_some (pe_un un_neg pe_int)
  refine wpAny_Slice (thn (po_none.run pins s1 σ H1 (fun o H2 => o = none ∧ H2 = H1) I1 ⟨rfl, rfl⟩) fun vl s2 ⟨l, H2, I2, pl, el, e2⟩ => ?_)
  subst el e2
  refine thn (po_none.run pins s2 σ H2 (fun o H3 => o = none ∧ H3 = H2) I2 ⟨rfl, rfl⟩) fun vu s3 ⟨u, H3, I3, pu, eu, e3⟩ => ?_
  subst eu e3
  refine thn (hst.run pins s3 σ H3 (fun o H4 => o = some (-1) ∧ H4 = H3) I3 ⟨1, rfl, -1, rfl, rfl, rfl⟩) fun vs s4 ⟨o, H4, I4, ps, eo, e4⟩ => ?_
  subst eo e4
  have I5 : Inv X pins σ H4 { s4 with heap := s4.heap.push { cls := .type "slice", data := .fields #[vl, vu, vs] } } := I4.kept (t' := s4.toks) fun b ob q => Heap.get?_push_of_some _ q
  show wpAny (model X.prog X.w) X.A (subscriptTail e (.Slice none none (some (.UnaryOp .USub (.Constant (.int 1) k p1) p2)) p3) (.ref a) (.ref s4.heap.objs.size)) (EP X pins σ Q) X.xe { s4 with heap := s4.heap.push { cls := .type "slice", data := .fields #[vl, vu, vs] } }
  rcases q with ⟨hx, q⟩ | ⟨hx, q⟩
  · obtain ⟨its, r, ht, hz⟩ := I5.list hx
    have hlen := r.length
    refine tail_any (ops := [.ref a, .ref s4.heap.objs.size]) ht.isList.typeIs (PySem.slot_list_getitem.lookup) ?_ (by with_unfolding_all rfl)
    refine wpAny_getItem_list_slice ht.isList (Heap.IsSliceOf.new _ vl vu vs) pl pu ps (by decide) ?_ (by rw [List.size_toArray]; omega)
    rw [PySem.W.krv_pick]
    refine ⟨.ref _, _, I5.laid (t' := s4.toks) (o := .lst xs.reverse) (fun b ob q => Heap.get?_push_of_some _ q) (Nat.le_refl _) ?_, rfl, q _ (I5.hok.fresh (Nat.le_refl _))⟩
    exact ⟨by rw [List.length_reverse]; exact hz, _, 0, r.reverse, Heap.get?_push_size _ rfl⟩
  · obtain ⟨its, r, ht, hz⟩ := I5.tuple hx
    have hlen := r.length
    refine tail_any (ops := [.ref a, .ref s4.heap.objs.size]) ht.typeIs (PyProof.Rows.slot_tuple_getitem.lookup) ?_ (by with_unfolding_all rfl)
    refine HT.getItem_tuple_back ht (Heap.IsSliceOf.new _ vl vu vs) pl pu ps ?_ (by rw [List.size_toArray]; omega)
    refine ⟨.ref _, _, I5.laid (t' := s4.toks) (o := .tup xs.reverse) (fun b ob q => Heap.get?_push_of_some _ q) (Nat.le_refl _) ?_, rfl, q _ (I5.hok.fresh (Nat.le_refl _))⟩
    exact ⟨by rw [List.length_reverse]; exact hz, _, r.reverse, IsTup.new _ _⟩
end
end L2
namespace DI
open PySem PySem.Spec PyProof.Rows L2 RZ
section
variable {P : Pg} {k : Nat} {N : List Str} {sc : List (Str × NameKind)} {so : List Str} {X : Cx} {Z : Addr → Prop} {W : WX}
theorem x_bk {a : Ex} {ea : Expr} {j : Nat} {p1 p2 p3 pos : Pos} (ha : PE X ea (tE (cy P k X Z) W a)) : PE X (.Subscript ea (.Slice none none (some (.UnaryOp .USub (.Constant (.int 1) j p1) p2)) p3) pos) (tE (cy P k X Z) W (.bk a)) := by
  refine PE.weak (pe_revA ha) fun σ H Q ⟨F, S, r, st, en, po⟩ => ?_
  simp only [ev] at po
  refine ⟨F, S, r, st, en, po.bind.mono fun x H1 ⟨F1, v, S1, k1, s1, r1, po1⟩ => ?_⟩
  cases v with
  | tup zs =>
    obtain ⟨q, us, rfl, hq, rl⟩ := R.of_tup r1
    exact ⟨q, us, rfl, .inr ⟨hq.sq, fun p hp => po1.newT s1 rl.reverse hp⟩⟩
  | lst zs =>
    obtain ⟨q, us, rfl, hq, _, rl⟩ := R.of_lst r1
    exact ⟨q, us, rfl, .inl ⟨.of hq, fun p hp => po1.newL s1 rl.reverse hp⟩⟩
  | _ => exact po1.bad.elim
end
end DI
/-! DI10: comprehensions. -/
namespace DI
open PySem PySem.Spec PyProof.Rows L2 RZ
abbrev WF : WX := fun _ _ _ _ => False
/-! ### the block's names -/
def relN (names sc : List (Str × NameKind)) : List (Str × NameKind) := names.map fun p => if (p.2 == .free && sc.lookup p.1 == some .cell) = true then (p.1, .cell) else p
def soOf (names : List (Str × NameKind)) : List Str := (names.filter fun p => names.lookup p.1 == some .local || names.lookup p.1 == some .cell).map (·.1)
def blkB (N : List Str) (sc : List (Str × NameKind)) (scope : Scope) (own : List (Str × Nat)) : Bool :=
  (scope.kind == .function) && ((scope.names.all fun z => scope.names.lookup z.1 == some z.2) && ((own.all fun p => N[p.2]? == some p.1) &&
    ((scope.names.all fun z => !(z.2 == .free) || (sc.lookup z.1 == some .cell || sc.lookup z.1 == some .free)) && scope.names.all fun z => !(z.2 == .local || z.2 == .cell) || ((own.map (·.1)).contains z.1 || !(N.contains z.1)))))
theorem soOf_spec {names : List (Str × NameKind)} {x : Str} (h : (soOf names).contains x = true) : names.lookup x = some .local ∨ names.lookup x = some .cell := by
  have h2 : x ∈ soOf names := by simpa using h
  obtain ⟨p, hp, rfl⟩ := List.mem_map.mp h2
  have h3 := (List.mem_filter.mp hp).2
  simpa using h3
theorem relN_eq {scope : Scope} {env : Env} (h : env.scope.kind = .function) : (relabel scope env).names = relN scope.names env.scope.names := by
  unfold relabel relN
  simp only [h]
  refine List.map_congr_left fun p _ => ?_
  obtain ⟨n, q⟩ := p
  simp [Env.kindOf]
theorem relN_look {sc : List (Str × NameKind)} {x : Str} {q : NameKind} (hq : q ≠ .free) : ∀ {names : List (Str × NameKind)}, names.lookup x = some q → (relN names sc).lookup x = some q
  | [], h => by simp at h
  | (n, j) :: r, h => by
    rw [List.lookup_cons] at h
    unfold relN
    rw [List.map_cons]
    cases hb : x == n with
    | true =>
      rw [hb] at h
      have e : j = q := by simpa using h
      subst e
      have hf : (j == NameKind.free) = false := by simpa using hq
      simp [hf, List.lookup_cons, hb]
    | false =>
      rw [hb] at h
      have ih := relN_look (sc := sc) hq (names := r) h
      unfold relN at ih
      split <;> (rw [List.lookup_cons]; simp only [hb]; exact ih)
section
variable {P : Pg} {k : Nat} {N : List Str} {sc : List (Str × NameKind)} {so : List Str} {X : Cx} {Z : Addr → Prop} {W : WX}
theorem blk_ok (g : Good P k N sc so X) {scope : Scope} {own : List (Str × Nat)} (h : blkB N sc scope own = true) : BlkOk X.N X.env.scope scope own := by
  unfold blkB at h
  simp only [Bool.and_eq_true, List.all_eq_true] at h
  obtain ⟨h1, h2, h3, h4, h5⟩ := h
  refine ⟨by simpa using h1, fun z hz => by simpa using h2 z hz, fun p hp => by rw [g.hN]; simpa using h3 p hp, fun z hz e => ?_, fun z hz e => ?_⟩
  · have := h4 z hz
    rw [e] at this
    rw [g.sc]
    simpa using this
  · have := h5 z hz
    rw [g.hN]
    rcases e with e | e <;> rw [e] at this <;> simpa using this
theorem Good.blk (g : Good P k N sc so X) {scope : Scope} (hk : scope.kind = .function) (s : Shared) (H : Hp) (C : Addr) (cl : List (Str × Addr)) (fp : List Addr) : Good P k N (relN scope.names sc) (soOf scope.names) (X.blk s H scope (compEnvC scope cl C X.env) fp) where
  hN := g.hN
  nd := g.nd
  sc := by
    show (relabel scope X.env).names = _
    rw [relN_eq g.kind, g.sc]
  kind := hk
  sto := fun x h => by
    have e : (relabel scope X.env).names = relN scope.names sc := by rw [relN_eq g.kind, g.sc]
    rcases soOf_spec h with h | h
    · have h2 : (relabel scope X.env).names.lookup x = some .local := by rw [e]; exact relN_look (by decide) h
      exact ⟨.inl h2, .inr h2⟩
    · have h2 : (relabel scope X.env).names.lookup x = some .cell := by rw [e]; exact relN_look (by decide) h
      exact ⟨.inr h2, .inl (by show (scope.names.lookup x == some .cell) = true; rw [h]; rfl)⟩
  calm := g.calm
  room := g.room
  cst := g.cst
  blt := g.blt
  fns := g.fns
theorem takesF {X : Cx} : Takes X WF := fun u s' ⟨_, _, _, _, _, _, _, _, _, _, _, _, _, _, _, _, w⟩ => w.elim
/-! ### the store with one list hidden -/
theorem Keep.unhide {K : PySem.W.Frag} {F F' : Fs} {H H' : Hp} {S' : Store} {D : Addr} (k : Keep (DI.hide Z D) F H F' H') (s : StOk K (DI.hide Z D) F' S' H') (nz : ¬ Z D) : Keep Z F H F' H' where
  len := k.len
  old := k.old
  lst := fun a us h m => by
    by_cases e : a = D
    · subst e
      refine ⟨(k.hid a (.inr rfl)).trans h, ?_⟩
      rintro (q | q)
      · exact s.zl a (.inr rfl) q
      · exact nz q
    · obtain ⟨h1, h2⟩ := k.lst a us h (by rintro (q | q | q); exact m (.inl q); exact m (.inr q); exact e q)
      exact ⟨h1, fun q => h2 (q.imp id .inl)⟩
  tup := k.tup
  frz := k.frz
  hid := fun a z => k.hid a (.inl z)
  dom := k.dom
theorem Kp.hidMut {F : Fs} {H : Hp} {D : Addr} {us us' : List V} (hd : H D = some (.lst us)) : Kp (DI.hide Z D) F H F (upd H D (.lst us')) :=
  ⟨Nat.le_refl _, fun _ _ h => .inl h, fun a ws h m => ⟨by rw [upd_ne (fun e : a = D => m (.inr (.inr e)))]; exact h, m⟩, fun a ws h => by rw [upd_ne (fun e : a = D => by rw [e, hd] at h; cases h)]; exact h, fun a o ws h => by rw [upd_ne (fun e : a = D => by rw [e, hd] at h; cases h)]; exact h⟩
theorem StOk.hidMut {K : PySem.W.Frag} {F : Fs} {H : Hp} {S : Store} {D : Addr} {us us' : List V} (s : StOk K (DI.hide Z D) F S H) (hd : H D = some (.lst us)) : StOk K (DI.hide Z D) F S (upd H D (.lst us')) where
  len := s.len
  at_ := fun n ob e => by
    obtain ⟨fo, e1, h1⟩ := s.at_ n ob e
    refine ⟨fo, e1, h1.keep (Kp.hidMut hd) fun a z => ?_⟩
    subst z
    exact upd_ne fun e : a = D => s.zl D (.inr rfl) (e ▸ List.mem_of_getElem? e1)
  inj := s.inj
  zin := fun a z => by
    by_cases e : a = D
    · rw [e, upd_same]; simp
    · rw [upd_ne e]; exact s.zin a z
  zl := s.zl
theorem Keep.outMut {F1 F : Fs} {H1 H : Hp} {D : Addr} {us : List V} (k : Keep Z F1 H1 F H) (h1 : H1 D = none) (nz : ¬ Z D) : Keep Z F1 H1 F (upd H D (.lst us)) where
  len := k.len
  old := k.old
  lst := fun a ws h m => by rw [upd_ne (fun e : a = D => by rw [e, h1] at h; cases h)]; exact k.lst a ws h m
  tup := fun a ws h => by rw [upd_ne (fun e : a = D => by rw [e, h1] at h; cases h)]; exact k.tup a ws h
  frz := fun a o ws h => by rw [upd_ne (fun e : a = D => by rw [e, h1] at h; cases h)]; exact k.frz a o ws h
  hid := fun a z => by rw [upd_ne (fun e : a = D => nz (e ▸ z))]; exact k.hid a z
  dom := fun a h => by
    by_cases e : a = D
    · rw [e, upd_same]; simp
    · rw [upd_ne e]; exact k.dom a h
/-! ### one clause -/
def tC (y : Cy) (W : WX) (c : OEx) : TT := fun σ H Q => ∃ F S r, y.St F S H ∧ y.En F H r σ ∧ Post y F H (evc y.P y.C c r S) eqA (fun c d H' => W c d σ H') Q
theorem comp_none {f : Val → Store → Out (Option Val)} {x : Val} {rest : List Val} {S S1 : Store} {γ : Type} {G : List Val → Store → Out γ} (h : f x S = .ok none S1) : ((compL f (x :: rest) S).nox).bind G = ((compL f rest S1).nox).bind G := by
  simp only [compL, h, Out.bind_ok]
  cases compL f rest S1 <;> rfl
theorem comp_some {f : Val → Store → Out (Option Val)} {x w : Val} {rest : List Val} {S S1 : Store} {γ : Type} {G : List Val → Store → Out γ} (h : f x S = .ok (some w) S1) : ((compL f (x :: rest) S).nox).bind G = ((compL f rest S1).nox).bind fun ys S2 => G (w :: ys) S2 := by
  simp only [compL, h, Out.bind_ok]
  cases compL f rest S1 <;> rfl
theorem comp_bad {f : Val → Store → Out (Option Val)} {x : Val} {rest : List Val} {S : Store} {γ : Type} {G : List Val → Store → Out γ} (h : ∀ o S1, f x S ≠ .ok o S1) : ((compL f (x :: rest) S).nox).bind G = .bad := by
  simp only [compL]
  cases q : f x S with
  | ok o S1 => exact absurd q (h o S1)
  | exn e S1 => rfl
  | bad => rfl
theorem wipe_comm {σ : L2.St} {j : Nat} : ∀ vs : List Nat, wipe (σ.set j none) vs = (wipe σ vs).set j none
  | [] => rfl
  | i :: vs => by
    unfold wipe
    rw [wipe_comm vs]
    by_cases e : i = j
    · rw [e]
    · rw [List.set_comm _ _ e]
theorem wipe_idem (σ : L2.St) : ∀ vs : List Nat, wipe (wipe σ vs) vs = wipe σ vs
  | [] => rfl
  | i :: vs => by
    show (wipe ((wipe σ vs).set i none) vs).set i none = (wipe σ vs).set i none
    rw [wipe_comm vs, wipe_idem σ vs, List.set_set]
def lcF (P : Pg) (C : Cf) (t : Tg) (c : OEx) (e : Ex) (r : Sl) : Val → Store → Out (Option Val) := fun x S2 => match setT t x r S2 with
  | some r2 => (evc P C c r2 S2).bind fun k S3 => if k = true then (ev P C e r2 S3).bind fun y S4 => .ok (some y) S4 else .ok none S3
  | none => .bad
def lcEnd (acc : List Val) : List Val → Store → Out (List Val) := fun ys S8 => if (acc ++ ys).length ≤ mx then .ok (acc ++ ys) S8 else .bad
def LcI (y : Cy) (W : WK) (Q : VK) (F1 : Fs) (H1 : Hp) (D : Addr) (xs : List Val) (J : L2.It) (f : Val → Store → Out (Option Val)) (r : Sl) (σ : L2.St) (i m : Nat) (H : Hp) : Prop :=
  m = xs.length - i ∧ i ≤ xs.length ∧ ∃ F S acc us, Keep y.Z F1 H1 F H ∧ StOk y.K (hide y.Z D) F S H ∧ EnvOk y.K (hide y.Z D) F H r σ ∧ H D = some (.lst us) ∧ RL y.K (hide y.Z D) F H acc us ∧ Src y.K (hide y.Z D) F H xs J ∧
    PostN y F1 H1 (((compL f (xs.drop i) S).nox).bind (lcEnd acc)) W Q
theorem lc_wp {own : List Nat} {t : Tg} {it : DI.It} {c : OEx} {e : Ex} (ht : tgIn own t = true) {σ : L2.St} {H : Hp} {Q : VK} (h : tN (cy P k X Z) W (.lc own t it c e) σ H Q) :
    tLc (tI (cy P k X Z) W it) (fun v σ H Q => ∃ Z, tG (cy P k X Z) t v σ H Q) (fun σ H Q => ∃ Z, tC (cy P k X Z) WF c σ H Q) (fun σ H Q => ∃ Z, tE (cy P k X Z) WF e σ H Q) own σ H Q := by
  obtain ⟨F, S, r, st, en, po⟩ := h
  simp only [evn] at po
  have po : PostN (cy P k X Z) F H ((evi P (run P k) it r S).bind fun xs S1 => ((compL (lcF P (run P k) t c e (wipeS r own)) xs S1).nox).bind (lcEnd [])) (fun c d H' => W c d σ H') Q := po
  refine ⟨F, S, r, st, en, (po.bind (RA := Src X.K Z)).mono fun J H1 ⟨F1, xs, S1, k1, s1, src, po1⟩ => ?_⟩
  intro D hD
  have nz : ¬ Z D := fun z => s1.zin D z hD
  refine ⟨LcI (cy P k X Z) (fun c d H' => W c d σ H') Q F1 H1 D xs J (lcF P (run P k) t c e (wipeS r own)) (wipeS r own) (wipe σ own), ⟨xs.length, by simp, Nat.zero_le _, F1, S1, [], [], Keep.new s1 hD, s1.newHid hD, ?_, upd_same, RL.nil, src.hide hD, po1⟩, ?_⟩
  · exact (((en.keep k1.toKp).wipe own).hide hD).keep (Kp.new hD)
  rintro i m H2 ⟨rfl, hi, F2, S2, acc, us, k2, s2, en2, hd, rl, src2, po2⟩
  by_cases hlt : i < xs.length
  · refine .inr ⟨src2.go hlt, LcI (cy P k X Z) (fun c d H' => W c d σ H') Q F1 H1 D xs J (lcF P (run P k) t c e (wipeS r own)) (wipeS r own) (wipe σ own) (i + 1) (xs.length - (i + 1)), fun H' n => ⟨_, by omega, n⟩, fun v H3 yl => ?_⟩
    have hx : xs[i]? = some xs[i] := by simp [hlt]
    generalize xs[i] = x at hx
    have hdr : xs.drop i = x :: xs.drop (i + 1) := by
      rw [List.drop_eq_getElem_cons hlt]
      have : xs[i] = x := by
        rw [List.getElem?_eq_getElem hlt] at hx
        exact Option.some.inj hx
      rw [this]
    rw [hdr] at po2
    obtain ⟨rv, k3, s3⟩ := src2.yld s2 hx yl
    cases e1 : setT t x (wipeS r own) S2 with
    | none =>
      rw [comp_bad (fun o S1 h => by simp [lcF, e1] at h)] at po2
      exact po2.elim
    | some r2 =>
      refine ⟨hide Z D, F2, S2, wipeS r own, x, r2, s3, en2.keep k3.toKp, rv, e1, fun σ2 en3 w3 => ⟨(w3 own ht).trans (wipe_idem σ own), ?_⟩⟩
      refine ⟨hide Z D, F2, S2, r2, s3, en3, ?_⟩
      show Post _ _ _ (evc P (run P k) c r2 S2) _ _ _
      cases e2 : evc P (run P k) c r2 S2 with
      | bad =>
        rw [comp_bad (fun o S1 h => by simp [lcF, e1, e2] at h)] at po2
        exact po2.elim
      | exn xn S3 =>
        rw [comp_bad (fun o S1 h => by simp [lcF, e1, e2] at h)] at po2
        exact po2.elim
      | ok b S3 =>
        intro F4 H4 b' k4 s4 eb
        have eb : b = b' := eb
        subst eb
        have kk : Keep (DI.hide Z D) F2 H2 F4 H4 := k3.trans k4
        have ko : Keep Z F1 H1 F4 H4 := k2.trans (kk.unhide s4 nz)
        have hd4 : H4 D = some (.lst us) := (kk.hid D (.inr rfl)).trans hd
        cases b with
        | false =>
          rw [comp_none (S1 := S3) (by simp [lcF, e1, e2])] at po2
          simp only [Bool.false_eq_true, if_false]
          exact ⟨rfl, hlt, F4, S3, acc, us, ko, s4, en2.keep kk.toKp, hd4, rl.keep kk.toKp, src2.keep kk.toKp, po2⟩
        | true =>
          simp only [if_true]
          refine ⟨hide Z D, F4, S3, r2, s4, en3.keep k4.toKp, ?_⟩
          show Post _ _ _ (ev P (run P k) e r2 S3) _ _ _
          cases e3 : ev P (run P k) e r2 S3 with
          | bad =>
            rw [comp_bad (fun o S1 h => by simp [lcF, e1, e2, e3] at h)] at po2
            exact po2.elim
          | exn xn S4 =>
            rw [comp_bad (fun o S1 h => by simp [lcF, e1, e2, e3] at h)] at po2
            exact po2.elim
          | ok w S4 =>
            intro F5 H5 yv k5 s5 rw5
            have kk5 : Keep (DI.hide Z D) F2 H2 F5 H5 := kk.trans k5
            have hd5 : H5 D = some (.lst us) := (kk5.hid D (.inr rfl)).trans hd
            have ko5 : Keep Z F1 H1 F5 H5 := k2.trans (kk5.unhide s5 nz)
            rw [comp_some (w := w) (S1 := S4) (by simp [lcF, e1, e2, e3])] at po2
            have po3 : PostN (cy P k X Z) F1 H1 (((compL (lcF P (run P k) t c e (wipeS r own)) (xs.drop (i + 1)) S4).nox).bind (lcEnd (acc ++ [w]))) (fun c d H' => W c d σ H') Q := by
              have : (fun ys S2 => lcEnd acc (w :: ys) S2) = lcEnd (acc ++ [w]) := by
                funext ys S2
                simp [lcEnd]
              rw [this] at po2
              exact po2
            refine ⟨us, hd5, ?_, rfl, hlt, F5, S4, acc ++ [w], us ++ [yv], ko5.outMut hD nz, s5.hidMut hd5, ?_, upd_same, ?_, ?_, po3⟩
            · rw [← rl.length, sizeLine_eq]
              cases q : compL (lcF P (run P k) t c e (wipeS r own)) (xs.drop (i + 1)) S4 with
              | ok ys S5 =>
                rw [q] at po3
                have po4 : PostN (cy P k X Z) F1 H1 (lcEnd (acc ++ [w]) ys S5) (fun c d H' => W c d σ H') Q := po3
                unfold lcEnd at po4
                split at po4
                · rename_i hl
                  simp only [List.length_append, List.length_singleton] at hl
                  have : mx = 16777216 := rfl
                  omega
                · exact po4.elim
              | exn xn S5 => rw [q] at po3; exact po3.elim
              | bad => rw [q] at po3; exact po3.elim
            · exact (en2.keep kk5.toKp).keep (Kp.hidMut hd5)
            · exact ((rl.keep kk5.toKp).append (.cons rw5 RL.nil)).keep (Kp.hidMut hd5)
            · exact (src2.keep kk5.toKp).keep (Kp.hidMut hd5)
  · have e : i = xs.length := by omega
    subst e
    refine .inl ⟨src2.stop, ?_⟩
    rw [List.drop_length] at po2
    have po3 : PostN (cy P k X Z) F1 H1 (lcEnd acc [] S2) (fun c d H' => W c d σ H') Q := po2
    unfold lcEnd at po3
    rw [List.append_nil] at po3
    split at po3
    · exact po3 F2 H2 D us k2 s2 hD hd rl
    · exact po3.elim
theorem PE.exZ {X : Cx} {e : Expr} {ι : Type} {t : ι → TE} (h : ∀ z, PE X e (t z)) : PE X e (fun σ H Q => ∃ z, t z σ H Q) := ⟨fun pins s σ H Q I ⟨z, q⟩ => (h z).run pins s σ H Q I q⟩
theorem PTs.exZ {X : Cx} {e : List Expr} {ι : Type} {t : ι → TT} (h : ∀ z, PTs X e (t z)) : PTs X e (fun σ H Q => ∃ z, t z σ H Q) := ⟨fun pins s σ H Q I ⟨z, q⟩ => (h z).run pins s σ H Q I q⟩
theorem PG.exZ {X : Cx} {e : Expr} {ι : Type} {t : ι → TG} (h : ∀ z, PG X e (t z)) : PG X e (fun v σ H Q => ∃ z, t z v σ H Q) := ⟨fun pins s σ H v u Q I r ⟨z, q⟩ => (h z).run pins s σ H v u Q I r q⟩
theorem PI.exZ {X : Cx} {tg e : Expr} {ι : Type} {t : ι → TI} (h : ∀ z, PI X tg e (t z)) : PI X tg e (fun σ H Q => ∃ z, t z σ H Q) := ⟨fun pins s σ H G I ⟨z, q⟩ => (h z).run pins s σ H G I q⟩
def notSetE : Expr → Bool
  | .Set _ _ _ => false
  | _ => true
theorem folded_of {iter : Expr} (h : notSetE iter = true) (env : Env) (x : Value) : foldedSetIterable iter env x = pure x := by
  cases iter <;> first
    | rfl
    | (simp [notSetE] at h)
theorem PE.weakN {X : Cx} {e : Expr} {t t' : TE} (h : PE X e t) (w : ∀ σ H Q, t' σ H Q → t σ H Q) : PE X e t' := PE.weak h w
/-- what a block's parts are -/
structure BlkPs (P : Pg) (k : Nat) (N : List Str) (sc : List (Str × NameKind)) (X : Cx) (scope : Scope) (t : Tg) (c : OEx) (e : Ex) (tg elt : Expr) (ifs : List Expr) : Prop where
  pg : chkT N (soOf scope.names) t tg = true
  pt : ∀ X' Z', Good P k N (relN scope.names sc) (soOf scope.names) X' → Takes X' WF → PTs X' ifs (tC (cy P k X' Z') WF c)
  pe : ∀ X' Z', Good P k N (relN scope.names sc) (soOf scope.names) X' → Takes X' WF → PE X' elt (tE (cy P k X' Z') WF e)
theorem n_lc (g : Good P k N sc so X) {own : List (Str × Nat)} {t : Tg} {it : DI.It} {c : OEx} {e : Ex} {tg iter elt : Expr} {ifs : List Expr} {scope : Scope} {pos : Pos} (hb : blkB N sc scope own = true) (ht : tgIn (own.map (·.2)) t = true)
    (hi : PI X tg iter (tI (cy P k X Z) W it)) (hp : BlkPs P k N sc X scope t c e tg elt ifs) (hs : notSetE iter = true) : PE X (.ListComp elt [⟨tg, iter, ifs, 0⟩] scope pos) (tN (cy P k X Z) W (.lc (own.map (·.2)) t it c e)) := by
  have ok := blk_ok g hb
  refine PE.weak (pe_lc g.calm (by rw [g.hN]; exact g.nd) hi ok (fun s H C cl fp => ?_) (fun s H C cl fp => ?_) (fun s H C cl fp => ?_) (folded_of hs X.env)) fun σ H Q h => lc_wp ht h
  · exact PG.exZ fun z => g_tg (Z := z) (g.blk ok.kind s H C cl fp) t hp.pg
  · exact PTs.exZ fun z => hp.pt _ z (g.blk ok.kind s H C cl fp) takesF
  · exact PE.exZ fun z => hp.pe _ z (g.blk ok.kind s H C cl fp) takesF
end
end DI
/-! DI10b: comprehensions of two clauses. -/
namespace DI
open PySem PySem.Spec PyProof.Rows L2 RZ
def lc2F (P : Pg) (C : Cf) (t : Tg) (c : OEx) (it2 : DI.It) (g : Sl → Val → Store → Out (Option Val)) (r : Sl) : Val → Store → Out (List Val) := fun x S2 => match setT t x r S2 with
  | some r2 => (evc P C c r2 S2).bind fun k S3 => if k = true then (evi P C it2 r2 S3).bind fun ys S4 => compL (g r2) ys S4 else .ok [] S3
  | none => .bad
/-- what is left of an inner walk, and of the outer one -/
def cat2 (g : Val → Store → Out (Option Val)) (ys : List Val) (f : Val → Store → Out (List Val)) (rest : List Val) (S : Store) : Out (List Val) := (compL g ys S).bind fun zs S1 => (compLL f rest S1).bind fun ws S2 => .ok (zs ++ ws) S2
theorem cat2_nil (g f rest S) : cat2 g [] f rest S = compLL f rest S := by
  unfold cat2
  simp only [compL, Out.bind_ok, List.nil_append]
  cases compLL f rest S <;> rfl
theorem cat2_none {g : Val → Store → Out (Option Val)} {f : Val → Store → Out (List Val)} {y : Val} {ys rest : List Val} {S S1 : Store} {γ : Type} {G : List Val → Store → Out γ} (h : g y S = .ok none S1) : ((cat2 g (y :: ys) f rest S).nox).bind G = ((cat2 g ys f rest S1).nox).bind G := by
  unfold cat2
  simp only [compL, h, Out.bind_ok]
  cases compL g ys S1 <;> rfl
theorem cat2_some {g : Val → Store → Out (Option Val)} {f : Val → Store → Out (List Val)} {y w : Val} {ys rest : List Val} {S S1 : Store} {γ : Type} {G : List Val → Store → Out γ} (h : g y S = .ok (some w) S1) : ((cat2 g (y :: ys) f rest S).nox).bind G = ((cat2 g ys f rest S1).nox).bind fun zs S2 => G (w :: zs) S2 := by
  unfold cat2
  simp only [compL, h, Out.bind_ok]
  cases compL g ys S1 with
  | ok zs S2 =>
    simp only [Out.bind_ok]
    cases compLL f rest S2 <;> rfl
  | exn e S2 => rfl
  | bad => rfl
theorem cat2_bad {g : Val → Store → Out (Option Val)} {f : Val → Store → Out (List Val)} {y : Val} {ys rest : List Val} {S : Store} {γ : Type} {G : List Val → Store → Out γ} (h : ∀ o S1, g y S ≠ .ok o S1) : ((cat2 g (y :: ys) f rest S).nox).bind G = .bad := by
  unfold cat2
  simp only [compL]
  cases q : g y S with
  | ok o S1 => exact absurd q (h o S1)
  | exn e S1 => rfl
  | bad => rfl
theorem compLL_none {f : Val → Store → Out (List Val)} {x : Val} {rest : List Val} {S S1 : Store} {γ : Type} {G : List Val → Store → Out γ} (h : f x S = .ok [] S1) : ((compLL f (x :: rest) S).nox).bind G = ((compLL f rest S1).nox).bind G := by
  simp only [compLL, h, Out.bind_ok, List.nil_append]
  cases compLL f rest S1 <;> rfl
theorem compLL_bad {f : Val → Store → Out (List Val)} {x : Val} {rest : List Val} {S : Store} {γ : Type} {G : List Val → Store → Out γ} (h : ∀ o S1, f x S ≠ .ok o S1) : ((compLL f (x :: rest) S).nox).bind G = .bad := by
  simp only [compLL]
  cases q : f x S with
  | ok o S1 => exact absurd q (h o S1)
  | exn e S1 => rfl
  | bad => rfl
theorem compLL_in {f : Val → Store → Out (List Val)} {g : Val → Store → Out (Option Val)} {x : Val} {ys rest : List Val} {S S1 : Store} (h : f x S = compL g ys S1) : compLL f (x :: rest) S = cat2 g ys f rest S1 := by
  simp only [compLL, h, cat2]
def Lc2O (y : Cy) (W : WK) (Q : VK) (F1 : Fs) (H1 : Hp) (D : Addr) (xs : List Val) (J : L2.It) (r : Sl) (σ : L2.St) (o : Store → List Val → Out (List Val)) (i m : Nat) (H : Hp) : Prop :=
  m = xs.length - i ∧ i ≤ xs.length ∧ ∃ F S acc us, Keep y.Z F1 H1 F H ∧ StOk y.K (hide y.Z D) F S H ∧ EnvOk y.K (hide y.Z D) F H r σ ∧ H D = some (.lst us) ∧ RL y.K (hide y.Z D) F H acc us ∧ Src y.K (hide y.Z D) F H xs J ∧
    PostN y F1 H1 (((o S (xs.drop i)).nox).bind (lcEnd acc)) W Q
def Lc2N (y : Cy) (W : WK) (Q : VK) (F1 : Fs) (H1 : Hp) (D : Addr) (xs ys : List Val) (J J1 : L2.It) (r r2 : Sl) (σ σ2 : L2.St) (o : Store → List Val → Out (List Val)) (j m : Nat) (H : Hp) : Prop :=
  m = ys.length - j ∧ j ≤ ys.length ∧ ∃ F S acc us, Keep y.Z F1 H1 F H ∧ StOk y.K (hide y.Z D) F S H ∧ EnvOk y.K (hide y.Z D) F H r σ ∧ EnvOk y.K (hide y.Z D) F H r2 σ2 ∧ H D = some (.lst us) ∧ RL y.K (hide y.Z D) F H acc us ∧ Src y.K (hide y.Z D) F H xs J ∧ Src y.K (hide y.Z D) F H ys J1 ∧
    PostN y F1 H1 (((o S (ys.drop j)).nox).bind (lcEnd acc)) W Q
section
variable {P : Pg} {k : Nat} {N : List Str} {sc : List (Str × NameKind)} {so : List Str} {X : Cx} {Z : Addr → Prop} {W : WX}
theorem drop_at {α : Type} {xs : List α} {i : Nat} (h : i < xs.length) : ∃ x, xs[i]? = some x ∧ xs.drop i = x :: xs.drop (i + 1) := ⟨xs[i], by simp [h], List.drop_eq_getElem_cons h⟩
theorem lc2_wp {own own2 : List Nat} {t t2 : Tg} {it it2 : DI.It} {c c2 : OEx} {e : Ex} (ht : tgIn own t = true) (ht2 : tgIn own2 t2 = true) {σ : L2.St} {H : Hp} {Q : VK} (h : tN (cy P k X Z) W (.lc2 own t it c own2 t2 it2 c2 e) σ H Q) :
    tLc2 (tI (cy P k X Z) W it) (fun v σ H Q => ∃ Z, tG (cy P k X Z) t v σ H Q) (fun σ H Q => ∃ Z, tC (cy P k X Z) WF c σ H Q) (fun σ H Q => ∃ Z, tI (cy P k X Z) WF it2 σ H Q) (fun v σ H Q => ∃ Z, tG (cy P k X Z) t2 v σ H Q) (fun σ H Q => ∃ Z, tC (cy P k X Z) WF c2 σ H Q) (fun σ H Q => ∃ Z, tE (cy P k X Z) WF e σ H Q) own own2 σ H Q := by
  obtain ⟨F, S, r, st, en, po⟩ := h
  simp only [evn] at po
  generalize hf : lc2F P (run P k) t c it2 (fun r2 => lcF P (run P k) t2 c2 e (wipeS r2 own2)) (wipeS r own) = f
  have po : PostN (cy P k X Z) F H ((evi P (run P k) it r S).bind fun xs S1 => ((compLL f xs S1).nox).bind (lcEnd [])) (fun c d H' => W c d σ H') Q := by rw [← hf]; exact po
  refine ⟨F, S, r, st, en, (po.bind (RA := Src X.K Z)).mono fun J H1 ⟨F1, xs, S1, k1, s1, src, po1⟩ => ?_⟩
  intro D hD
  have nz : ¬ Z D := fun z => s1.zin D z hD
  generalize hO : Lc2O (cy P k X Z) (fun c d H' => W c d σ H') Q F1 H1 D xs J (wipeS r own) (wipe σ own) (fun S l => compLL f l S) = O
  refine ⟨O, ⟨xs.length, ?_⟩, ?_⟩
  · rw [← hO]
    refine ⟨by simp, Nat.zero_le _, F1, S1, [], [], Keep.new s1 hD, s1.newHid hD, ?_, upd_same, RL.nil, src.hide hD, po1⟩
    exact (((en.keep k1.toKp).wipe own).hide hD).keep (Kp.new hD)
  intro i m H2 hi
  rw [← hO] at hi
  obtain ⟨rfl, hi, F2, S2, acc, us, k2, s2, en2, hd, rl, src2, po2⟩ := hi
  by_cases hlt : i < xs.length
  · refine .inr ⟨src2.go hlt, O (i + 1) (xs.length - (i + 1)), fun H' n => ⟨_, by omega, n⟩, fun v H3 yl => ?_⟩
    obtain ⟨x, hx, hdr⟩ := drop_at hlt
    dsimp only at po2
    rw [hdr] at po2
    obtain ⟨rv, k3, s3⟩ := src2.yld s2 hx yl
    cases e1 : setT t x (wipeS r own) S2 with
    | none =>
      rw [compLL_bad (fun o S1 h => by rw [← hf] at h; simp [lc2F, e1] at h)] at po2
      exact po2.elim
    | some r2 =>
      refine ⟨hide Z D, F2, S2, wipeS r own, x, r2, s3, en2.keep k3.toKp, rv, e1, fun σ2 en3 w3 => ⟨(w3 own ht).trans (wipe_idem σ own), ?_⟩⟩
      refine ⟨hide Z D, F2, S2, r2, s3, en3, ?_⟩
      show Post _ _ _ (evc P (run P k) c r2 S2) _ _ _
      cases e2 : evc P (run P k) c r2 S2 with
      | bad =>
        rw [compLL_bad (fun o S1 h => by rw [← hf] at h; simp [lc2F, e1, e2] at h)] at po2
        exact po2.elim
      | exn xn S3 =>
        rw [compLL_bad (fun o S1 h => by rw [← hf] at h; simp [lc2F, e1, e2] at h)] at po2
        exact po2.elim
      | ok b S3 =>
        intro F4 H4 b' k4 s4 eb
        have eb : b = b' := eb
        subst eb
        have kk : Keep (DI.hide Z D) F2 H2 F4 H4 := k3.trans k4
        have ko : Keep Z F1 H1 F4 H4 := k2.trans (kk.unhide s4 nz)
        have hd4 : H4 D = some (.lst us) := (kk.hid D (.inr rfl)).trans hd
        cases b with
        | false =>
          rw [compLL_none (S1 := S3) (by rw [← hf]; simp [lc2F, e1, e2])] at po2
          simp only [Bool.false_eq_true, if_false]
          rw [← hO]
          exact ⟨rfl, hlt, F4, S3, acc, us, ko, s4, en2.keep kk.toKp, hd4, rl.keep kk.toKp, src2.keep kk.toKp, po2⟩
        | true =>
          simp only [if_true]
          refine ⟨hide Z D, F4, S3, r2, s4, en3.keep k4.toKp, ?_⟩
          show Post _ _ _ (evi P (run P k) it2 r2 S3) _ _ _
          cases e3 : evi P (run P k) it2 r2 S3 with
          | bad =>
            rw [compLL_bad (fun o S1 h => by rw [← hf] at h; simp [lc2F, e1, e2, e3] at h)] at po2
            exact po2.elim
          | exn xn S4 =>
            rw [compLL_bad (fun o S1 h => by rw [← hf] at h; simp [lc2F, e1, e2, e3] at h)] at po2
            exact po2.elim
          | ok ys S4 =>
            intro F5 H5 J1 k5 s5 src5
            have kk5 : Keep (DI.hide Z D) F2 H2 F5 H5 := kk.trans k5
            have ko5 : Keep Z F1 H1 F5 H5 := k2.trans (kk5.unhide s5 nz)
            have hd5 : H5 D = some (.lst us) := (kk5.hid D (.inr rfl)).trans hd
            rw [compLL_in (g := lcF P (run P k) t2 c2 e (wipeS r2 own2)) (ys := ys) (S1 := S4) (by rw [← hf]; simp [lc2F, e1, e2, e3])] at po2
            generalize hg : lcF P (run P k) t2 c2 e (wipeS r2 own2) = g at po2
            generalize hO1 : Lc2N (cy P k X Z) (fun c d H' => W c d σ H') Q F1 H1 D xs ys J J1 (wipeS r own) (wipeS r2 own2) (wipe σ own) (wipe σ2 own2) (fun S l => cat2 g l f (xs.drop (i + 1)) S) = O1
            refine ⟨O1, ⟨ys.length, ?_⟩, ?_⟩
            · rw [← hO1]
              exact ⟨by simp, Nat.zero_le _, F5, S4, acc, us, ko5, s5, en2.keep kk5.toKp, ((en3.keep (k4.trans k5).toKp).wipe own2), hd5, rl.keep kk5.toKp, src2.keep kk5.toKp, src5, po2⟩
            intro j m1 H6 hj
            rw [← hO1] at hj
            obtain ⟨rfl, hj, F6, S6, acc6, us6, k6, s6, en6, en6b, hd6, rl6, src6, src6b, po6⟩ := hj
            by_cases hjt : j < ys.length
            · refine .inr ⟨src6b.go hjt, O1 (j + 1) (ys.length - (j + 1)), fun H' n => ⟨_, by omega, n⟩, fun v H7 yl7 => ?_⟩
              obtain ⟨z, hz, hdr1⟩ := drop_at hjt
              dsimp only at po6
              rw [hdr1] at po6
              obtain ⟨rv7, k7, s7⟩ := src6b.yld s6 hz yl7
              cases e4 : setT t2 z (wipeS r2 own2) S6 with
              | none =>
                rw [cat2_bad (fun o S1 h => by rw [← hg] at h; simp [lcF, e4] at h)] at po6
                exact po6.elim
              | some r3 =>
                refine ⟨hide Z D, F6, S6, wipeS r2 own2, z, r3, s7, en6b.keep k7.toKp, rv7, e4, fun σ3 en8 w8 => ⟨(w8 own2 ht2).trans (wipe_idem σ2 own2), ?_⟩⟩
                refine ⟨hide Z D, F6, S6, r3, s7, en8, ?_⟩
                show Post _ _ _ (evc P (run P k) c2 r3 S6) _ _ _
                cases e5 : evc P (run P k) c2 r3 S6 with
                | bad =>
                  rw [cat2_bad (fun o S1 h => by rw [← hg] at h; simp [lcF, e4, e5] at h)] at po6
                  exact po6.elim
                | exn xn S7 =>
                  rw [cat2_bad (fun o S1 h => by rw [← hg] at h; simp [lcF, e4, e5] at h)] at po6
                  exact po6.elim
                | ok b S7 =>
                  intro F8 H8 b' k8 s8 eb
                  have eb : b = b' := eb
                  subst eb
                  have kk8 : Keep (DI.hide Z D) F6 H6 F8 H8 := k7.trans k8
                  have ko8 : Keep Z F1 H1 F8 H8 := k6.trans (kk8.unhide s8 nz)
                  have hd8 : H8 D = some (.lst us6) := (kk8.hid D (.inr rfl)).trans hd6
                  cases b with
                  | false =>
                    rw [cat2_none (S1 := S7) (by rw [← hg]; simp [lcF, e4, e5])] at po6
                    simp only [Bool.false_eq_true, if_false]
                    rw [← hO1]
                    exact ⟨rfl, hjt, F8, S7, acc6, us6, ko8, s8, en6.keep kk8.toKp, en6b.keep kk8.toKp, hd8, rl6.keep kk8.toKp, src6.keep kk8.toKp, src6b.keep kk8.toKp, po6⟩
                  | true =>
                    simp only [if_true]
                    refine ⟨hide Z D, F8, S7, r3, s8, en8.keep k8.toKp, ?_⟩
                    show Post _ _ _ (ev P (run P k) e r3 S7) _ _ _
                    cases e6 : ev P (run P k) e r3 S7 with
                    | bad =>
                      rw [cat2_bad (fun o S1 h => by rw [← hg] at h; simp [lcF, e4, e5, e6] at h)] at po6
                      exact po6.elim
                    | exn xn S8 =>
                      rw [cat2_bad (fun o S1 h => by rw [← hg] at h; simp [lcF, e4, e5, e6] at h)] at po6
                      exact po6.elim
                    | ok w S8 =>
                      intro F9 H9 yv k9 s9 rw9
                      have kk9 : Keep (DI.hide Z D) F6 H6 F9 H9 := kk8.trans k9
                      have hd9 : H9 D = some (.lst us6) := (kk9.hid D (.inr rfl)).trans hd6
                      have ko9 : Keep Z F1 H1 F9 H9 := k6.trans (kk9.unhide s9 nz)
                      rw [cat2_some (w := w) (S1 := S8) (by rw [← hg]; simp [lcF, e4, e5, e6])] at po6
                      have po7 : PostN (cy P k X Z) F1 H1 (((cat2 g (ys.drop (j + 1)) f (xs.drop (i + 1)) S8).nox).bind (lcEnd (acc6 ++ [w]))) (fun c d H' => W c d σ H') Q := by
                        have : (fun ys S2 => lcEnd acc6 (w :: ys) S2) = lcEnd (acc6 ++ [w]) := by
                          funext ys S2
                          simp [lcEnd]
                        rw [this] at po6
                        exact po6
                      refine ⟨us6, hd9, ?_, ?_⟩
                      · rw [← rl6.length, sizeLine_eq]
                        cases q : cat2 g (ys.drop (j + 1)) f (xs.drop (i + 1)) S8 with
                        | ok zs S9 =>
                          rw [q] at po7
                          have po8 : PostN (cy P k X Z) F1 H1 (lcEnd (acc6 ++ [w]) zs S9) (fun c d H' => W c d σ H') Q := po7
                          unfold lcEnd at po8
                          split at po8
                          · rename_i hl
                            simp only [List.length_append, List.length_singleton] at hl
                            have : mx = 16777216 := rfl
                            omega
                          · exact po8.elim
                        | exn xn S9 => rw [q] at po7; exact po7.elim
                        | bad => rw [q] at po7; exact po7.elim
                      · rw [← hO1]
                        refine ⟨rfl, hjt, F9, S8, acc6 ++ [w], us6 ++ [yv], ko9.outMut hD nz, s9.hidMut hd9, ?_, ?_, upd_same, ?_, ?_, ?_, po7⟩
                        · exact (en6.keep kk9.toKp).keep (Kp.hidMut hd9)
                        · exact (en6b.keep kk9.toKp).keep (Kp.hidMut hd9)
                        · exact ((rl6.keep kk9.toKp).append (.cons rw9 RL.nil)).keep (Kp.hidMut hd9)
                        · exact (src6.keep kk9.toKp).keep (Kp.hidMut hd9)
                        · exact (src6b.keep kk9.toKp).keep (Kp.hidMut hd9)
            · have ej : j = ys.length := by omega
              refine .inl ⟨by rw [ej]; exact src6b.stop, ?_⟩
              dsimp only at po6
              rw [ej, List.drop_length, cat2_nil] at po6
              rw [← hO]
              exact ⟨rfl, hlt, F6, S6, acc6, us6, k6, s6, en6, hd6, rl6, src6, po6⟩
  · have ei : i = xs.length := by omega
    refine .inl ⟨by rw [ei]; exact src2.stop, ?_⟩
    dsimp only at po2
    rw [ei, List.drop_length] at po2
    have po3 : PostN (cy P k X Z) F1 H1 (lcEnd acc [] S2) (fun c d H' => W c d σ H') Q := po2
    unfold lcEnd at po3
    rw [List.append_nil] at po3
    split at po3
    · exact po3 F2 H2 D us k2 s2 hD hd rl
    · exact po3.elim
/-- what an inner clause is -/
structure BlkP2 (P : Pg) (k : Nat) (N : List Str) (sc : List (Str × NameKind)) (scope : Scope) (own own2 : List Nat) (t2 : Tg) (it2 : DI.It) (c2 : OEx) (tg1 iter1 : Expr) (ifs1 : List Expr) : Prop where
  sub : ∀ i ∈ own2, i ∈ own
  ht : tgIn own2 t2 = true
  pg : chkT N (soOf scope.names) t2 tg1 = true
  hs : notSetE iter1 = true
  pi : ∀ X' Z', Good P k N (relN scope.names sc) (soOf scope.names) X' → Takes X' WF → PI X' tg1 iter1 (tI (cy P k X' Z') WF it2)
  pt : ∀ X' Z', Good P k N (relN scope.names sc) (soOf scope.names) X' → Takes X' WF → PTs X' ifs1 (tC (cy P k X' Z') WF c2)
theorem n_lc2 (g : Good P k N sc so X) {own : List (Str × Nat)} {own2 : List Nat} {t t2 : Tg} {it it2 : DI.It} {c c2 : OEx} {e : Ex} {tg iter tg1 iter1 elt : Expr} {ifs ifs1 : List Expr} {scope : Scope} {pos : Pos} (hb : blkB N sc scope own = true) (ht : tgIn (own.map (·.2)) t = true)
    (hi : PI X tg iter (tI (cy P k X Z) W it)) (hp : BlkPs P k N sc X scope t c e tg elt ifs) (hs : notSetE iter = true) (h2 : BlkP2 P k N sc scope (own.map (·.2)) own2 t2 it2 c2 tg1 iter1 ifs1) :
    PE X (.ListComp elt [⟨tg, iter, ifs, 0⟩, ⟨tg1, iter1, ifs1, 0⟩] scope pos) (tN (cy P k X Z) W (.lc2 (own.map (·.2)) t it c own2 t2 it2 c2 e)) := by
  have ok := blk_ok g hb
  refine PE.weak (pe_lc2 (vs1 := own2) g.calm (by rw [g.hN]; exact g.nd) hi ok h2.sub (fun s H C cl fp => ?_) (fun s H C cl fp => ?_) (fun s H C cl fp => ?_) (fun s H C cl fp => ?_) (fun s H C cl fp => ?_) (fun s H C cl fp => ?_) (folded_of hs X.env) (folded_of h2.hs)) fun σ H Q h => lc2_wp ht h2.ht h
  · exact PG.exZ fun z => g_tg (Z := z) (g.blk ok.kind s H C cl fp) t hp.pg
  · exact PTs.exZ fun z => hp.pt _ z (g.blk ok.kind s H C cl fp) takesF
  · exact PI.exZ fun z => h2.pi _ z (g.blk ok.kind s H C cl fp) takesF
  · exact PG.exZ fun z => g_tg (Z := z) (g.blk ok.kind s H C cl fp) t2 h2.pg
  · exact PTs.exZ fun z => h2.pt _ z (g.blk ok.kind s H C cl fp) takesF
  · exact PE.exZ fun z => hp.pe _ z (g.blk ok.kind s H C cl fp) takesF
end
end DI
/-! DI11: statements. -/
namespace DI
open PySem PySem.Spec PyProof.Rows L2 RZ
inductive FV | nx | rt (v : V) | bk | ct
def flR (y : Cy) (F : Fs) (H : Hp) : Fl → FV → Prop
  | .nx, .nx => True
  | .rt a, .rt v => y.R F H a v
  | .bk, .bk => True
  | .ct, .ct => True
  | _, _ => False
def rF (y : Cy) : Fs → Hp → Fl × Sl → FV × L2.St → Prop := fun F H p q => y.En F H p.2 q.2 ∧ flR y F H p.1 q.1
def atE (D : Ends) : FV × L2.St → Hp → Prop := fun q H => match q.1 with
  | .nx => D.nx q.2 H
  | .rt v => D.rt v H
  | .bk => D.bk q.2 H
  | .ct => D.ct q.2 H
abbrev wE (E : WK) : WX := fun c d _ H => E c d H
section
variable (y : Cy) (E : WK)
def tS (s : Sm) : TS := fun D σ H => ∃ F S r, y.St F S H ∧ y.En F H r σ ∧ Post y F H (exe y.P y.C s r S) (rF y) E (atE D)
def tSs (s : Sms) : TS := fun D σ H => ∃ F S r, y.St F S H ∧ y.En F H r σ ∧ Post y F H (exes y.P y.C s r S) (rF y) E (atE D)
end
theorem PS.weak {X : Cx} {e : Stmt} {t t' : TS} (h : PS X e t) (w : ∀ D σ H, t' D σ H → t D σ H) : PS X e t' := ⟨fun pins s σ H D I q => h.run pins s σ H D I (w D σ H q)⟩
theorem PSs.weak {X : Cx} {e : List Stmt} {t t' : TS} (h : PSs X e t) (w : ∀ D σ H, t' D σ H → t D σ H) : PSs X e t' := ⟨fun pins s σ H D I q => h.run pins s σ H D I (w D σ H q)⟩
section
variable {y : Cy} {F F' : Fs} {H : Hp} {S : Store} {E : WK} {D : Ends} {r : Sl} {σ : L2.St}
theorem Post.nx (h : Post y F H (.ok (.nx, r) S) (rF y) E (atE D)) (s : y.St F S H) (en : y.En F H r σ) : D.nx σ H := Post.ok (b := (FV.nx, σ)) h s ⟨en, trivial⟩
theorem Post.rt {x : Val} {v : V} (h : Post y F H (.ok (.rt x, r) S) (rF y) E (atE D)) (s : y.St F S H) (en : y.En F H r σ) (rx : y.R F H x v) : D.rt v H := Post.ok (b := (FV.rt v, σ)) h s ⟨en, rx⟩
theorem Post.bk (h : Post y F H (.ok (.bk, r) S) (rF y) E (atE D)) (s : y.St F S H) (en : y.En F H r σ) : D.bk σ H := Post.ok (b := (FV.bk, σ)) h s ⟨en, trivial⟩
theorem Post.ct (h : Post y F H (.ok (.ct, r) S) (rF y) E (atE D)) (s : y.St F S H) (en : y.En F H r σ) : D.ct σ H := Post.ok (b := (FV.ct, σ)) h s ⟨en, trivial⟩
end
/-! ### blocks -/
section
variable {P : Pg} {k : Nat} {N : List Str} {sc : List (Str × NameKind)} {so : List Str} {X : Cx} {Z : Addr → Prop} {E : WK} {pos : Pos}
theorem ss_nil : PSs X [] (tSs (cy P k X Z) E .nil) := PSs.weak pss_nil fun D σ H ⟨F, S, r, st, en, po⟩ => by
  simp only [exes] at po
  exact Post.nx po st en
theorem ss_cons {s : Sm} {t : Sms} {a : Stmt} {b : List Stmt} (ha : PS X a (tS (cy P k X Z) E s)) (hb : PSs X b (tSs (cy P k X Z) E t)) : PSs X (a :: b) (tSs (cy P k X Z) E (.cons s t)) := by
  refine PSs.weak (pss_cons ha hb) fun D σ H ⟨F, S, r, st, en, po⟩ => ?_
  simp only [exes] at po
  refine ⟨F, S, r, st, en, (po.bind (RA := rF (cy P k X Z))).mono fun q H1 ⟨F1, a1, S1, k1, s1, r1, po1⟩ => ?_⟩
  obtain ⟨fl, r1'⟩ := a1
  obtain ⟨fv, σ1⟩ := q
  obtain ⟨en1, rf⟩ := r1
  cases fl <;> cases fv <;> first
    | exact rf.elim
    | skip
  · exact ⟨F1, S1, r1', s1, en1, po1⟩
  · exact Post.rt (D := D) (show Post _ _ _ (Out.ok (Fl.rt _, r1') S1) _ _ _ from po1) s1 en1 rf
  · exact Post.bk (D := D) (show Post _ _ _ (Out.ok (Fl.bk, r1') S1) _ _ _ from po1) s1 en1
  · exact Post.ct (D := D) (show Post _ _ _ (Out.ok (Fl.ct, r1') S1) _ _ _ from po1) s1 en1
theorem s_pass : PS X (.Pass pos) (tS (cy P k X Z) E .pass) := PS.weak ps_pass fun D σ H ⟨F, S, r, st, en, po⟩ => by
  simp only [exe] at po
  exact Post.nx po st en
theorem s_brk : PS X (.Break pos) (tS (cy P k X Z) E .brk) := PS.weak ps_break fun D σ H ⟨F, S, r, st, en, po⟩ => by
  simp only [exe] at po
  exact Post.bk po st en
theorem s_cnt : PS X (.Continue pos) (tS (cy P k X Z) E .cnt) := PS.weak ps_continue fun D σ H ⟨F, S, r, st, en, po⟩ => by
  simp only [exe] at po
  exact Post.ct po st en
theorem s_retN : PS X (.Return none pos) (tS (cy P k X Z) E .retN) := PS.weak ps_retN fun D σ H ⟨F, S, r, st, en, po⟩ => by
  simp only [exe] at po
  exact Post.rt po st en (by simp [Cy.R, R])
theorem s_ret {e : Ex} {ea : Expr} (ha : PE X ea (tE (cy P k X Z) (wE E) e)) : PS X (.Return (some ea) pos) (tS (cy P k X Z) E (.ret e)) := by
  refine PS.weak (ps_ret ha) fun D σ H ⟨F, S, r, st, en, po⟩ => ?_
  simp only [exe] at po
  refine ⟨F, S, r, st, en, (po.bind (RA := (cy P k X Z).R)).mono fun x H1 ⟨F1, v, S1, k1, s1, r1, po1⟩ => ?_⟩
  exact Post.rt po1 s1 (en.keep k1.toKp) r1
theorem s_if {c : Ex} {a b : Sms} {ec : Expr} {sa sb : List Stmt} (hc : PT X ec (tTe (cy P k X Z) (wE E) c)) (ha : PSs X sa (tSs (cy P k X Z) E a)) (hb : PSs X sb (tSs (cy P k X Z) E b)) : PS X (.If ec sa sb pos) (tS (cy P k X Z) E (.ite c a b)) := by
  refine PS.weak (ps_if hc ha hb) fun D σ H ⟨F, S, r, st, en, po⟩ => ?_
  simp only [exe] at po
  refine ⟨F, S, r, st, en, (po.bind (RA := eqA)).mono fun b H1 ⟨F1, v, S1, k1, s1, r1, po1⟩ => ?_⟩
  have e : v = b := r1
  subst e
  cases v with
  | true => exact iteT ⟨F1, S1, r, s1, en.keep k1.toKp, po1⟩
  | false => exact iteF ⟨F1, S1, r, s1, en.keep k1.toKp, po1⟩
/-! ### stores -/
def isComp : Expr → Option Scope
  | .ListComp _ _ s _ => some s
  | .SetComp _ _ s _ => some s
  | .DictComp _ _ _ s _ => some s
  | _ => none
/-- whether a comprehension's list is stored in place -/
def swB (sc : List (Str × NameKind)) (e : Expr) (x : Str) (p : Pos) : Bool := match isComp e with
  | some s => sc.lookup x == some .local && (p.line == e.pos.line && !(s.names.any fun q => q.1 == x && (q.2 == .local || q.2 == .cell)))
  | none => false
theorem Good.blockKind (g : Good P k N sc so X) : X.env.blockKind = .function := by
  unfold Env.blockKind
  rw [g.kind]
  rfl
theorem sw_ok (g : Good P k N sc so X) (e : Expr) (x : Str) (p : Pos) (l : Nat) : swapsWith e (some (.Name x p)) l X.env = pure (swB sc e x p) := by
  have hk := g.blockKind
  have hl : X.env.kindOf x = sc.lookup x := by rw [← g.sc]; rfl
  cases e <;> first
    | rfl
    | (show (pure _ : Sem Bool) = _
       simp only [swB, isComp, hk, hl, Bool.and_assoc]
       congr 1)
theorem sw_other (e t : Expr) (l : Nat) (h : ∀ x p, t ≠ .Name x p) : swapsWith e (some t) l X.env = pure false := by
  cases t <;> first
    | exact absurd rfl (h _ _)
    | (cases e <;> rfl)
/-- name = e -/
theorem s_set {i : Nat} {e : Ex} {te : TE} {st : Stmt} (h : PS X st (tAsg te (gName i))) (hw : ∀ σ H Q, tE (cy P k X Z) (wE E) e σ H Q → te σ H Q) : PS X st (tS (cy P k X Z) E (.set (.n i) e)) := by
  refine PS.weak h fun D σ H ⟨F, S, r, st, en, po⟩ => ?_
  simp only [exe, setT] at po
  refine hw _ _ _ ⟨F, S, r, st, en, (po.bind (RA := (cy P k X Z).R)).mono fun x H1 ⟨F1, v, S1, k1, s1, r1, po1⟩ => ?_⟩
  exact Post.nx po1 s1 ((en.keep k1.toKp).set r1)
theorem s_setE (g : Good P k N sc so X) {i : Nat} {x : Str} {e : Ex} {ea : Expr} {p : Pos} (hi : N[i]? = some x) (hs : so.contains x = true) (hw : swB sc ea x p = false) (ha : PE X ea (tE (cy P k X Z) (wE E) e)) : PS X (.Assign [.Name x p] ea pos) (tS (cy P k X Z) E (.set (.n i) e)) := by
  obtain ⟨l, f⟩ := g.sto x hs
  exact s_set (ps_set (by rw [g.hN]; exact g.nd) (by rw [g.hN]; exact hi) l ha (by rw [sw_ok g, hw]) f) fun σ H Q h => h
/-- name = [..] on one line -/
theorem s_setL (g : Good P k N sc so X) {i : Nat} {x : Str} {p : Pos} {m : Bool} {own : List (Str × Nat)} {t : Tg} {it : DI.It} {c : OEx} {e : Ex} {tg iter elt : Expr} {ifs : List Expr} {scope : Scope} {lpos : Pos} (hi : N[i]? = some x) (hl : sc.lookup x = some .local)
    (hw : swB sc (.ListComp elt [⟨tg, iter, ifs, 0⟩] scope lpos) x p = true) (hb : blkB N sc scope own = true) (ht : tgIn (own.map (·.2)) t = true)
    (hit : PI X tg iter (tI (cy P k X Z) (wE E) it)) (hp : BlkPs P k N sc X scope t c e tg elt ifs) (hs : notSetE iter = true) :
    PS X (.Assign [.Name x p] (.ListComp elt [⟨tg, iter, ifs, 0⟩] scope lpos) pos) (tS (cy P k X Z) E (.set (.n i) (.nl m (.lc (own.map (·.2)) t it c e)))) := by
  have ok := blk_ok g hb
  have hlc : ∀ σ H Q, tE (cy P k X Z) (wE E) (.nl m (.lc (own.map (·.2)) t it c e)) σ H Q → tLc (tI (cy P k X Z) (wE E) it) (fun v σ H Q => ∃ Z, tG (cy P k X Z) t v σ H Q) (fun σ H Q => ∃ Z, tC (cy P k X Z) WF c σ H Q) (fun σ H Q => ∃ Z, tE (cy P k X Z) WF e σ H Q) (own.map (·.2)) σ H Q := fun σ H Q h => by
    obtain ⟨F, S, r, st, en, po⟩ := h
    simp only [ev] at po
    exact lc_wp ht ⟨F, S, r, st, en, Post.ofN po⟩
  refine s_set (ps_setLc g.calm (by rw [g.hN]; exact g.nd) (by rw [g.hN]; exact hi) (by rw [g.sc]; exact hl) (by rw [sw_ok g, hw]) hit ok (fun s H C cl fp => ?_) (fun s H C cl fp => ?_) (fun s H C cl fp => ?_) (folded_of hs X.env)) hlc
  · exact PG.exZ fun z => g_tg (Z := z) (g.blk ok.kind s H C cl fp) t hp.pg
  · exact PTs.exZ fun z => hp.pt _ z (g.blk ok.kind s H C cl fp) takesF
  · exact PE.exZ fun z => hp.pe _ z (g.blk ok.kind s H C cl fp) takesF
theorem s_setL2 (g : Good P k N sc so X) {i : Nat} {x : Str} {p : Pos} {m : Bool} {own : List (Str × Nat)} {own2 : List Nat} {t t2 : Tg} {it it2 : DI.It} {c c2 : OEx} {e : Ex} {tg iter tg1 iter1 elt : Expr} {ifs ifs1 : List Expr} {scope : Scope} {lpos : Pos} (hi : N[i]? = some x) (hl : sc.lookup x = some .local)
    (hw : swB sc (.ListComp elt [⟨tg, iter, ifs, 0⟩, ⟨tg1, iter1, ifs1, 0⟩] scope lpos) x p = true) (hb : blkB N sc scope own = true) (ht : tgIn (own.map (·.2)) t = true)
    (hit : PI X tg iter (tI (cy P k X Z) (wE E) it)) (hp : BlkPs P k N sc X scope t c e tg elt ifs) (hs : notSetE iter = true) (h2 : BlkP2 P k N sc scope (own.map (·.2)) own2 t2 it2 c2 tg1 iter1 ifs1) :
    PS X (.Assign [.Name x p] (.ListComp elt [⟨tg, iter, ifs, 0⟩, ⟨tg1, iter1, ifs1, 0⟩] scope lpos) pos) (tS (cy P k X Z) E (.set (.n i) (.nl m (.lc2 (own.map (·.2)) t it c own2 t2 it2 c2 e)))) := by
  have ok := blk_ok g hb
  refine s_set (ps_setLc2 (vs1 := own2) g.calm (by rw [g.hN]; exact g.nd) (by rw [g.hN]; exact hi) (by rw [g.sc]; exact hl) (by rw [sw_ok g, hw]) hit ok h2.sub (fun s H C cl fp => ?_) (fun s H C cl fp => ?_) (fun s H C cl fp => ?_) (fun s H C cl fp => ?_) (fun s H C cl fp => ?_) (fun s H C cl fp => ?_) (folded_of hs X.env) (folded_of h2.hs))
    (te := tLc2 (tI (cy P k X Z) (wE E) it) (fun v σ H Q => ∃ Z, tG (cy P k X Z) t v σ H Q) (fun σ H Q => ∃ Z, tC (cy P k X Z) WF c σ H Q) (fun σ H Q => ∃ Z, tI (cy P k X Z) WF it2 σ H Q) (fun v σ H Q => ∃ Z, tG (cy P k X Z) t2 v σ H Q) (fun σ H Q => ∃ Z, tC (cy P k X Z) WF c2 σ H Q) (fun σ H Q => ∃ Z, tE (cy P k X Z) WF e σ H Q) (own.map (·.2)) own2) fun σ H Q h => ?_
  · exact PG.exZ fun z => g_tg (Z := z) (g.blk ok.kind s H C cl fp) t hp.pg
  · exact PTs.exZ fun z => hp.pt _ z (g.blk ok.kind s H C cl fp) takesF
  · exact PI.exZ fun z => h2.pi _ z (g.blk ok.kind s H C cl fp) takesF
  · exact PG.exZ fun z => g_tg (Z := z) (g.blk ok.kind s H C cl fp) t2 h2.pg
  · exact PTs.exZ fun z => h2.pt _ z (g.blk ok.kind s H C cl fp) takesF
  · exact PE.exZ fun z => hp.pe _ z (g.blk ok.kind s H C cl fp) takesF
  · obtain ⟨F, S, r, st, en, po⟩ := h
    simp only [ev] at po
    exact lc2_wp ht h2.ht ⟨F, S, r, st, en, Post.ofN po⟩
def isTup : Expr → Bool
  | .Tuple _ _ _ => true
  | _ => false
theorem swp_no {ts v : Expr} (h : isTup v = false) : swappedStores [ts] v X.env = pure none := by
  cases ts <;> cases v <;> first
    | rfl
    | (simp [isTup] at h)
/-- (a, b, ..) = e -/
theorem s_setT (g : Good P k N sc so X) {ts : List Tg} {e : Ex} {ea : Expr} {es : List Expr} {j : Nat} {p : Pos} (ht : chkT N so (.t ts) (.Tuple es j p) = true) (hw : swappedStores [.Tuple es j p] ea X.env = pure none) (ha : PE X ea (tE (cy P k X Z) (wE E) e)) :
    PS X (.Assign [.Tuple es j p] ea pos) (tS (cy P k X Z) E (.set (.t ts) e)) := by
  refine PS.weak (ps_asg ha (g_tg (P := P) (Z := Z) g (.t ts) ht) (by show swapsWith ea (some (.Tuple es j p)) pos.line X.env = pure false; exact sw_other ea _ _ fun _ _ z => Expr.noConfusion z) hw) fun D σ H ⟨F, S, r, st, en, po⟩ => ?_
  simp only [exe] at po
  refine ⟨F, S, r, st, en, (po.bind (RA := (cy P k X Z).R)).mono fun x H1 ⟨F1, v, S1, k1, s1, r1, po1⟩ => ?_⟩
  cases e1 : setT (.t ts) v r S1 with
  | none => rw [e1] at po1; exact po1.bad.elim
  | some r' =>
    rw [e1] at po1
    exact ⟨F1, S1, r, v, r', s1, en.keep k1.toKp, r1, e1, fun σ' en' _ => Post.nx po1 s1 en'⟩
/-- the swapped stores of a pair, of a triple -/
def swpC (sc : List (Str × NameKind)) (ts vs : List Expr) : Option (Option (List Str)) :=
  if (!(ts.length == 2 || ts.length == 3) || vs.length != ts.length) = true then some none
  else if (vs.any fun | .Starred .. => true | _ => false) = true then some none
  else
    let line := (ts.head?.map (·.pos.line)).getD 0
    let names := ts.filterMap fun
      | .Name id pos => if sc.lookup id == some .local && pos.line == line then some id else none
      | _ => none
    if (names.length != ts.length || names.eraseDups.length != names.length) = true then some none
    else if vs.all (foldedForSure 8) = true then some none
    else if vs.all (constantsAlone 8) = true then none
    else some (some names)
theorem swp_ok (g : Good P k N sc so X) {ts vs : List Expr} {a b : Nat} {p q : Pos} {o : Option (List Str)} (h : swpC sc ts vs = some o) : swappedStores [.Tuple ts a p] (.Tuple vs b q) X.env = pure o := by
  have hk := g.blockKind
  have hl : ∀ x, X.env.kindOf x = sc.lookup x := fun x => by rw [← g.sc]; rfl
  unfold swpC at h
  unfold swappedStores
  simp only [hk, hl]
  split at h
  · rename_i h1
    cases h
    have h1' : (!(ts.length == 2 || ts.length == 3) || vs.length != ts.length || (ScopeKind.function : ScopeKind) != .function) = true := by rw [h1]; rfl
    rw [if_pos h1']
  · rename_i h1
    have h1' : ¬ (!(ts.length == 2 || ts.length == 3) || vs.length != ts.length || (ScopeKind.function : ScopeKind) != .function) = true := by
      intro z
      apply h1
      simpa using z
    rw [if_neg h1']
    split at h
    · rename_i h2
      cases h
      refine (if_pos ?_).trans rfl
      exact h2
    · rename_i h2
      refine (if_neg ?_).trans ?_
      · exact h2
      dsimp only at h
      split at h
      · rename_i h3
        cases h
        refine (if_pos ?_).trans rfl
        exact h3
      · rename_i h3
        refine (if_neg ?_).trans ?_
        · exact h3
        split at h
        · rename_i h4
          cases h
          refine (if_pos ?_).trans rfl
          exact h4
        · rename_i h4
          refine (if_neg ?_).trans ?_
          · exact h4
          split at h
          · cases h
          · rename_i h5
            cases h
            refine (if_neg ?_).trans rfl
            exact h5
end
end DI
/-! DI12: statements, further: stores in pairs, items, loops. -/
namespace DI
open PySem PySem.Spec PyProof.Rows L2 RZ
section
variable {P : Pg} {k : Nat} {N : List Str} {sc : List (Str × NameKind)} {so : List Str} {X : Cx} {Z : Addr → Prop} {E : WK} {pos : Pos}
theorem s_par2 (g : Good P k N sc so X) {i j : Nat} {x z : Str} {es : Exs} {ea eb : Expr} {px pz pt p2 : Pos} {kt k2 : Nat} (hi : N[i]? = some x) (hj : N[j]? = some z) (hij : i ≠ j) (lx : sc.lookup x = some .local) (lz : sc.lookup z = some .local)
    (hs : PA X [ea, eb] (tAs (cy P k X Z) (wE E) es)) (hw : swpC sc [.Name x px, .Name z pz] [ea, eb] = some (some [x, z])) :
    PS X (.Assign [.Tuple [.Name x px, .Name z pz] kt pt] (.Tuple [ea, eb] k2 p2) pos) (tS (cy P k X Z) E (.par [i, j] es)) := by
  refine PS.weak (ps_par g.calm (by rw [g.hN]; exact g.nd) (by rw [g.hN]; exact hi) (by rw [g.hN]; exact hj) hij (by rw [g.sc]; exact lx) (by rw [g.sc]; exact lz) hs (swp_ok g hw)) fun D σ H ⟨F, S, r, st, en, po⟩ => ?_
  simp only [exe] at po
  refine ⟨F, S, r, st, en, (po.bind (RA := (cy P k X Z).RL)).mono fun vs H1 ⟨F1, xs, S1, k1, s1, r1, po1⟩ => ?_⟩
  match xs, r1, po1 with
  | [a, b], r1, po1 =>
    obtain ⟨u, w, rfl, ru, rw'⟩ := RL.two r1
    simp only [setAll] at po1
    exact ⟨u, w, rfl, Post.nx po1 s1 (((en.keep k1.toKp).set ru).set rw')⟩
  | [], _, po1 => exact (show False by simpa [setAll, Post] using po1).elim
  | [_], _, po1 => exact (show False by simpa [setAll, Post] using po1).elim
  | _ :: _ :: _ :: _, _, po1 => exact (show False by simpa [setAll, Post] using po1).elim
theorem s_par3 (g : Good P k N sc so X) {i j l : Nat} {x z w : Str} {es : Exs} {ea eb ec : Expr} {px pz pw pt p2 : Pos} {kt k2 : Nat} (hi : N[i]? = some x) (hj : N[j]? = some z) (hl : N[l]? = some w) (hij : i ≠ j) (hil : i ≠ l) (hjl : j ≠ l)
    (lx : sc.lookup x = some .local) (lz : sc.lookup z = some .local) (lw : sc.lookup w = some .local) (hs : PA X [ea, eb, ec] (tAs (cy P k X Z) (wE E) es)) (hw : swpC sc [.Name x px, .Name z pz, .Name w pw] [ea, eb, ec] = some (some [x, z, w])) :
    PS X (.Assign [.Tuple [.Name x px, .Name z pz, .Name w pw] kt pt] (.Tuple [ea, eb, ec] k2 p2) pos) (tS (cy P k X Z) E (.par [i, j, l] es)) := by
  refine PS.weak (ps_par3 g.calm (by rw [g.hN]; exact g.nd) (by rw [g.hN]; exact hi) (by rw [g.hN]; exact hj) (by rw [g.hN]; exact hl) hij hil hjl (by rw [g.sc]; exact lx) (by rw [g.sc]; exact lz) (by rw [g.sc]; exact lw) hs (swp_ok g hw)) fun D σ H ⟨F, S, r, st, en, po⟩ => ?_
  simp only [exe] at po
  refine ⟨F, S, r, st, en, (po.bind (RA := (cy P k X Z).RL)).mono fun vs H1 ⟨F1, xs, S1, k1, s1, r1, po1⟩ => ?_⟩
  match xs, r1, po1 with
  | [a, b, c], r1, po1 =>
    obtain ⟨u, w, t, rfl, ru, rw', rt⟩ := RL.three r1
    simp only [setAll] at po1
    exact ⟨u, w, t, rfl, Post.nx po1 s1 ((((en.keep k1.toKp).set ru).set rw').set rt)⟩
  | [], _, po1 => exact (show False by simpa [setAll, Post] using po1).elim
  | [_], _, po1 => exact (show False by simpa [setAll, Post] using po1).elim
  | [_, _], _, po1 => exact (show False by simpa [setAll, Post] using po1).elim
  | _ :: _ :: _ :: _ :: _, _, po1 => exact (show False by simpa [setAll, Post] using po1).elim
theorem s_ex {e : Ex} {ea : Expr} (hc : isComp ea = none) (ha : PE X ea (tE (cy P k X Z) (wE E) e)) : PS X (.Expr ea pos) (tS (cy P k X Z) E (.ex e)) := by
  refine PS.weak (ps_expr ha (by cases ea <;> first | rfl | (simp [isComp] at hc))) fun D σ H ⟨F, S, r, st, en, po⟩ => ?_
  simp only [exe] at po
  refine ⟨F, S, r, st, en, (po.bind (RA := (cy P k X Z).R)).mono fun x H1 ⟨F1, v, S1, k1, s1, r1, po1⟩ => ?_⟩
  exact Post.nx po1 s1 (en.keep k1.toKp)
theorem s_doc {x : Const} {s : Str} {j : Nat} {p : Pos} (h : x = .str s) : PS X (.Expr (.Constant x j p) pos) (tS (cy P k X Z) E .pass) := by
  subst h
  exact PS.weak ps_doc fun D σ H ⟨F, S, r, st, en, po⟩ => by
    simp only [exe] at po
    exact Post.nx po st en
/-! ### items stored -/
def rSt (y : Cy) : TSet := fun o i v H Q => ∃ F S a b c, y.St F S H ∧ y.R F H a o ∧ y.R F H b i ∧ y.R F H c v ∧ Post y F H (opSetS a b c S) (fun _ _ _ (_ : Unit) => True) WT fun _ H' => Q H'
theorem setS_ok {y : Cy} : PSet X (rSt y) := by
  intro pins s σ H o i v ov iv u Q I ro ri rv h
  obtain ⟨F, S, a, b, c, st, ra, rb, rc, po⟩ := h
  cases a with
  | loc n =>
    cases b with
    | int j =>
      simp only [opSetS] at po
      cases e : S[n]? with
      | none => rw [e] at po; exact po.bad.elim
      | some ob =>
        rw [e] at po
        cases ob with
        | lst xs =>
          obtain ⟨p, us, h1, h2, rl⟩ := StOk.lst st e
          have eo : o = .ref p := ra.loc_ref h1
          have ei : i = .int j := rb.of_int
          have l := RL.length rl
          have fin : ∀ q : Nat, ixN us.length j = some q → Post y F H (.ok () (S.set n (.lst (xs.set q c)))) (fun _ _ _ (_ : Unit) => True) WT (fun _ H' => Q H') → wpAny (model X.prog X.w) X.A (setItem ov iv u) (fun _ s' => ∃ H', Inv X pins σ H' s' ∧ Q H') X.xe s := fun q hq po => by
            refine set_list pins s σ H o i v ov iv u Q I ro ri rv ⟨p, us, j, q, eo, ei, h2, hq, ?_⟩
            have kd := Keep.mut (us' := us.set q v) st h1 h2
            exact po F _ () kd (StOk.mut st h1 h2 (rl.set q rc)) trivial
          dsimp only at po
          split at po
          · rename_i h0
            split at po
            · rename_i hl
              exact fin j.toNat (by unfold ixN; rw [if_pos h0, if_pos (by omega)]) po
            · exact po.bad.elim
          · rename_i h0
            split at po
            · rename_i hl
              exact fin (j + xs.length).toNat (by unfold ixN; rw [if_neg h0, ← l, if_pos (by omega)]) po
            · exact po.bad.elim
        | _ => exact po.bad.elim
    | _ => exact po.bad.elim
  | _ => exact po.bad.elim
theorem sub_assign {o i : Expr} {p : Pos} {env : Env} (h : notSlice i = true) (v : Value) : assign (.Subscript o i p) env v = (do
      let ov ← holding [v] (eval o env)
      let iv ← holding [v, ov] (eval i env)
      standAt p
      holding [v, ov, iv] (setItem ov iv v)
      release [v, ov, iv] []) := by
  cases i <;> first
    | rfl
    | (simp [notSlice] at h)
theorem s_setS {a i e : Ex} {ea ei ee : Expr} {p : Pos} (ha : PE X ea (tE (cy P k X Z) (wE E) a)) (hi : PE X ei (tE (cy P k X Z) (wE E) i)) (he : PE X ee (tE (cy P k X Z) (wE E) e)) (hn : notSlice ei = true) :
    PS X (.Assign [.Subscript ea ei p] ee pos) (tS (cy P k X Z) E (.setS a i e)) := by
  refine PS.weak (ps_asg he (pg_sub ha hi (setS_ok (y := cy P k X Z)) (sub_assign hn)) (by show swapsWith ee (some (.Subscript ea ei p)) pos.line X.env = pure false; exact sw_other ee _ _ fun _ _ z => Expr.noConfusion z) (by cases ee <;> rfl)) fun D σ H ⟨F, S, r, st, en, po⟩ => ?_
  simp only [exe] at po
  refine ⟨F, S, r, st, en, (po.bind (RA := (cy P k X Z).R)).mono fun x H1 ⟨F1, v, S1, k1, s1, r1, po1⟩ => ?_⟩
  refine ⟨F1, S1, r, s1, en.keep k1.toKp, (po1.bind (RA := (cy P k X Z).R)).mono fun o H2 ⟨F2, w, S2, k2, s2, r2, po2⟩ => ?_⟩
  refine ⟨F2, S2, r, s2, (en.keep k1.toKp).keep k2.toKp, (po2.bind (RA := (cy P k X Z).R)).mono fun q H3 ⟨F3, t, S3, k3, s3, r3, po3⟩ => ?_⟩
  refine ⟨F3, S3, w, t, v, s3, R.keep k3.toKp r2, r3, R.keep (k2.trans k3).toKp r1, ((po3.bind (RA := fun _ _ _ (_ : Unit) => True)).mono fun _ H4 ⟨F4, _, S4, k4, s4, _, po4⟩ => ?_).wish fun _ _ _ _ => trivial⟩
  exact Post.nx po4 s4 (((en.keep k1.toKp).keep (k2.trans k3).toKp).keep k4.toKp)
/-! ### op= -/
def augOk : BOp → Bool
  | .add => true
  | .sub => true
  | _ => false
theorem ip_ok {y : Cy} {o : BOp} (h : augOk o = true) : PIp X o.py (fun x z H Q => ∃ F S i j, y.St F S H ∧ x = .int i ∧ z = .int j ∧ Post y F H (binop o (.int i) (.int j) S) y.R WT Q) := by
  intro pins s σ H x z v u Q I rx rz hq
  obtain ⟨F, S, i, j, st, rfl, rfl, po⟩ := hq
  cases o with
  | add => exact ip_add pins s σ H _ _ v u Q I rx rz ⟨i, j, rfl, rfl, Post.int po st⟩
  | sub => exact ip_sub pins s σ H _ _ v u Q I rx rz ⟨i, j, rfl, rfl, Post.int po st⟩
  | _ => simp [augOk] at h
theorem s_aug (g : Good P k N sc so X) {i : Nat} {x : Str} {o : BOp} {e : Ex} {ea : Expr} {p : Pos} (hi : N[i]? = some x) (hs : so.contains x = true) (ho : augOk o = true) (ha : PE X ea (tE (cy P k X Z) (wE E) e)) : PS X (.AugAssign (.Name x p) o.py ea pos) (tS (cy P k X Z) E (.aug i o e)) := by
  obtain ⟨l, f⟩ := g.sto x hs
  refine PS.weak (ps_aug (by rw [g.hN]; exact g.nd) (by rw [g.hN]; exact hi) l ha (ip_ok (y := cy P k X Z) ho) f) fun D σ H ⟨F, S, r, st, en, po⟩ => ?_
  simp only [exe] at po
  split at po
  · rename_i v ev0
    obtain ⟨u, e1, ru⟩ := en.2 i v ev0
    refine ⟨u, e1, F, S, r, st, en, (po.bind (RA := (cy P k X Z).R)).mono fun z H1 ⟨F1, w, S1, k1, s1, r1, po1⟩ => ?_⟩
    cases v with
    | int a =>
      obtain rfl := R.of_int ru
      cases w with
      | int b =>
        obtain rfl := R.of_int r1
        refine ⟨F1, S1, a, b, s1, rfl, rfl, ((po1.bind (RA := (cy P k X Z).R)).mono fun q H2 ⟨F2, t, S2, k2, s2, r2, po2⟩ => ?_).wish fun _ _ _ _ => trivial⟩
        exact Post.nx po2 s2 ((en.keep (k1.trans k2).toKp).set r2)
      | _ => exact po1.bad.elim
    | _ => exact po1.bad.elim
  · exact po.bad.elim
def rGet (y : Cy) : V → V → Hp → VK → Prop := fun o i H Q => ∃ F S n b, y.St F S H ∧ y.R F H (.loc n) o ∧ y.R F H b i ∧ Post y F H (opIdx (.loc n) b S) y.R WT Q
theorem get_ok {y : Cy} (hK : y.K = X.K) : PGet X (rGet y) := by
  intro pins s σ H o i ov iv Q I ro ri h
  obtain ⟨F, S, n, b, st, ra, rb, po⟩ := h
  cases b with
  | int j =>
    obtain rfl := rb.of_int
    simp only [opIdx] at po
    cases e : items S (.loc n) with
    | none => rw [e] at po; exact po.bad.elim
    | some xs =>
      rw [e] at po
      dsimp only at po
      cases e2 : ixAt xs j with
      | none => rw [e2] at po; exact po.bad.elim
      | some w =>
        rw [e2] at po
        obtain ⟨p, us, rfl, rl, sq⟩ := items_R st ra e
        obtain ⟨t, ht, rt⟩ := RL.atI rl e2
        rw [hK] at sq
        have sq : SqL X.K H p us := by
          rcases sq with ⟨sq, _⟩ | ⟨_, z⟩
          · exact sq
          · cases z
        obtain rfl : ov = .ref p := ro
        obtain ⟨tk, rfl⟩ := ri
        obtain ⟨its, rv, pl, hz⟩ := I.list sq
        obtain ⟨q, h1, h2, h3, h4, h5⟩ := atI_get ht
        obtain ⟨w2, ew, rw'⟩ := rv.get h2
        have hl := rv.length
        have hn := line63
        have fin : EP X pins σ Q w2 s := ⟨t, H, I, rw', po.ok st rt⟩
        by_cases h0 : 0 ≤ j
        · have hj : j.toNat = q := by
            rw [seqIndex_of h0 h5] at h1
            exact Option.some.inj h1
          exact wpAny_getItem_list pl.isList h0 (by omega) (by rw [hj]; simpa using ew) fin
        · have hj : (j + (its.toArray.size : Int)).toNat = q := by
            rw [seqIndex_neg (by omega) h4] at h1
            rw [List.size_toArray, ← hl]
            exact Option.some.inj h1
          exact wpAny_getItem_list_neg pl.isList (by omega) (by rw [List.size_toArray] <;> omega) (by omega) (by rw [hj]; simpa using ew) fin
  | _ => exact po.bad.elim
theorem s_augS {a i e : Ex} {o : BOp} {ea ei ee : Expr} {p : Pos} (ha : PE X ea (tE (cy P k X Z) (wE E) a)) (hi : PE X ei (tE (cy P k X Z) (wE E) i)) (he : PE X ee (tE (cy P k X Z) (wE E) e)) (ho : augOk o = true) (hn : notSlice ei = true) :
    PS X (.AugAssign (.Subscript ea ei p) o.py ee pos) (tS (cy P k X Z) E (.augS a i o e)) := by
  refine PS.weak (ps_augS ha hi (get_ok (y := cy P k X Z) rfl) he (ip_ok (y := cy P k X Z) ho) (setS_ok (y := cy P k X Z)) (by intro ov iv new; cases ei <;> first | rfl | (simp [notSlice] at hn))) fun D σ H ⟨F, S, r, st, en, po⟩ => ?_
  simp only [exe] at po
  refine ⟨F, S, r, st, en, (po.bind (RA := (cy P k X Z).R)).mono fun x H1 ⟨F1, v, S1, k1, s1, r1, po1⟩ => ?_⟩
  cases v with
  | loc n =>
    refine ⟨F1, S1, r, s1, en.keep k1.toKp, (po1.bind (RA := (cy P k X Z).R)).mono fun q H2 ⟨F2, w, S2, k2, s2, r2, po2⟩ => ?_⟩
    refine ⟨F2, S2, n, w, s2, R.keep k2.toKp r1, r2, ((po2.bind (RA := (cy P k X Z).R)).mono fun old H3 ⟨F3, t, S3, k3, s3, r3, po3⟩ => ?_).wish fun _ _ _ _ => trivial⟩
    refine ⟨F3, S3, r, s3, en.keep (k1.trans (k2.trans k3)).toKp, (po3.bind (RA := (cy P k X Z).R)).mono fun z H4 ⟨F4, u, S4, k4, s4, r4, po4⟩ => ?_⟩
    cases t with
    | int pv =>
      obtain rfl := R.of_int r3
      cases u with
      | int qv =>
        obtain rfl := R.of_int r4
        refine ⟨F4, S4, pv, qv, s4, rfl, rfl, ((po4.bind (RA := (cy P k X Z).R)).mono fun nw H5 ⟨F5, t5, S5, k5, s5, r5, po5⟩ => ?_).wish fun _ _ _ _ => trivial⟩
        refine ⟨F5, S5, .loc n, w, t5, s5, R.keep (k2.trans (k3.trans (k4.trans k5))).toKp r1, R.keep (k3.trans (k4.trans k5)).toKp r2, r5, ((po5.bind (RA := fun _ _ _ (_ : Unit) => True)).mono fun _ H6 ⟨F6, _, S6, k6, s6, _, po6⟩ => ?_).wish fun _ _ _ _ => trivial⟩
        exact Post.nx po6 s6 (en.keep (k1.trans (k2.trans (k3.trans (k4.trans (k5.trans k6))))).toKp)
      | _ => exact po4.bad.elim
    | _ => exact po4.bad.elim
  | _ => exact po1.bad.elim
/-! ### loops -/
theorem s_whl (hp : PassesOwn (model X.prog X.w) X.A X.env X.xe) {c : Ex} {b : Sms} {ec : Expr} {sb : List Stmt} (hc : PT X ec (tTe (cy P k X Z) (wE E) c)) (hb : PSs X sb (tSs (cy P k X Z) E b)) : PS X (.While ec sb [] pos) (tS (cy P k X Z) E (.whl c b)) := by
  refine PS.weak (ps_while hp hc hb) fun D σ H ⟨F, S, r, st, en, po⟩ => ?_
  simp only [exe] at po
  refine ⟨fun m σ H => ∃ F S r, (cy P k X Z).St F S H ∧ (cy P k X Z).En F H r σ ∧ Post (cy P k X Z) F H (whlL (fun r1 S1 => (ev P (run P k) c r1 S1).bind tru) (fun r1 S1 => exes P (run P k) b r1 S1) m r S) (rF (cy P k X Z)) E (atE D), ⟨P.wf, F, S, r, st, en, po⟩, ?_⟩
  rintro m σ1 H1 ⟨F1, S1, r1, s1, en1, po1⟩
  cases m with
  | zero => exact po1.bad.elim
  | succ m =>
    simp only [whlL] at po1
    refine ⟨F1, S1, r1, s1, en1, (po1.bind (RA := eqA)).mono fun kb H2 ⟨F2, v, S2, k2, s2, e2, po2⟩ => ?_⟩
    have e2 : v = kb := e2
    subst e2
    cases v with
    | false =>
      simp only [Bool.false_eq_true, if_false] at po2 ⊢
      exact Post.nx po2 s2 (en1.keep k2.toKp)
    | true =>
      simp only [if_true] at po2 ⊢
      refine ⟨_, fun σ' H' h => ⟨m, Nat.lt_succ_self m, h⟩, F2, S2, r1, s2, en1.keep k2.toKp, (po2.bind (RA := rF (cy P k X Z))).mono fun q H3 ⟨F3, a3, S3, k3, s3, r3, po3⟩ => ?_⟩
      obtain ⟨fl, r3'⟩ := a3
      obtain ⟨fv, σ3⟩ := q
      obtain ⟨en3, rf⟩ := r3
      cases fl <;> cases fv <;> first
        | exact rf.elim
        | skip
      · exact ⟨F3, S3, r3', s3, en3, po3⟩
      · exact Post.rt (D := D) (show Post _ _ _ (Out.ok (Fl.rt _, r3') S3) _ _ _ from po3) s3 en3 rf
      · exact Post.nx (D := D) (show Post _ _ _ (Out.ok (Fl.nx, r3') S3) _ _ _ from po3) s3 en3
      · exact ⟨F3, S3, r3', s3, en3, po3⟩
theorem s_fr (g : Good P k N sc so X) (hp : PassesOwn (model X.prog X.w) X.A X.env X.xe) {t : Tg} {it : DI.It} {b : Sms} {tg iter : Expr} {sb : List Stmt} (ht : chkT N so t tg = true) (hi : PI X tg iter (tI (cy P k X Z) (wE E) it)) (hb : PSs X sb (tSs (cy P k X Z) E b)) (hs : notSetE iter = true) :
    PS X (.For tg iter sb [] pos) (tS (cy P k X Z) E (.fr t it b)) := by
  refine PS.weak (ps_for hp g.calm hi (g_tg (Z := Z) (P := P) g t ht) hb (folded_of hs X.env)) fun D σ H ⟨F, S, r, st, en, po⟩ => ?_
  simp only [exe] at po
  refine ⟨F, S, r, st, en, (po.bind (RA := Src X.K Z)).mono fun J H1 ⟨F1, xs, S1, k1, s1, src, po1⟩ => ?_⟩
  generalize hbody : (fun x r1 S2 => match setT t x r1 S2 with
    | some r2 => exes (cy P k X Z).P (cy P k X Z).C b r2 S2
    | none => Out.bad) = body at po1
  refine ⟨fun i m σ H => m = xs.length - i ∧ i ≤ xs.length ∧ ∃ F S r, (cy P k X Z).St F S H ∧ (cy P k X Z).En F H r σ ∧ Src X.K Z F H xs J ∧ Post (cy P k X Z) F H (forL body (xs.drop i) r S) (rF (cy P k X Z)) E (atE D), ⟨xs.length, by simp, Nat.zero_le _, F1, S1, r, s1, en.keep k1.toKp, src, po1⟩, ?_⟩
  rintro i m σ2 H2 ⟨rfl, hi2, F2, S2, r2, s2, en2, src2, po2⟩
  by_cases hlt : i < xs.length
  · refine .inr ⟨src2.go hlt, _, fun σ' H' h => ⟨xs.length - (i + 1), by omega, h⟩, fun v H3 yl => ?_⟩
    have hx : xs[i]? = some xs[i] := by simp [hlt]
    rw [List.drop_eq_getElem_cons hlt] at po2
    generalize xs[i] = x at hx po2
    obtain ⟨rv, k3, s3⟩ := src2.yld s2 hx yl
    simp only [forL] at po2
    cases e1 : setT t x r2 S2 with
    | none =>
      have e2 : body x r2 S2 = .bad := by rw [← hbody]; simp only [e1]
      rw [e2] at po2
      exact po2.bad.elim
    | some r4 =>
      have e2 : body x r2 S2 = exes P (run P k) b r4 S2 := by rw [← hbody]; simp only [e1]; rfl
      rw [e2] at po2
      refine ⟨F2, S2, r2, x, r4, s3, en2.keep k3.toKp, rv, e1, fun σ4 en4 _ => ?_⟩
      refine ⟨F2, S2, r4, s3, en4, ((Post.keep k3 po2).bind (RA := rF (cy P k X Z))).mono fun q H5 ⟨F5, a5, S5, k5, s5, r5, po5⟩ => ?_⟩
      have src5 : Src X.K Z F5 H5 xs J := (src2.keep k3.toKp).keep k5.toKp
      obtain ⟨fl, r5'⟩ := a5
      obtain ⟨fv, σ5⟩ := q
      obtain ⟨en5, rf⟩ := r5
      cases fl <;> cases fv <;> first
        | exact rf.elim
        | skip
      · exact ⟨rfl, hlt, F5, S5, r5', s5, en5, src5, po5⟩
      · exact Post.rt (D := D) (show Post _ _ _ (Out.ok (Fl.rt _, r5') S5) _ _ _ from po5) s5 en5 rf
      · exact Post.nx (D := D) (show Post _ _ _ (Out.ok (Fl.nx, r5') S5) _ _ _ from po5) s5 en5
      · exact ⟨rfl, hlt, F5, S5, r5', s5, en5, src5, po5⟩
  · have e : i = xs.length := by omega
    subst e
    rw [List.drop_length] at po2
    simp only [forL] at po2
    exact .inl ⟨src2.stop, Post.nx po2 s2 en2⟩
/-! ### a list that changes no more -/
theorem ss_fz {i : Nat} {t : Sms} {b : List Stmt} (hb : PSs X b (tSs (cy P k X Z) E t)) : PSs X b (tSs (cy P k X Z) E (.cons (.fz i) t)) := by
  refine PSs.weak hb fun D σ H ⟨F, S, r, st, en, po⟩ => ?_
  simp only [exes, exe] at po
  cases e : r[i]? with
  | none => rw [e] at po; exact po.bad.elim
  | some ov =>
    rw [e] at po
    cases ov with
    | none => exact po.bad.elim
    | some v =>
      cases v with
      | loc n =>
        dsimp only at po
        cases e2 : S[n]? with
        | none => rw [e2] at po; exact po.bad.elim
        | some ob =>
          rw [e2] at po
          cases ob with
          | lst xs =>
            have po : Post (cy P k X Z) F H (exes P (run P k) t (r.set i (some (.lst xs))) (S.set n .dead)) (rF (cy P k X Z)) E (atE D) := po
            obtain ⟨p, us, h1, h2, rl⟩ := StOk.lst st e2
            have kd := Keep.die (Z := Z) F H n
            have rx : R X.K Z (F.set n none) H (.lst xs) (.ref p) := by
              simp only [R]
              refine ⟨p, us, rfl, h2, ?_, rl.keep kd.toKp⟩
              rintro (m | m)
              · obtain ⟨j, hj⟩ := List.mem_iff_getElem?.mp m
                by_cases e : n = j
                · subst e
                  rw [List.getElem?_set_self (List.getElem?_eq_some_iff.mp h1).1] at hj
                  cases hj
                · rw [List.getElem?_set_ne e] at hj
                  exact e (st.inj n j p h1 hj)
              · exact st.zl p m (List.mem_of_getElem? h1)
            have en2 := en.keep kd.toKp
            obtain ⟨u, eu, ru⟩ := en.2 i _ e
            have eu2 : u = .ref p := R.loc_ref ru h1
            subst eu2
            refine ⟨F.set n none, S.set n .dead, r.set i (some (.lst xs)), st.die n, ?_, Post.keep kd po⟩
            refine ⟨by simpa using en2.1, fun j x hj => ?_⟩
            by_cases hij : i = j
            · subst hij
              rw [List.getElem?_set_self (List.getElem?_eq_some_iff.mp e).1] at hj
              have : Val.lst xs = x := by simpa using hj
              subst this
              exact ⟨.ref p, eu, rx⟩
            · rw [List.getElem?_set_ne hij] at hj
              exact en2.2 j x hj
          | _ => exact po.bad.elim
      | _ => exact po.bad.elim
end
end DI
/-! DI13: the look that ties a text to the language, and that it is right: expressions. -/
namespace DI
open PySem PySem.Spec PyProof.Rows L2 RZ
def ownP (N : List Str) (own : List Nat) : List (Str × Nat) := own.map fun i => (N.getD i default, i)
theorem ownP_snd (N : List Str) (own : List Nat) : (ownP N own).map (·.2) = own := by
  unfold ownP
  rw [List.map_map]
  exact List.map_id own
def tyArg (sc : List (Str × NameKind)) (ts : List Ty) : Expr → Bool
  | .Name x _ => (match ts with
    | [t] => x == t.nm && gloB sc t.nm
    | _ => false)
  | .Tuple es _ _ => tyNames es ts && (ts.all (fun t => gloB sc t.nm) && decide (ts.length ≤ mx))
  | _ => false
def isCall1 (x : Str) : Expr → Option Expr
  | .Call (.Name z _) [a] [] _ => if z = x ∧ notStar a = true then some a else none
  | _ => none
theorem isCall1_eq {x : Str} {p a : Expr} (h : isCall1 x p = some a) : ∃ q pos, p = .Call (.Name x q) [a] [] pos ∧ notStar a = true := by
  unfold isCall1 at h
  split at h
  · split at h
    · rename_i c
      obtain ⟨rfl, c⟩ := c
      cases h
      exact ⟨_, _, rfl, c⟩
    · cases h
  · cases h
def plainT : Expr → Bool
  | .UnaryOp .Not _ _ => false
  | .BoolOp _ _ _ => false
  | .IfExp _ _ _ _ => false
  | .Compare _ _ _ _ => false
  | _ => true
mutual
def chkE (P : Pg) (N : List Str) : List (Str × NameKind) → Ex → Expr → Bool
  | sc, .var i, p => (match p with
    | .Name x _ => N[i]? == some x && visB sc x
    | _ => false)
  | _, .int i, p => (match p with
    | .Constant (.int j) _ _ => i == j
    | _ => false)
  | _, .bl b, p => (match p with
    | .Constant (.bool c) _ _ => b == c
    | _ => false)
  | _, .non, p => (match p with
    | .Constant .none _ _ => true
    | _ => false)
  | _, .str s, p => (match p with
    | .Constant (.str t) _ _ => t == sv s
    | _ => false)
  | sc, .glo x, p => (match p with
    | .Name z _ => z == P.cnm x && gloB sc (P.cnm x)
    | _ => false)
  | sc, .bin o a b, p => (match p with
    | .BinOp ea op eb _ => op == o.py && (chkE P N sc a ea && chkE P N sc b eb)
    | _ => false)
  | sc, .cmp o a b, p => (match p with
    | .Compare ea [op] [eb] _ => op == o.py && (notSet eb && (chkE P N sc a ea && chkE P N sc b eb))
    | _ => false)
  | sc, .chn o o2 a b c, p => (match p with
    | .Compare ea [op, op2] [eb, ec] _ => (op == o.py && op2 == o2.py) && (notSet ec && (chkE P N sc a ea && (chkE P N sc b eb && chkE P N sc c ec)))
    | _ => false)
  | sc, .neg a, p => (match p with
    | .UnaryOp .USub ea _ => chkE P N sc a ea
    | _ => false)
  | sc, .nt a, p => (match p with
    | .UnaryOp .Not ea _ => chkE P N sc a ea
    | _ => false)
  | sc, .and a b, p => (match p with
    | .BoolOp .And (ea :: eb :: rest) pos => chkE P N sc a ea && (match rest with
      | [] => chkE P N sc b eb
      | ec :: r2 => chkE P N sc b (.BoolOp .And (eb :: ec :: r2) pos))
    | _ => false)
  | sc, .or a b, p => (match p with
    | .BoolOp .Or (ea :: eb :: rest) pos => chkE P N sc a ea && (match rest with
      | [] => chkE P N sc b eb
      | ec :: r2 => chkE P N sc b (.BoolOp .Or (eb :: ec :: r2) pos))
    | _ => false)
  | sc, .ite c a b, p => (match p with
    | .IfExp ec ea eb _ => chkE P N sc c ec && (chkE P N sc a ea && chkE P N sc b eb)
    | _ => false)
  | sc, .tup es, p => (match p with
    | .Tuple eas _ _ => chkEd P N sc es eas
    | _ => false)
  | sc, .idx a i, p => (match p with
    | .Subscript ea ei _ => notSlice ei && (chkE P N sc a ea && chkE P N sc i ei)
    | _ => false)
  | sc, .slc a lo hi, p => (match p with
    | .Subscript ea (.Slice el eh none _) _ => chkE P N sc a ea && (chkO P N sc lo el && chkO P N sc hi eh)
    | _ => false)
  | sc, .cal f es, p => (match p with
    | .Call (.Name x _) eas [] _ => x == P.fnm f && ((P.fns f).isSome && (gloB sc (P.fnm f) && chkEs P N sc es eas))
    | _ => false)
  | sc, .calk f es ks, p => (match p with
    | .Call (.Name x _) eas kws _ => x == P.fnm f && ((match P.fns f with
      | some d => kwNames d.ps kws ks && kwOk d.ps.length eas.length (kwJs ks)
      | none => false) && (gloB sc (P.fnm f) && (chkEs P N sc es eas && chkKs P N sc ks kws)))
    | _ => false)
  | sc, .bi b es, p => (match p with
    | .Call (.Name x _) eas [] _ => (match b with
      | .isi ts => (match eas with
        | [ea, et] => x == ("isinstance" : Str) && (gloB sc "isinstance" && (tyArg sc ts et && chkEs P N sc es [ea]))
        | _ => false)
      | b => (match b.py with
        | some (z, _) => x == z && (gloB sc z && (!eas.isEmpty && chkEs P N sc es eas))
        | none => false))
    | _ => false)
  | sc, .mth m o es, p => (match p with
    | .Call (.Attribute eo nm apos) [ea] [] cpos => (nm == m.py && (plainBase eo && (apos.endLine == cpos.line))) && (chkE P N sc o eo && chkEs P N sc es [ea])
    | .Call (.Attribute eo nm apos) [] [] cpos => (nm == ("pop" : Str) && (plainBase eo && (apos.endLine == cpos.line))) && (decide (m = .pop) && (chkE P N sc o eo && chkEs P N sc es []))
    | _ => false)
  | sc, .nl _ n, p => chkN P N sc n p
  | sc, .frz a, p => plainT p && chkE P N sc a p
  | sc, .tupR it, p => (match isCall1 "tuple" p with
    | some a => gloB sc "tuple" && (chkR P N sc it a || chkR3 P N sc it a)
    | none => false)
  | sc, .lens a, p => (match isCall1 "len" p with
    | some q => (match isCall1 "set" q with
      | some ea => gloB sc "len" && (gloB sc "set" && chkE P N sc a ea)
      | none => false)
    | none => false)
  | sc, .bk a, p => (match p with
    | .Subscript ea (.Slice none none (some (.UnaryOp .USub (.Constant (.int c) _ _) _)) _) _ => decide (c = 1) && chkE P N sc a ea
    | _ => false)
  | sc, .minD a, p => (match p with
    | .Call (.Name x _) [ea] [⟨some nm, .Constant .none _ _, _⟩] _ => (x == ("min" : Str) && (nm == Str.ofString "default" && (gloB sc "min" && notStar ea))) && chkE P N sc a ea
    | _ => false)
def chkEd (P : Pg) (N : List Str) : List (Str × NameKind) → Exs → List Expr → Bool
  | _, .nil, ps => ps.isEmpty
  | sc, .cons e es, ps => (match ps with
    | p :: r => notStar p && (chkE P N sc e p && chkEd P N sc es r)
    | [] => false)
  | sc, .star e es, ps => (match ps with
    | .Starred p _ :: r => chkE P N sc e p && chkEd P N sc es r
    | _ => false)
def chkEs (P : Pg) (N : List Str) : List (Str × NameKind) → Exs → List Expr → Bool
  | _, .nil, ps => ps.isEmpty
  | sc, .cons e es, ps => (match ps with
    | p :: r => notStar p && (chkE P N sc e p && chkEs P N sc es r)
    | [] => false)
  | _, .star _ _, _ => false
def chkKs (P : Pg) (N : List Str) : List (Str × NameKind) → Kws → List Keyword → Bool
  | _, .nil, ps => ps.isEmpty
  | sc, .cons _ e es, ps => (match ps with
    | ⟨_, p, _⟩ :: r => chkE P N sc e p && chkKs P N sc es r
    | [] => false)
def chkO (P : Pg) (N : List Str) : List (Str × NameKind) → OEx → Option Expr → Bool
  | _, .no, p => p.isNone
  | sc, .yes e, p => (match p with
    | some q => chkE P N sc e q
    | none => false)
def chkC (P : Pg) (N : List Str) : List (Str × NameKind) → OEx → List Expr → Bool
  | _, .no, p => p.isEmpty
  | sc, .yes e, p => (match p with
    | [q] => chkE P N sc e q
    | _ => false)
def chkN (P : Pg) (N : List Str) : List (Str × NameKind) → Nl → Expr → Bool
  | sc, .disp es, p => (match p with
    | .List eas _ => chkEd P N sc es eas
    | _ => false)
  | sc, .ofs a, p => (match isCall1 "list" p with
    | some ea => gloB sc "list" && chkE P N sc a ea
    | none => false)
  | sc, .cat a b, p => (match p with
    | .BinOp ea .Add eb _ => chkE P N sc a ea && chkE P N sc b eb
    | _ => false)
  | sc, .mul a b, p => (match p with
    | .BinOp ea .Mult eb _ => chkE P N sc a ea && chkE P N sc b eb
    | _ => false)
  | sc, .rng it, p => (match isCall1 "list" p with
    | some ea => gloB sc "list" && chkR P N sc it ea
    | none => false)
  | sc, .srt a, p => (match isCall1 "sorted" p with
    | some ea => gloB sc "sorted" && chkE P N sc a ea
    | none => false)
  | sc, .sst a, p => (match isCall1 "sorted" p with
    | some q => (match isCall1 "set" q with
      | some ea => gloB sc "sorted" && (gloB sc "set" && chkE P N sc a ea)
      | none => false)
    | none => false)
  | sc, .srtr a, p => (match p with
    | .Call (.Name x _) [ea] [⟨some nm, .Constant (.bool true) _ _, _⟩] _ => (x == ("sorted" : Str) && (nm == Str.ofString "reverse" && (gloB sc "sorted" && notStar ea))) && chkE P N sc a ea
    | _ => false)
  | sc, .rev a, p => (match p with
    | .Subscript ea (.Slice none none (some (.UnaryOp .USub (.Constant (.int c) _ _) _)) _) _ => decide (c = 1) && chkE P N sc a ea
    | _ => false)
  | sc, .lc own t it c e, p => (match p with
    | .ListComp elt [⟨tg, iter, ifs, 0⟩] scope _ => (blkB N sc scope (ownP N own) && (tgIn own t && (chkT N (soOf scope.names) t tg && notSetE iter))) &&
      (chkI P N sc it tg iter && (chkC P N (relN scope.names sc) c ifs && chkE P N (relN scope.names sc) e elt))
    | _ => false)
  | sc, .lc2 own t it c own2 t2 it2 c2 e, p => (match p with
    | .ListComp elt [⟨tg, iter, ifs, 0⟩, ⟨tg1, iter1, ifs1, 0⟩] scope _ => (blkB N sc scope (ownP N own) && (tgIn own t && (chkT N (soOf scope.names) t tg && notSetE iter))) &&
      (((own2.all fun i => own.contains i) && (tgIn own2 t2 && (chkT N (soOf scope.names) t2 tg1 && notSetE iter1))) &&
      (chkI P N sc it tg iter && (chkC P N (relN scope.names sc) c ifs && (chkE P N (relN scope.names sc) e elt && (chkI P N (relN scope.names sc) it2 tg1 iter1 && chkC P N (relN scope.names sc) c2 ifs1)))))
    | _ => false)
def chkR (P : Pg) (N : List Str) : List (Str × NameKind) → DI.It → Expr → Bool
  | sc, .r1 a, p => (match isCall1 "range" p with
    | some ea => gloB sc "range" && chkE P N sc a ea
    | none => false)
  | sc, .r2 a b, p => (match p with
    | .Call (.Name x _) [ea, eb] [] _ => (x == ("range" : Str) && (gloB sc "range" && (notStar ea && notStar eb))) && (chkE P N sc a ea && chkE P N sc b eb)
    | _ => false)
  | _, _, _ => false
def chkR3 (P : Pg) (N : List Str) : List (Str × NameKind) → DI.It → Expr → Bool
  | sc, .r3 a b c, p => (match p with
    | .Call (.Name x _) [ea, eb, ec] [] _ => (x == ("range" : Str) && (gloB sc "range" && (notStar ea && (notStar eb && notStar ec)))) && (chkE P N sc a ea && (chkE P N sc b eb && chkE P N sc c ec))
    | _ => false)
  | _, _, _ => false
def chkI (P : Pg) (N : List Str) : List (Str × NameKind) → DI.It → Expr → Expr → Bool
  | sc, .ex e, _, p => chkE P N sc e p
  | sc, .r1 a, _, p => (match isCall1 "range" p with
    | some ea => gloB sc "range" && chkE P N sc a ea
    | none => false)
  | sc, .r2 a b, _, p => (match p with
    | .Call (.Name x _) [ea, eb] [] _ => (x == ("range" : Str) && (gloB sc "range" && (notStar ea && notStar eb))) && (chkE P N sc a ea && chkE P N sc b eb)
    | _ => false)
  | sc, .r3 a b c, _, p => (match p with
    | .Call (.Name x _) [ea, eb, ec] [] _ => (x == ("range" : Str) && (gloB sc "range" && (notStar ea && (notStar eb && notStar ec)))) && (chkE P N sc a ea && (chkE P N sc b eb && chkE P N sc c ec))
    | _ => false)
  | sc, .en a, tg, p => isTup tg && (match isCall1 "enumerate" p with
    | some ea => gloB sc "enumerate" && chkE P N sc a ea
    | none => false)
  | sc, .zp a b, tg, p => isTup tg && (match p with
    | .Call (.Name x _) [ea, eb] [] _ => (x == ("zip" : Str) && (gloB sc "zip" && (notStar ea && notStar eb))) && (chkE P N sc a ea && chkE P N sc b eb)
    | _ => false)
end
theorem plain_isTrue {p : Expr} (h : plainT p = true) (env : Env) (whole : Sem Value) : isTrue p env whole = (do let v ← whole; standAt p.pos; holding [v] (truthy v)) := by
  cases p with
  | UnaryOp op a pos =>
    cases op <;> first
      | rfl
      | (simp [plainT] at h)
  | _ => first
    | rfl
    | (simp [plainT] at h)
structure OkE (P : Pg) (k : Nat) (X : Cx) (Z : Addr → Prop) (W : WX) (e : Ex) (p : Expr) : Prop where
  pe : PE X p (tE (cy P k X Z) W e)
  pt : PT X p (tTe (cy P k X Z) W e)
  pw : ∀ op vs pos, p = .BoolOp op vs pos → PW X p (tTe (cy P k X Z) W e)
section
variable {P : Pg} {k : Nat} {N : List Str}
theorem OkE.of {X : Cx} {Z : Addr → Prop} {W : WX} {e : Ex} {p : Expr} (h : PE X p (tE (cy P k X Z) W e)) (hp : plainT p = true) : OkE P k X Z W e p :=
  ⟨h, x_truth h (plain_isTrue hp X.env), fun op vs pos e => by subst e; simp [plainT] at hp⟩
theorem OkE.two {X : Cx} {Z : Addr → Prop} {W : WX} {e : Ex} {p : Expr} (h : PE X p (tE (cy P k X Z) W e)) (ht : PT X p (tTe (cy P k X Z) W e)) (hp : ∀ op vs pos, p ≠ .BoolOp op vs pos) : OkE P k X Z W e p :=
  ⟨h, ht, fun op vs pos e => absurd e (hp op vs pos)⟩
theorem chkEs_len : ∀ {es : Exs} {sc : List (Str × NameKind)} {ps : List Expr}, chkEs P N sc es ps = true → (∀ r S C xs S', evs P C es r S = .ok xs S' → xs.length = ps.length) ∧ allPlain ps = true ∧ (ps = [] → es = .nil)
  | .nil, sc, ps, h => by
    have e : ps = [] := by simpa [chkEs] using h
    subst e
    refine ⟨fun r S C xs S' q => ?_, rfl, fun _ => rfl⟩
    simp only [evs] at q
    cases q
    rfl
  | .cons e es, sc, ps, h => by
    cases ps with
    | nil => simp [chkEs] at h
    | cons p r =>
      simp only [chkEs, Bool.and_eq_true] at h
      obtain ⟨h1, h2, h3⟩ := h
      obtain ⟨a, b, _⟩ := chkEs_len h3
      refine ⟨fun r S C xs S' q => ?_, by simp [allPlain, h1, b], fun z => by cases z⟩
      simp only [evs] at q
      cases q1 : ev P C e r S with
      | ok x S1 =>
        rw [q1] at q
        simp only [Out.bind_ok] at q
        cases q2 : evs P C es r S1 with
        | ok ys S2 =>
          rw [q2] at q
          simp only [Out.bind_ok] at q
          cases q
          rw [List.length_cons, List.length_cons, a _ _ _ _ _ q2]
        | exn x S2 => rw [q2] at q; cases q
        | bad => rw [q2] at q; cases q
      | exn x S1 => rw [q1] at q; cases q
      | bad => rw [q1] at q; cases q
  | .star _ _, sc, ps, h => by simp [chkEs] at h
theorem isTup_eq {p : Expr} (h : isTup p = true) : ∃ es j pos, p = .Tuple es j pos := by
  cases p <;> first
    | exact ⟨_, _, _, rfl⟩
    | (simp [isTup] at h)
mutual
theorem sndE : ∀ (e : Ex) {sc : List (Str × NameKind)} {so : List Str} {X : Cx} {Z : Addr → Prop} {W : WX} {p : Expr}, Good P k N sc so X → Takes X W → chkE P N sc e p = true → OkE P k X Z W e p
  | .var i, sc, so, X, Z, W, p, g, tk, h => by
    unfold chkE at h
    split at h
    · simp only [Bool.and_eq_true, beq_iff_eq] at h
      exact .of (x_var g h.1 h.2) rfl
    · cases h
  | .int i, sc, so, X, Z, W, p, g, tk, h => by
    unfold chkE at h
    split at h
    · simp only [beq_iff_eq] at h
      subst h
      exact .of x_int rfl
    · cases h
  | .bl b, sc, so, X, Z, W, p, g, tk, h => by
    unfold chkE at h
    split at h
    · simp only [beq_iff_eq] at h
      subst h
      exact .of x_bl rfl
    · cases h
  | .non, sc, so, X, Z, W, p, g, tk, h => by
    unfold chkE at h
    split at h
    · exact .of x_non rfl
    · cases h
  | .str s, sc, so, X, Z, W, p, g, tk, h => by
    unfold chkE at h
    split at h
    · simp only [beq_iff_eq] at h
      subst h
      exact .of x_str rfl
    · cases h
  | .glo x, sc, so, X, Z, W, p, g, tk, h => by
    unfold chkE at h
    split at h
    · simp only [Bool.and_eq_true, beq_iff_eq] at h
      obtain ⟨rfl, h⟩ := h
      exact .of (x_glo g h) rfl
    · cases h
  | .bin o a b, sc, so, X, Z, W, p, g, tk, h => by
    unfold chkE at h
    split at h
    · simp only [Bool.and_eq_true, beq_iff_eq] at h
      obtain ⟨rfl, h1, h2⟩ := h
      exact .of (x_bin (sndE a g tk h1).pe (sndE b g tk h2).pe) rfl
    · cases h
  | .cmp o a b, sc, so, X, Z, W, p, g, tk, h => by
    unfold chkE at h
    split at h
    · simp only [Bool.and_eq_true, beq_iff_eq] at h
      obtain ⟨rfl, h0, h1, h2⟩ := h
      have q := x_cmp (pos := ‹_›) (o := o) g (sndE (Z := Z) a g tk h1).pe (sndE (Z := Z) b g tk h2).pe h0
      exact .two q.1 q.2 fun _ _ _ z => by cases z
    · cases h
  | .chn o o2 a b c, sc, so, X, Z, W, p, g, tk, h => by
    unfold chkE at h
    split at h
    · simp only [Bool.and_eq_true, beq_iff_eq] at h
      obtain ⟨⟨rfl, rfl⟩, h0, h1, h2, h3⟩ := h
      have q := x_chn (pos := ‹_›) (o := o) (p := o2) g (sndE (Z := Z) a g tk h1).pe (sndE (Z := Z) b g tk h2).pe (sndE (Z := Z) c g tk h3).pe h0
      exact .two q.1 q.2 fun _ _ _ z => by cases z
    · cases h
  | .neg a, sc, so, X, Z, W, p, g, tk, h => by
    unfold chkE at h
    split at h
    · exact .of (x_neg (sndE a g tk h).pe) rfl
    · cases h
  | .nt a, sc, so, X, Z, W, p, g, tk, h => by
    unfold chkE at h
    split at h
    · have i := sndE (Z := Z) a g tk h
      have q := x_nt (pos := ‹_›) i.pe i.pt
      exact .two q.1 q.2 fun _ _ _ z => by cases z
    · cases h
  | .and a b, sc, so, X, Z, W, p, g, tk, h => by
    unfold chkE at h
    split at h
    · simp only [Bool.and_eq_true] at h
      obtain ⟨h1, h2⟩ := h
      have i := sndE (Z := Z) a g tk h1
      split at h2
      · have j := sndE (Z := Z) b g tk h2
        have q := x_and (pos := ‹_›) i.pe i.pt (pe_one j.pe) (pw_and1 j.pt)
        exact ⟨q.1, q.2.pt, fun _ _ _ _ => q.2⟩
      · have j := sndE (Z := Z) b g tk h2
        have q := x_and (pos := ‹_›) i.pe i.pt j.pe (j.pw _ _ _ rfl)
        exact ⟨q.1, q.2.pt, fun _ _ _ _ => q.2⟩
    · cases h
  | .or a b, sc, so, X, Z, W, p, g, tk, h => by
    unfold chkE at h
    split at h
    · simp only [Bool.and_eq_true] at h
      obtain ⟨h1, h2⟩ := h
      have i := sndE (Z := Z) a g tk h1
      split at h2
      · have j := sndE (Z := Z) b g tk h2
        have q := x_or (pos := ‹_›) i.pe i.pt (pe_one j.pe) (pw_or1 j.pt)
        exact ⟨q.1, q.2.pt, fun _ _ _ _ => q.2⟩
      · have j := sndE (Z := Z) b g tk h2
        have q := x_or (pos := ‹_›) i.pe i.pt j.pe (j.pw _ _ _ rfl)
        exact ⟨q.1, q.2.pt, fun _ _ _ _ => q.2⟩
    · cases h
  | .ite c a b, sc, so, X, Z, W, p, g, tk, h => by
    unfold chkE at h
    split at h
    · simp only [Bool.and_eq_true] at h
      obtain ⟨h0, h1, h2⟩ := h
      have i := sndE (Z := Z) a g tk h1
      have j := sndE (Z := Z) b g tk h2
      have q := x_ite (pos := ‹_›) (sndE (Z := Z) c g tk h0).pt i.pe j.pe i.pt j.pt
      exact .two q.1 q.2 fun _ _ _ z => by cases z
    · cases h
  | .tup es, sc, so, X, Z, W, p, g, tk, h => by
    unfold chkE at h
    split at h
    · exact .of (x_tup (sndEd es g tk h)) rfl
    · cases h
  | .idx a i, sc, so, X, Z, W, p, g, tk, h => by
    unfold chkE at h
    split at h
    · simp only [Bool.and_eq_true] at h
      obtain ⟨h0, h1, h2⟩ := h
      exact .of (x_idx (sndE a g tk h1).pe (sndE i g tk h2).pe h0) rfl
    · cases h
  | .slc a lo hi, sc, so, X, Z, W, p, g, tk, h => by
    unfold chkE at h
    split at h
    · simp only [Bool.and_eq_true] at h
      obtain ⟨h0, h1, h2⟩ := h
      exact .of (x_slc (sndE a g tk h0).pe (sndO lo g tk h1) (sndO hi g tk h2)) rfl
    · cases h
  | .cal f es, sc, so, X, Z, W, p, g, tk, h => by
    unfold chkE at h
    split at h
    · simp only [Bool.and_eq_true, beq_iff_eq] at h
      obtain ⟨rfl, h1, h2, h3⟩ := h
      obtain ⟨d, e⟩ := Option.isSome_iff_exists.mp h1
      obtain ⟨_, b, c⟩ := chkEs_len h3
      exact .of (x_cal g tk e h2 (sndEs es g tk h3) b c) rfl
    · cases h
  | .calk f es ks, sc, so, X, Z, W, p, g, tk, h => by
    unfold chkE at h
    split at h
    · simp only [Bool.and_eq_true, beq_iff_eq] at h
      obtain ⟨rfl, h1, h2, h3, h4⟩ := h
      obtain ⟨a, b, c⟩ := chkEs_len h3
      split at h1
      · rename_i d e
        simp only [Bool.and_eq_true] at h1
        exact .of (x_calk g tk e h2 (sndEs es g tk h3) (sndKs ks g tk h4) b c h1.1 h1.2 fun r S xs S' q => a _ _ _ _ _ q) rfl
      · cases h1
    · cases h
  | .bi b es, sc, so, X, Z, W, p, g, tk, h => by
    unfold chkE at h
    split at h
    · split at h
      · split at h
        · simp only [Bool.and_eq_true, beq_iff_eq] at h
          obtain ⟨rfl, h1, h2, h3⟩ := h
          cases es with
          | nil => simp [chkEs] at h3
          | star _ _ => simp [chkEs] at h3
          | cons e1 r =>
            simp only [chkEs, Bool.and_eq_true] at h3
            obtain ⟨h4, h5, h6⟩ := h3
            cases r with
            | cons _ _ => simp [chkEs] at h6
            | star _ _ => simp [chkEs] at h6
            | nil =>
              have i := sndE (Z := Z) e1 g tk h5
              unfold tyArg at h2
              split at h2
              · split at h2
                · simp only [Bool.and_eq_true, beq_iff_eq] at h2
                  obtain ⟨rfl, h2⟩ := h2
                  exact .of (x_isi1 g i.pe h4 h2 h1) rfl
                · cases h2
              · simp only [Bool.and_eq_true, decide_eq_true_eq, List.all_eq_true] at h2
                exact .of (x_isiT g i.pe h4 h2.2.1 h1 h2.1 h2.2.2) rfl
              · cases h2
        · cases h
      · split at h
        · rename_i z v hb
          simp only [Bool.and_eq_true, beq_iff_eq] at h
          obtain ⟨rfl, h1, h2, h3⟩ := h
          rename_i eas _ _ _ _
          cases eas with
          | nil => simp at h2
          | cons ea eas =>
            obtain ⟨_, b, _⟩ := chkEs_len h3
            exact .of (x_bi g hb h1 (sndEs es g tk h3) b) rfl
        · cases h
    · cases h
  | .mth m o es, sc, so, X, Z, W, p, g, tk, h => by
    unfold chkE at h
    split at h
    · simp only [Bool.and_eq_true, beq_iff_eq] at h
      obtain ⟨⟨rfl, h1, h2⟩, h3, h4⟩ := h
      cases es with
      | nil => simp [chkEs] at h4
      | star _ _ => simp [chkEs] at h4
      | cons e1 r =>
        simp only [chkEs, Bool.and_eq_true] at h4
        obtain ⟨h5, h6, h7⟩ := h4
        cases r with
        | cons _ _ => simp [chkEs] at h7
        | star _ _ => simp [chkEs] at h7
        | nil => exact .of (x_mth g (sndE o g tk h3).pe (sndE e1 g tk h6).pe h1 h5 (by simpa using h2)) rfl
    · simp only [Bool.and_eq_true, beq_iff_eq, decide_eq_true_eq] at h
      obtain ⟨⟨rfl, h1, h2⟩, rfl, h3, h4⟩ := h
      cases es with
      | nil => exact .of (x_pop (sndE o g tk h3).pe h1 (by simpa using h2)) rfl
      | star _ _ => simp [chkEs] at h4
      | cons e1 r => simp [chkEs] at h4
    · cases h
  | .nl m n, sc, so, X, Z, W, p, g, tk, h => by
    unfold chkE at h
    have i := sndN (Z := Z) n g tk h
    exact .of (x_nl i.1) i.2
  | .frz a, sc, so, X, Z, W, p, g, tk, h => by
    unfold chkE at h
    simp only [Bool.and_eq_true] at h
    exact .of (x_frz (sndE a g tk h.2).pe) h.1
  | .tupR it, sc, so, X, Z, W, p, g, tk, h => by
    unfold chkE at h
    split at h
    · rename_i a e
      obtain ⟨q, pos, rfl, hn⟩ := isCall1_eq e
      simp only [Bool.and_eq_true] at h
      obtain ⟨h1, h2⟩ := h
      rw [Bool.or_eq_true] at h2
      rcases h2 with h2 | h2
      · exact .of (x_tupR g (sndR it g tk h2) hn h1) rfl
      · cases it with
        | r3 a b c =>
          unfold chkR3 at h2
          split at h2
          · simp only [Bool.and_eq_true, beq_iff_eq] at h2
            obtain ⟨⟨rfl, g1, n1, n2, n3⟩, c1, c2, c3⟩ := h2
            exact .of (x_tupR3 g (sndE a g tk c1).pe (sndE b g tk c2).pe (sndE c g tk c3).pe n1 n2 n3 h1 g1) rfl
          · cases h2
        | _ => simp [chkR3] at h2
    · cases h
  | .lens a, sc, so, X, Z, W, p, g, tk, h => by
    unfold chkE at h
    split at h
    · rename_i q0 e
      obtain ⟨q, pos, rfl, hn⟩ := isCall1_eq e
      split at h
      · rename_i ea e1
        obtain ⟨q1, pos1, rfl, hn1⟩ := isCall1_eq e1
        simp only [Bool.and_eq_true] at h
        exact .of (x_lens g (sndE a g tk h.2.2).pe hn1 h.1 h.2.1) rfl
      · cases h
    · cases h
  | .bk a, sc, so, X, Z, W, p, g, tk, h => by
    unfold chkE at h
    split at h
    · simp only [Bool.and_eq_true, decide_eq_true_eq] at h
      obtain ⟨rfl, h⟩ := h
      exact .of (x_bk (sndE a g tk h).pe) rfl
    · cases h
  | .minD a, sc, so, X, Z, W, p, g, tk, h => by
    unfold chkE at h
    split at h
    · simp only [Bool.and_eq_true, beq_iff_eq] at h
      obtain ⟨⟨rfl, rfl, h1, h2⟩, h3⟩ := h
      exact .of (x_minD g (sndE a g tk h3).pe h2 h1) rfl
    · cases h
theorem sndEd : ∀ (es : Exs) {sc : List (Str × NameKind)} {so : List Str} {X : Cx} {Z : Addr → Prop} {W : WX} {ps : List Expr}, Good P k N sc so X → Takes X W → chkEd P N sc es ps = true → PA X ps (tAs (cy P k X Z) W es)
  | .nil, sc, so, X, Z, W, ps, g, tk, h => by
    have e : ps = [] := by simpa [chkEd] using h
    subst e
    exact x_anil
  | .cons e es, sc, so, X, Z, W, ps, g, tk, h => by
    cases ps with
    | nil => simp [chkEd] at h
    | cons p r =>
      simp only [chkEd, Bool.and_eq_true] at h
      exact x_acons (sndE e g tk h.2.1).pe (sndEd es g tk h.2.2) h.1
  | .star e es, sc, so, X, Z, W, ps, g, tk, h => by
    unfold chkEd at h
    split at h
    · simp only [Bool.and_eq_true] at h
      exact x_astar (sndE e g tk h.1).pe (sndEd es g tk h.2)
    · cases h
theorem sndEs : ∀ (es : Exs) {sc : List (Str × NameKind)} {so : List Str} {X : Cx} {Z : Addr → Prop} {W : WX} {ps : List Expr}, Good P k N sc so X → Takes X W → chkEs P N sc es ps = true → PA X ps (tAs (cy P k X Z) W es)
  | .nil, sc, so, X, Z, W, ps, g, tk, h => by
    have e : ps = [] := by simpa [chkEs] using h
    subst e
    exact x_anil
  | .cons e es, sc, so, X, Z, W, ps, g, tk, h => by
    cases ps with
    | nil => simp [chkEs] at h
    | cons p r =>
      simp only [chkEs, Bool.and_eq_true] at h
      exact x_acons (sndE e g tk h.2.1).pe (sndEs es g tk h.2.2) h.1
  | .star _ _, sc, so, X, Z, W, ps, g, tk, h => by simp [chkEs] at h
theorem sndKs : ∀ (es : Kws) {sc : List (Str × NameKind)} {so : List Str} {X : Cx} {Z : Addr → Prop} {W : WX} {ps : List Keyword}, Good P k N sc so X → Takes X W → chkKs P N sc es ps = true → PK X ps (tKs (cy P k X Z) W es)
  | .nil, sc, so, X, Z, W, ps, g, tk, h => by
    have e : ps = [] := by simpa [chkKs] using h
    subst e
    exact x_knil
  | .cons j e es, sc, so, X, Z, W, ps, g, tk, h => by
    cases ps with
    | nil => simp [chkKs] at h
    | cons p r =>
      obtain ⟨nm, q, kpos⟩ := p
      simp only [chkKs, Bool.and_eq_true] at h
      exact x_kcons (sndE e g tk h.1).pe (sndKs es g tk h.2)
theorem sndO : ∀ (o : OEx) {sc : List (Str × NameKind)} {so : List Str} {X : Cx} {Z : Addr → Prop} {W : WX} {p : Option Expr}, Good P k N sc so X → Takes X W → chkO P N sc o p = true → PO X p (tOx (cy P k X Z) W o)
  | .no, sc, so, X, Z, W, p, g, tk, h => by
    have e : p = none := by simpa [chkO] using h
    subst e
    exact o_no
  | .yes e, sc, so, X, Z, W, p, g, tk, h => by
    cases p with
    | none => simp [chkO] at h
    | some q => exact o_yes (sndE e g tk (by simpa [chkO] using h)).pe
theorem sndC : ∀ (c : OEx) {sc : List (Str × NameKind)} {so : List Str} {X : Cx} {Z : Addr → Prop} {W : WX} {p : List Expr}, Good P k N sc so X → Takes X W → chkC P N sc c p = true → PTs X p (tC (cy P k X Z) W c)
  | .no, sc, so, X, Z, W, p, g, tk, h => by
    have e : p = [] := by simpa [chkC] using h
    subst e
    refine ⟨fun pins s σ H Q I ⟨F, S, r, st, en, po⟩ => pts_nil.run pins s σ H Q I ?_⟩
    simp only [evc] at po
    exact po.ok st rfl
  | .yes e, sc, so, X, Z, W, p, g, tk, h => by
    unfold chkC at h
    split at h
    · have i := sndE (Z := Z) e g tk h
      refine ⟨fun pins s σ H Q I ⟨F, S, r, st, en, po⟩ => (pts_one i.pt).run pins s σ H Q I ⟨F, S, r, st, en, ?_⟩⟩
      simp only [evc] at po
      exact po
    · cases h
theorem sndN : ∀ (n : Nl) {sc : List (Str × NameKind)} {so : List Str} {X : Cx} {Z : Addr → Prop} {W : WX} {p : Expr}, Good P k N sc so X → Takes X W → chkN P N sc n p = true → PE X p (tN (cy P k X Z) W n) ∧ plainT p = true
  | .disp es, sc, so, X, Z, W, p, g, tk, h => by
    unfold chkN at h
    split at h
    · exact ⟨n_disp (sndEd es g tk h), rfl⟩
    · cases h
  | .ofs a, sc, so, X, Z, W, p, g, tk, h => by
    unfold chkN at h
    split at h
    · rename_i ea e
      obtain ⟨q, pos, rfl, hn⟩ := isCall1_eq e
      simp only [Bool.and_eq_true] at h
      exact ⟨n_ofs g (sndE a g tk h.2).pe hn h.1, rfl⟩
    · cases h
  | .cat a b, sc, so, X, Z, W, p, g, tk, h => by
    unfold chkN at h
    split at h
    · simp only [Bool.and_eq_true] at h
      exact ⟨n_cat (sndE a g tk h.1).pe (sndE b g tk h.2).pe, rfl⟩
    · cases h
  | .mul a b, sc, so, X, Z, W, p, g, tk, h => by
    unfold chkN at h
    split at h
    · simp only [Bool.and_eq_true] at h
      exact ⟨n_mul (sndE a g tk h.1).pe (sndE b g tk h.2).pe, rfl⟩
    · cases h
  | .rng it, sc, so, X, Z, W, p, g, tk, h => by
    unfold chkN at h
    split at h
    · rename_i ea e
      obtain ⟨q, pos, rfl, hn⟩ := isCall1_eq e
      simp only [Bool.and_eq_true] at h
      exact ⟨n_rng g (sndR it g tk h.2) hn h.1, rfl⟩
    · cases h
  | .srt a, sc, so, X, Z, W, p, g, tk, h => by
    unfold chkN at h
    split at h
    · rename_i ea e
      obtain ⟨q, pos, rfl, hn⟩ := isCall1_eq e
      simp only [Bool.and_eq_true] at h
      exact ⟨n_srt g (sndE a g tk h.2).pe hn h.1, rfl⟩
    · cases h
  | .sst a, sc, so, X, Z, W, p, g, tk, h => by
    unfold chkN at h
    split at h
    · rename_i q0 e
      obtain ⟨q, pos, rfl, hn⟩ := isCall1_eq e
      split at h
      · rename_i ea e1
        obtain ⟨q1, pos1, rfl, hn1⟩ := isCall1_eq e1
        simp only [Bool.and_eq_true] at h
        exact ⟨n_sst g (sndE a g tk h.2.2).pe hn1 h.1 h.2.1, rfl⟩
      · cases h
    · cases h
  | .srtr a, sc, so, X, Z, W, p, g, tk, h => by
    unfold chkN at h
    split at h
    · simp only [Bool.and_eq_true, beq_iff_eq] at h
      obtain ⟨⟨rfl, rfl, h1, h2⟩, h3⟩ := h
      exact ⟨n_srtr g (sndE a g tk h3).pe h2 h1, rfl⟩
    · cases h
  | .rev a, sc, so, X, Z, W, p, g, tk, h => by
    unfold chkN at h
    split at h
    · simp only [Bool.and_eq_true, decide_eq_true_eq] at h
      obtain ⟨rfl, h⟩ := h
      exact ⟨n_rev (sndE a g tk h).pe, rfl⟩
    · cases h
  | .lc own t it c e, sc, so, X, Z, W, p, g, tk, h => by
    unfold chkN at h
    split at h
    · simp only [Bool.and_eq_true] at h
      obtain ⟨⟨h1, h2, h3, h4⟩, h5, h6, h7⟩ := h
      refine ⟨?_, rfl⟩
      have q := n_lc (pos := ‹_›) (c := c) (e := e) g h1 (by rw [ownP_snd]; exact h2) (sndI (Z := Z) it g tk h5) ⟨h3, fun X' Z' g' tk' => sndC c g' tk' h6, fun X' Z' g' tk' => (sndE e g' tk' h7).pe⟩ h4
      rw [ownP_snd] at q
      exact q
    · cases h
  | .lc2 own t it c own2 t2 it2 c2 e, sc, so, X, Z, W, p, g, tk, h => by
    unfold chkN at h
    split at h
    · simp only [Bool.and_eq_true] at h
      obtain ⟨⟨h1, h2, h3, h4⟩, ⟨i1, i2, i3, i4⟩, h5, h6, h7, h8, h9⟩ := h
      refine ⟨?_, rfl⟩
      have q := n_lc2 (pos := ‹_›) (c := c) (e := e) (own2 := own2) (c2 := c2) g h1 (by rw [ownP_snd]; exact h2) (sndI (Z := Z) it g tk h5) ⟨h3, fun X' Z' g' tk' => sndC c g' tk' h6, fun X' Z' g' tk' => (sndE e g' tk' h7).pe⟩ h4
        ⟨by rw [ownP_snd]; intro i hi; simpa using List.all_eq_true.mp i1 i hi, i2, i3, i4, fun X' Z' g' tk' => sndI (Z := Z') it2 g' tk' h8, fun X' Z' g' tk' => sndC c2 g' tk' h9⟩
      rw [ownP_snd] at q
      exact q
    · cases h
theorem sndR : ∀ (it : DI.It) {sc : List (Str × NameKind)} {so : List Str} {X : Cx} {Z : Addr → Prop} {W : WX} {p : Expr}, Good P k N sc so X → Takes X W → chkR P N sc it p = true → PRg X p (tR (cy P k X Z) W it)
  | .r1 a, sc, so, X, Z, W, p, g, tk, h => by
    unfold chkR at h
    split at h
    · rename_i ea e
      obtain ⟨q, pos, rfl, hn⟩ := isCall1_eq e
      simp only [Bool.and_eq_true] at h
      exact r_1 g (sndE a g tk h.2).pe hn h.1
    · cases h
  | .r2 a b, sc, so, X, Z, W, p, g, tk, h => by
    unfold chkR at h
    split at h
    · simp only [Bool.and_eq_true, beq_iff_eq] at h
      obtain ⟨⟨rfl, h1, h2, h3⟩, h4, h5⟩ := h
      exact r_2 g (sndE a g tk h4).pe (sndE b g tk h5).pe h2 h3 h1
    · cases h
  | .ex _, _, _, _, _, _, _, _, _, h => by simp [chkR] at h
  | .r3 _ _ _, _, _, _, _, _, _, _, _, h => by simp [chkR] at h
  | .en _, _, _, _, _, _, _, _, _, h => by simp [chkR] at h
  | .zp _ _, _, _, _, _, _, _, _, _, h => by simp [chkR] at h
theorem sndI : ∀ (it : DI.It) {sc : List (Str × NameKind)} {so : List Str} {X : Cx} {Z : Addr → Prop} {W : WX} {tg p : Expr}, Good P k N sc so X → Takes X W → chkI P N sc it tg p = true → PI X tg p (tI (cy P k X Z) W it)
  | .ex e, sc, so, X, Z, W, tg, p, g, tk, h => by
    unfold chkI at h
    exact i_ex (sndE e g tk h).pe
  | .r1 a, sc, so, X, Z, W, tg, p, g, tk, h => by
    unfold chkI at h
    split at h
    · rename_i ea e
      obtain ⟨q, pos, rfl, hn⟩ := isCall1_eq e
      simp only [Bool.and_eq_true] at h
      exact i_r1 g (sndE a g tk h.2).pe hn h.1
    · cases h
  | .r2 a b, sc, so, X, Z, W, tg, p, g, tk, h => by
    unfold chkI at h
    split at h
    · simp only [Bool.and_eq_true, beq_iff_eq] at h
      obtain ⟨⟨rfl, h1, h2, h3⟩, h4, h5⟩ := h
      exact i_r2 g (sndE a g tk h4).pe (sndE b g tk h5).pe h2 h3 h1
    · cases h
  | .r3 a b c, sc, so, X, Z, W, tg, p, g, tk, h => by
    unfold chkI at h
    split at h
    · simp only [Bool.and_eq_true, beq_iff_eq] at h
      obtain ⟨⟨rfl, h1, h2, h3, h4⟩, h5, h6, h7⟩ := h
      exact i_r3 g (sndE a g tk h5).pe (sndE b g tk h6).pe (sndE c g tk h7).pe h2 h3 h4 h1
    · cases h
  | .en a, sc, so, X, Z, W, tg, p, g, tk, h => by
    unfold chkI at h
    simp only [Bool.and_eq_true] at h
    obtain ⟨h0, h⟩ := h
    obtain ⟨es, j, tp, rfl⟩ := isTup_eq h0
    split at h
    · rename_i ea e
      obtain ⟨q, pos, rfl, hn⟩ := isCall1_eq e
      simp only [Bool.and_eq_true] at h
      exact i_en g (sndE a g tk h.2).pe hn h.1
    · cases h
  | .zp a b, sc, so, X, Z, W, tg, p, g, tk, h => by
    unfold chkI at h
    simp only [Bool.and_eq_true] at h
    obtain ⟨h0, h⟩ := h
    obtain ⟨es, j, tp, rfl⟩ := isTup_eq h0
    split at h
    · simp only [Bool.and_eq_true, beq_iff_eq] at h
      obtain ⟨⟨rfl, h1, h2, h3⟩, h4, h5⟩ := h
      exact i_zp g (sndE a g tk h4).pe (sndE b g tk h5).pe h2 h3 h1
    · cases h
end
end
end DI
/-! DI14: the look at statements; functions. -/
namespace DI
open PySem PySem.Spec PyProof.Rows L2 RZ
def isFz : Sm → Bool
  | .fz _ => true
  | _ => false
def isDoc : Const → Bool
  | .str _ => true
  | _ => false
mutual
def chkS (P : Pg) (N : List Str) (sc : List (Str × NameKind)) (so : List Str) : Sm → Stmt → Bool
  | .set t e, st => (match st with
    | .Assign [tg] ea _ => (match tg with
      | .Name x p => (match t with
        | .n i => (N[i]? == some x && so.contains x) && (if swB sc ea x p = true then (match e with
          | .nl _ (.lc own t it c e1) => sc.lookup x == some .local && chkN P N sc (.lc own t it c e1) ea
          | .nl _ (.lc2 own t it c own2 t2 it2 c2 e1) => sc.lookup x == some .local && chkN P N sc (.lc2 own t it c own2 t2 it2 c2 e1) ea
          | _ => false) else chkE P N sc e ea)
        | _ => false)
      | .Tuple es j p => (match t with
        | .t ts => chkT N so (.t ts) (.Tuple es j p) && (chkE P N sc e ea && (match ea with
          | .Tuple vs _ _ => swpC sc es vs == some none
          | _ => true))
        | _ => false)
      | _ => false)
    | _ => false)
  | .par is es, st => (match st with
    | .Assign [.Tuple [.Name x px, .Name z pz] _ _] (.Tuple [ea, eb] _ _) _ => (match is with
      | [i, j] => (N[i]? == some x && (N[j]? == some z && i != j)) && ((sc.lookup x == some .local && sc.lookup z == some .local) && (chkEs P N sc es [ea, eb] && swpC sc [.Name x px, .Name z pz] [ea, eb] == some (some [x, z])))
      | _ => false)
    | .Assign [.Tuple [.Name x px, .Name z pz, .Name w pw] _ _] (.Tuple [ea, eb, ec] _ _) _ => (match is with
      | [i, j, l] => (N[i]? == some x && (N[j]? == some z && (N[l]? == some w && (i != j && (i != l && j != l))))) && ((sc.lookup x == some .local && (sc.lookup z == some .local && sc.lookup w == some .local)) && (chkEs P N sc es [ea, eb, ec] && swpC sc [.Name x px, .Name z pz, .Name w pw] [ea, eb, ec] == some (some [x, z, w])))
      | _ => false)
    | _ => false)
  | .setS a i e, st => (match st with
    | .Assign [.Subscript ea ei _] ee _ => notSlice ei && (chkE P N sc a ea && (chkE P N sc i ei && chkE P N sc e ee))
    | _ => false)
  | .aug i o e, st => (match st with
    | .AugAssign (.Name x _) op ea _ => (op == o.py && (augOk o && (N[i]? == some x && so.contains x))) && chkE P N sc e ea
    | _ => false)
  | .augS a i o e, st => (match st with
    | .AugAssign (.Subscript ea ei _) op ee _ => (op == o.py && (augOk o && notSlice ei)) && (chkE P N sc a ea && (chkE P N sc i ei && chkE P N sc e ee))
    | _ => false)
  | .ex e, st => (match st with
    | .Expr ea _ => (isComp ea).isNone && chkE P N sc e ea
    | _ => false)
  | .ret e, st => (match st with
    | .Return (some ea) _ => chkE P N sc e ea
    | _ => false)
  | .retN, st => (match st with
    | .Return none _ => true
    | _ => false)
  | .ite c a b, st => (match st with
    | .If ec sa sb _ => chkE P N sc c ec && (chkSs P N sc so a sa && chkSs P N sc so b sb)
    | _ => false)
  | .whl c b, st => (match st with
    | .While ec sb [] _ => chkE P N sc c ec && chkSs P N sc so b sb
    | _ => false)
  | .fr t it b, st => (match st with
    | .For tg iter sb [] _ => (chkT N so t tg && notSetE iter) && (chkI P N sc it tg iter && chkSs P N sc so b sb)
    | _ => false)
  | .fz _, _ => false
  | .pass, st => (match st with
    | .Pass _ => true
    | .Expr (.Constant c _ _) _ => isDoc c
    | _ => false)
  | .brk, st => (match st with
    | .Break _ => true
    | _ => false)
  | .cnt, st => (match st with
    | .Continue _ => true
    | _ => false)
def chkSs (P : Pg) (N : List Str) (sc : List (Str × NameKind)) (so : List Str) : Sms → List Stmt → Bool
  | .nil, sts => sts.isEmpty
  | .cons s r, sts => if isFz s = true then chkSs P N sc so r sts else (match sts with
    | st :: rest => chkS P N sc so s st && chkSs P N sc so r rest
    | [] => false)
end
section
variable {P : Pg} {k : Nat} {N : List Str} {sc : List (Str × NameKind)} {so : List Str} {X : Cx} {Z : Addr → Prop} {E : WK}
mutual
theorem sndS (g : Good P k N sc so X) (tk : Takes X (wE E)) (hp : PassesOwn (model X.prog X.w) X.A X.env X.xe) : ∀ (s : Sm) {st : Stmt}, chkS P N sc so s st = true → PS X st (tS (cy P k X Z) E s)
  | .set t e, st, h => by
    unfold chkS at h
    split at h
    · split at h
      · split at h
        · simp only [Bool.and_eq_true, beq_iff_eq] at h
          obtain ⟨⟨h1, h2⟩, h3⟩ := h
          split at h3
          · rename_i hw
            split at h3
            · rename_i ea _ _ _ m own t it c e1
              simp only [Bool.and_eq_true, beq_iff_eq] at h3
              obtain ⟨h4, h5⟩ := h3
              unfold chkN at h5
              split at h5
              · simp only [Bool.and_eq_true] at h5
                obtain ⟨⟨b1, b2, b3, b4⟩, b5, b6, b7⟩ := h5
                have q := fun ps => s_setL (Z := Z) (E := E) (pos := ps) (m := m) (c := c) (e := e1) g h1 h4 hw b1 (by rw [ownP_snd]; exact b2) (sndI (Z := Z) it g tk b5) ⟨b3, fun X' Z' g' tk' => sndC c g' tk' b6, fun X' Z' g' tk' => (sndE e1 g' tk' b7).pe⟩ b4
                simp only [ownP_snd] at q
                exact q _
              · cases h5
            · rename_i ea _ _ _ m own t it c own2 t2 it2 c2 e1
              simp only [Bool.and_eq_true, beq_iff_eq] at h3
              obtain ⟨h4, h5⟩ := h3
              unfold chkN at h5
              split at h5
              · simp only [Bool.and_eq_true] at h5
                obtain ⟨⟨b1, b2, b3, b4⟩, ⟨i1, i2, i3, i4⟩, b5, b6, b7, b8, b9⟩ := h5
                have q := fun ps => s_setL2 (Z := Z) (E := E) (pos := ps) (m := m) (c := c) (e := e1) (own2 := own2) (c2 := c2) g h1 h4 hw b1 (by rw [ownP_snd]; exact b2) (sndI (Z := Z) it g tk b5) ⟨b3, fun X' Z' g' tk' => sndC c g' tk' b6, fun X' Z' g' tk' => (sndE e1 g' tk' b7).pe⟩ b4
                  ⟨by rw [ownP_snd]; intro i hi; simpa using List.all_eq_true.mp i1 i hi, i2, i3, i4, fun X' Z' g' tk' => sndI (Z := Z') it2 g' tk' b8, fun X' Z' g' tk' => sndC c2 g' tk' b9⟩
                simp only [ownP_snd] at q
                exact q _
              · cases h5
            · cases h3
          · rename_i hw
            exact s_setE g h1 h2 (by simpa using hw) (sndE e g tk h3).pe
        · cases h
      · split at h
        · simp only [Bool.and_eq_true] at h
          obtain ⟨h1, h2, h3⟩ := h
          refine s_setT g h1 ?_ (sndE e g tk h2).pe
          split at h3
          · simp only [beq_iff_eq] at h3
            exact swp_ok g h3
          · rename_i ea _ _ _ _ _ _ _ _ hne
            refine swp_no ?_
            cases ea <;> first
              | rfl
              | exact absurd rfl (hne _ _ _)
        · cases h
      · cases h
    · cases h
  | .par is es, st, h => by
    unfold chkS at h
    split at h
    · split at h
      · simp only [Bool.and_eq_true, beq_iff_eq, bne_iff_ne] at h
        obtain ⟨⟨h1, h2, h3⟩, ⟨h4, h5⟩, h6, h7⟩ := h
        exact s_par2 g h1 h2 h3 h4 h5 (sndEs es g tk h6) h7
      · cases h
    · split at h
      · simp only [Bool.and_eq_true, beq_iff_eq, bne_iff_ne] at h
        obtain ⟨⟨h1, h2, h3, h4, h5, h6⟩, ⟨h7, h8, h9⟩, h10, h11⟩ := h
        exact s_par3 g h1 h2 h3 h4 h5 h6 h7 h8 h9 (sndEs es g tk h10) h11
      · cases h
    · cases h
  | .setS a i e, st, h => by
    unfold chkS at h
    split at h
    · simp only [Bool.and_eq_true] at h
      obtain ⟨h0, h1, h2, h3⟩ := h
      exact s_setS (sndE a g tk h1).pe (sndE i g tk h2).pe (sndE e g tk h3).pe h0
    · cases h
  | .aug i o e, st, h => by
    unfold chkS at h
    split at h
    · simp only [Bool.and_eq_true, beq_iff_eq] at h
      obtain ⟨⟨rfl, h1, h2, h3⟩, h4⟩ := h
      exact s_aug g h2 h3 h1 (sndE e g tk h4).pe
    · cases h
  | .augS a i o e, st, h => by
    unfold chkS at h
    split at h
    · simp only [Bool.and_eq_true, beq_iff_eq] at h
      obtain ⟨⟨rfl, h1, h2⟩, h3, h4, h5⟩ := h
      exact s_augS (sndE a g tk h3).pe (sndE i g tk h4).pe (sndE e g tk h5).pe h1 h2
    · cases h
  | .ex e, st, h => by
    unfold chkS at h
    split at h
    · simp only [Bool.and_eq_true, Option.isNone_iff_eq_none] at h
      exact s_ex h.1 (sndE e g tk h.2).pe
    · cases h
  | .ret e, st, h => by
    unfold chkS at h
    split at h
    · exact s_ret (sndE e g tk h).pe
    · cases h
  | .retN, st, h => by
    unfold chkS at h
    split at h
    · exact s_retN
    · cases h
  | .ite c a b, st, h => by
    unfold chkS at h
    split at h
    · simp only [Bool.and_eq_true] at h
      obtain ⟨h1, h2, h3⟩ := h
      exact s_if (sndE c g tk h1).pt (sndSs g tk hp a h2) (sndSs g tk hp b h3)
    · cases h
  | .whl c b, st, h => by
    unfold chkS at h
    split at h
    · simp only [Bool.and_eq_true] at h
      exact s_whl hp (sndE c g tk h.1).pt (sndSs g tk hp b h.2)
    · cases h
  | .fr t it b, st, h => by
    unfold chkS at h
    split at h
    · simp only [Bool.and_eq_true] at h
      obtain ⟨⟨h1, h2⟩, h3, h4⟩ := h
      exact s_fr g hp h1 (sndI it g tk h3) (sndSs g tk hp b h4) h2
    · cases h
  | .fz _, st, h => by
    unfold chkS at h
    cases h
  | .pass, st, h => by
    unfold chkS at h
    split at h
    · exact s_pass
    · rename_i c _ _ _
      cases c <;> first
        | exact s_doc rfl
        | (simp [isDoc] at h)
    · cases h
  | .brk, st, h => by
    unfold chkS at h
    split at h
    · exact s_brk
    · cases h
  | .cnt, st, h => by
    unfold chkS at h
    split at h
    · exact s_cnt
    · cases h
theorem sndSs (g : Good P k N sc so X) (tk : Takes X (wE E)) (hp : PassesOwn (model X.prog X.w) X.A X.env X.xe) : ∀ (s : Sms) {sts : List Stmt}, chkSs P N sc so s sts = true → PSs X sts (tSs (cy P k X Z) E s)
  | .nil, sts, h => by
    have e : sts = [] := by simpa [chkSs] using h
    subst e
    exact ss_nil
  | .cons s r, sts, h => by
    unfold chkSs at h
    split at h
    · rename_i hz
      cases s <;> first
        | (simp [isFz] at hz; done)
        | exact ss_fz (sndSs g tk hp r h)
    · split at h
      · simp only [Bool.and_eq_true] at h
        exact ss_cons (sndS g tk hp s h.1) (sndSs g tk hp r h.2)
      · cases h
end
end
/-! ### what a call leaves -/
section
variable {K : PySem.W.Frag} {Z : Addr → Prop} {F F' : Fs} {H H' : Hp} {S S' : Store}
mutual
theorem R.bel : ∀ {x : Val} {v : V}, R K Z F H x v → x.bel F.length = true
  | .non, _, _ => by simp [Val.bel]
  | .bl _, _, _ => by simp [Val.bel]
  | .int _, _, _ => by simp [Val.bel]
  | .str _, _, _ => by simp [Val.bel]
  | .scr _, _, _ => by simp [Val.bel]
  | .loc n, _, h => by
    simp only [R] at h
    obtain ⟨o, e, _⟩ := h
    simpa [Val.bel] using (List.getElem?_eq_some_iff.mp e).1
  | .tup xs, _, h => by
    obtain ⟨a, us, _, _, rl⟩ := h.of_tup
    simpa [Val.bel] using RL.bels rl
  | .lst xs, _, h => by
    obtain ⟨a, us, _, _, _, rl⟩ := h.of_lst
    simpa [Val.bel] using RL.bels rl
theorem RL.bels : ∀ {xs : List Val} {us : List V}, RL K Z F H xs us → Val.bels F.length xs = true
  | [], _, _ => by simp [Val.bels]
  | x :: xs, _, h => by
    obtain ⟨v, r, _, h1, h2⟩ := h.cons_inv
    simp [Val.bels, R.bel h1, RL.bels h2]
end
theorem mu_take {n : Nat} {a : Addr} (h : ¬ mu Z F a) : ¬ mu Z (F.take n) a := fun q => h (q.imp (fun z => List.mem_of_mem_take z) id)
mutual
theorem R.take (n : Nat) : ∀ {x : Val} {v : V}, x.bel n = true → R K Z F H x v → R K Z (F.take n) H x v
  | .non, _, _, h => by simpa [R] using h
  | .bl _, _, _, h => by simpa [R] using h
  | .int _, _, _, h => by simpa [R] using h
  | .str _, _, _, h => by simpa [R] using h
  | .scr _, _, _, h => by simpa [R] using h
  | .loc m, _, b, h => by
    have hm : m < n := by simpa [Val.bel] using b
    simp only [R] at h ⊢
    obtain ⟨o, e, q⟩ := h
    exact ⟨o, by rw [List.getElem?_take_of_lt hm]; exact e, q⟩
  | .tup xs, _, b, h => by
    obtain ⟨a, us, e, t, rl⟩ := h.of_tup
    simp only [R]
    exact ⟨a, us, e, t, RL.takeF n (by simpa [Val.bel] using b) rl⟩
  | .lst xs, _, b, h => by
    obtain ⟨a, us, e, t, m, rl⟩ := h.of_lst
    simp only [R]
    exact ⟨a, us, e, t, mu_take m, RL.takeF n (by simpa [Val.bel] using b) rl⟩
theorem RL.takeF (n : Nat) : ∀ {xs : List Val} {us : List V}, Val.bels n xs = true → RL K Z F H xs us → RL K Z (F.take n) H xs us
  | [], _, _, h => by simpa [RL] using h
  | x :: xs, _, b, h => by
    obtain ⟨v, r, e, h1, h2⟩ := h.cons_inv
    have b2 : x.bel n = true ∧ Val.bels n xs = true := by simpa [Val.bels] using b
    subst e
    exact .cons (R.take n b2.1 h1) (RL.takeF n b2.2 h2)
end
theorem gc_at : ∀ {n : Nat} {S S' : Store}, gcOk n S S' = true → (∀ (i : Nat) a, S[i]? = some a → a.bel n = true) → ∀ (i : Nat) b, i < S.length → S'[i]? = some b → b.bel n = true
  | _, [], _, _, _, i, _, hi, _ => by simp at hi
  | _, _ :: _, [], h, _, _, _, _, _ => by simp [gcOk] at h
  | n, a :: r, b :: s, h, g, i, c, hi, e => by
    have h2 : (Ob.beq a b = true ∨ Ob.bel n b = true) ∧ gcOk n r s = true := by simpa [gcOk] using h
    cases i with
    | zero =>
      have : b = c := by simpa using e
      subst this
      rcases h2.1 with q | q
      · rw [← Ob.beq_of q]; exact g 0 a (by simp)
      · exact q
    | succ i => exact gc_at h2.2 (fun j o ho => g (j + 1) o (by simpa using ho)) i c (by simpa using hi) (by simpa using e)
theorem StOk.bel (s : StOk K Z F S H) (i : Nat) (o : Ob) (e : S[i]? = some o) : o.bel F.length = true := by
  obtain ⟨fo, e1, h⟩ := s.at_ i o e
  cases fo with
  | none =>
    cases o with
    | dead => rfl
    | _ => exact h.elim
  | some a =>
    cases o with
    | dead => exact h.elim
    | lst xs => obtain ⟨us, _, rl⟩ := h; exact rl.bels
    | frz xs => obtain ⟨_, us, _, rl⟩ := h; exact rl.bels
theorem At.take {n : Nat} {fo : Option Addr} {ob : Ob} (b : ob.bel n = true) (h : At K Z F H fo ob) : At K Z (F.take n) H fo ob := by
  cases fo with
  | none =>
    cases ob with
    | dead => trivial
    | _ => exact h.elim
  | some a =>
    cases ob with
    | dead => exact h.elim
    | lst xs =>
      obtain ⟨us, h1, h2⟩ := h
      exact ⟨us, h1, h2.takeF n b⟩
    | frz xs =>
      obtain ⟨o, us, h1, h2⟩ := h
      exact ⟨o, us, h1, h2.takeF n b⟩
theorem StOk.take (s0 : StOk K Z F S H) (s : StOk K Z F' S' H') (k : Keep Z F H F' H') (gc : gcOk S.length S S' = true) : StOk K Z (F'.take S.length) (S'.take S.length) H' where
  len := by simp [s.len]
  at_ := fun n ob e => by
    have hn : n < S.length := by
      have := (List.getElem?_eq_some_iff.mp e).1
      simp at this
      omega
    rw [List.getElem?_take_of_lt hn] at e
    obtain ⟨fo, e1, h1⟩ := s.at_ n ob e
    refine ⟨fo, by rw [List.getElem?_take_of_lt hn]; exact e1, h1.take ?_⟩
    exact gc_at gc (fun i a ea => by rw [← s0.len]; exact s0.bel i a ea) n ob hn e
  inj := fun n m a e1 e2 => by
    have key : ∀ n, (F'.take S.length)[n]? = some (some a) → F'[n]? = some (some a) := fun n e => by
      have hn : n < S.length := by
        have := (List.getElem?_eq_some_iff.mp e).1
        simp at this
        omega
      rw [List.getElem?_take_of_lt hn] at e
      exact e
    exact s.inj n m a (key n e1) (key m e2)
  zin := s.zin
  zl := fun a z m => s.zl a z (List.mem_of_mem_take m)
theorem Keep.take (s0 : StOk K Z F S H) (k : Keep Z F H F' H') : Keep Z F H (F'.take S.length) H' where
  len := by have := k.len; have := s0.len; simp; omega
  old := fun n o e => by
    have hn : n < S.length := by rw [← s0.len]; exact (List.getElem?_eq_some_iff.mp e).1
    rw [List.getElem?_take_of_lt hn]
    exact k.old n o e
  lst := fun a us h m => ⟨(k.lst a us h m).1, mu_take (k.lst a us h m).2⟩
  tup := k.tup
  frz := k.frz
  hid := k.hid
  dom := k.dom
end
section
variable {y : Cy} {F : Fs} {H : Hp} {S : Store} {E : WK} {Q : VK}
theorem post_fin {v : Val} {S' : Store} {F' : Fs} {H' : Hp} {w : V} {C : Cf} (s0 : y.St F S H) (po : Post y F H (fin S v S') y.R E Q) (k : y.Kp F H F' H') (s : y.St F' S' H') (r : y.R F' H' v w) : Q w H' := by
  unfold fin at po
  split at po
  · rename_i h
    simp only [Bool.and_eq_true] at h
    exact po (F'.take S.length) H' w (Keep.take s0 k) (StOk.take s0 s k h.2) (R.take _ h.1 r)
  · exact po F' H' w k s r
theorem XR.take {x : Exn} {F' : Fs} {H' : Hp} {c : Value} {d : Option Addr} {n : Nat} (b : Val.bels n (x.fs.map (·.2)) = true) (h : XR y F' H' x c d) : XR y (F'.take n) H' x c d := by
  obtain ⟨h1, da, fv, h2, h3, h4, h5⟩ := h
  exact ⟨h1, da, fv, h2, h3, h4, h5.takeF n b⟩
/-- from a call's answer to its body's -/
theorem post_run {o : Out (Fl × Sl)} (s0 : y.St F S H) (po : Post y F H (retOf S o) y.R E Q) : Post y F H o (rF y) E (atE { nx := fun _ H' => Q .non H', rt := Q }) := by
  cases o with
  | bad => exact po
  | exn x S' =>
    intro F' H' c d k s xr
    have po : Post y F H (finX S x S') y.R E Q := po
    unfold finX at po
    split at po
    · rename_i h
      simp only [Bool.and_eq_true] at h
      exact po (F'.take S.length) H' c d (Keep.take s0 k) (StOk.take s0 s k h.2) (XR.take h.1 xr)
    · exact po F' H' c d k s xr
  | ok p S' =>
    obtain ⟨fl, r'⟩ := p
    rintro F' H' ⟨fv, σ'⟩ k s ⟨en, rf⟩
    cases fl <;> cases fv <;> first
      | exact rf.elim
      | skip
    · exact post_fin (C := y.C) s0 (show Post y F H (fin S .non S') y.R E Q from po) k s (by simp [Cy.R, R])
    · exact post_fin (C := y.C) s0 (show Post y F H (fin S _ S') y.R E Q from po) k s rf
    · exact po.elim
    · exact po.elim
end
/-! ### functions -/
def fchk (P : Pg) (d : Fn) (params : Arguments) (body : List Stmt) (scope : Scope) (N : List Str) : Bool :=
  (params.posonlyargs.isEmpty && (params.args.map (·.arg) == d.ps && (params.vararg.isNone && (params.kwonlyargs.isEmpty && (params.kwarg.isNone && decide d.ps.Nodup))))) &&
    (C8.scC N d.ps scope && (N.length == d.ns && chkSs P N scope.names (soOf scope.names) d.body body))
/-- a module's functions, constants as they stand behind the top -/
structure Facts (P : Pg) (K : PySem.W.Frag) (mg : Str → Option Value) : Prop where
  cst : ∀ i c, P.cst i = some c → ∃ u, mg (P.cnm i) = some u ∧ CstOk K c u
  blt : ∀ x ∈ bltNames, mg x = none
  fns : ∀ f d, P.fns f = some d → ∃ fa fd x qual params body scope N, mg (P.fnm f) = some (.ref fa) ∧ ((P.fnm f : Str) == ("__debug__" : Str)) = false ∧ FunD K x qual params body scope [] [] fa fd ∧ fchk P d params body scope N = true
section
variable {P : Pg} {prog : Program} {w : World} {K : PySem.W.Frag} {mg : Str → Option Value} {base : Heap}
theorem start_ok {Z : Addr → Prop} {F : Fs} {H : Hp} {d : Fn} {N : List Str} {args : List Val} {vs : List V} (hn : N.length = d.ns) (rl : DI.RL K Z F H args vs) : EnvOk K Z F H (start0 d args) (L2.start N vs) := by
  have l := rl.length
  unfold start0 L2.start
  refine ⟨by simp [l, hn], fun i x e => ?_⟩
  by_cases hi : i < args.length
  · rw [List.getElem?_append_left (by simpa using hi), List.getElem?_map] at e
    rw [List.getElem?_append_left (by simp; omega), List.getElem?_map]
    cases q : args[i]? with
    | none => rw [q] at e; cases e
    | some a =>
      rw [q] at e
      have : a = x := by simpa using e
      subst this
      obtain ⟨v, e2, r⟩ := RL.get rl q
      exact ⟨v, by rw [e2]; rfl, r⟩
  · rw [List.getElem?_append_right (by simpa using hi)] at e
    rw [List.getElem?_replicate] at e
    split at e <;> cases e
theorem fn_ok (fc : Facts P K mg) (k : Nat) (ih : ∀ f d, P.fns f = some d → ∃ fa fd, FnAt P k prog w K mg base f d fa fd) {f : Nat} {d : Fn} (e : P.fns f = some d) {fa : Addr} {fd : FuncData} {x qual : Str} {params : Arguments} {body : List Stmt} {scope : Scope} {N : List Str}
    (hm : mg (P.fnm f) = some (.ref fa)) (nd : ((P.fnm f : Str) == ("__debug__" : Str)) = false) (FD : FunD K x qual params body scope [] [] fa fd) (hc : fchk P d params body scope N = true) : FnAt P (k + 1) prog w K mg base f d fa fd := by
  unfold fchk at hc
  simp only [Bool.and_eq_true, decide_eq_true_eq, beq_iff_eq, List.isEmpty_iff, Option.isNone_iff_eq_none] at hc
  obtain ⟨⟨c1, c2, c3, c4, c5, c6⟩, c7, c8, c9⟩ := hc
  have Sc := C8.fnScope_by c7
  have ok : FnOk prog w K mg base (L2.CX prog w) (k + 1) fa fd d.ps (spI P K mg (k + 1) f) := by
    refine FunD.ok FD Sc (fun vs H Q E h => ?_) fun cdv A outer s H vs Q E hr h => ?_
    · obtain ⟨Z, F, S, args, d2, e2, hl, st, rl, _⟩ := h
      rw [e] at e2
      cases e2
      rw [← rl.length, hl]
    · generalize hX : cxOf (L2.CX prog w) prog w K mg base N qual scope fa cdv A outer s H E = X
      have g : Good P k N scope.names (soOf scope.names) X := by
        subst hX
        refine ⟨rfl, Sc.nd, rfl, Sc.kind, fun z hz => ?_, rfl, hr, fc.cst, fc.blt, ih⟩
        rcases soOf_spec hz with q | q
        · exact ⟨.inl q, .inl rfl⟩
        · exact ⟨.inr q, .inl rfl⟩
      have tk : Takes X (wE E) := by
        subst hX
        exact takes_of rfl rfl rfl rfl
      have hp : PassesOwn (model X.prog X.w) X.A X.env X.xe := by
        subst hX
        exact passes_of rfl
      have hK : X.K = K := by subst hX; rfl
      have hM : X.mg = mg := by subst hX; rfl
      refine ⟨fun D σ H => ∃ Z, tSs (cy P k X Z) E d.body D σ H, ⟨fun pins s σ H D I ⟨Z, q⟩ => (sndSs g tk hp d.body c9).run pins s σ H D I q⟩, ?_⟩
      obtain ⟨Z, F, S, args, d2, e2, hl, st, rl, po⟩ := h
      rw [e] at e2
      cases e2
      refine ⟨Z, F, S, start0 d args, by rw [show (cy P k X Z).St = DI.StOk K Z by show DI.StOk X.K Z = _; rw [hK]]; exact st, by rw [show (cy P k X Z).En = DI.EnvOk K Z by show DI.EnvOk X.K Z = _; rw [hK]]; exact start_ok c8 rl, ?_⟩
      have ec : cy P k X Z = ⟨P, run P k, K, mg, Z⟩ := by unfold cy; rw [hK, hM]
      rw [ec]
      simp only [run, e, if_pos hl] at po
      exact post_run (y := ⟨P, run P k, K, mg, Z⟩) st po
  obtain ⟨oc, od, dV, kV, doc, pm, an, cdv, ct, osl, rfl, lk, hcd, hdf, _⟩ := FD.ex
  refine ⟨hm, nd, FD.kp, c1, c2, c3, c4, c5, ?_, c6, ok⟩
  rcases hdf with ⟨_, h⟩ | ⟨h, _⟩
  · exact h
  · exact absurd rfl h
theorem fn_zero {f : Nat} {d : Fn} (e : P.fns f = some d) {fa : Addr} {fd : FuncData} {x qual : Str} {params : Arguments} {body : List Stmt} {scope : Scope} {N : List Str}
    (hm : mg (P.fnm f) = some (.ref fa)) (nd : ((P.fnm f : Str) == ("__debug__" : Str)) = false) (FD : FunD K x qual params body scope [] [] fa fd) (hc : fchk P d params body scope N = true) : FnAt P 0 prog w K mg base f d fa fd := by
  unfold fchk at hc
  simp only [Bool.and_eq_true, decide_eq_true_eq, beq_iff_eq, List.isEmpty_iff, Option.isNone_iff_eq_none] at hc
  obtain ⟨⟨c1, c2, c3, c4, c5, c6⟩, _⟩ := hc
  have no : ∀ {vs : List V} {H : Hp} {Q : VK} {E : XK}, spI P K mg 0 f vs H Q E → False := fun ⟨_, _, _, _, _, _, _, _, _, po⟩ => po
  obtain ⟨oc, od, dV, kV, doc, pm, an, cdv, ct, osl, rfl, lk, hcd, hdf, _⟩ := FD.ex
  refine ⟨hm, nd, FD.kp, c1, c2, c3, c4, c5, ?_, c6, ⟨fun vs H Q E h => (no h).elim, fun A outer s H args us vs Q E hr he hb hv h => (no h).elim⟩⟩
  rcases hdf with ⟨_, h⟩ | ⟨h, _⟩
  · exact h
  · exact absurd rfl h
theorem fn_all (fc : Facts P K mg) : ∀ (k : Nat) (f : Nat) (d : Fn), P.fns f = some d → ∃ fa fd, FnAt P k prog w K mg base f d fa fd
  | 0, f, d, e => let ⟨fa, fd, _, _, _, _, _, _, hm, nd, FD, hc⟩ := fc.fns f d e; ⟨fa, fd, fn_zero e hm nd FD hc⟩
  | k + 1, f, d, e => let ⟨fa, fd, _, _, _, _, _, _, hm, nd, FD, hc⟩ := fc.fns f d e; ⟨fa, fd, fn_ok fc k (fn_all fc k) e hm nd FD hc⟩
theorem fn_at (fc : Facts P K mg) : ∀ (k : Nat) {f : Nat} {d : Fn} (e : P.fns f = some d) {fa : Addr} {fd : FuncData} {x qual : Str} {params : Arguments} {body : List Stmt} {scope : Scope} {N : List Str}
    (hm : mg (P.fnm f) = some (.ref fa)) (nd : ((P.fnm f : Str) == ("__debug__" : Str)) = false) (FD : FunD K x qual params body scope [] [] fa fd) (hc : fchk P d params body scope N = true), FnAt P k prog w K mg base f d fa fd
  | 0, _, _, e, _, _, _, _, _, _, _, _, hm, nd, FD, hc => fn_zero e hm nd FD hc
  | k + 1, _, _, e, _, _, _, _, _, _, _, _, hm, nd, FD, hc => fn_ok fc k (fn_all fc k) e hm nd FD hc
end
/-! ### a law -/
/-- the law's answer in the language -/
def Says (P : Pg) (k f : Nat) (n : Nat) : Prop := ∀ ns : List Int, ns.length ≤ n → run P k f [.scr ns] [] = .ok (.bl true) []
theorem sp_law {P : Pg} {K : PySem.W.Frag} {mg : Str → Option Value} {k f n : Nat} {d : Fn} (e : P.fns f = some d) (h1 : d.ps.length = 1) (hs : Says P k f n) {H : Hp} {a : Addr} {ns : List Int} (hl : ns.length ≤ n) (hO : Only H) (hS : SqL K H a (ns.map V.int)) :
    spI P K mg k f [.ref a] H (fun v _ => v = .bl true) fun _ _ _ => False := by
  have sq : SqF K H a (ns.map V.int) := by
    rcases hS with (h | ⟨o, h⟩) | h
    · rcases hO a with q | ⟨o, xs, q⟩
      · rw [q] at h; cases h
      · rw [q] at h; cases h
    · exact .inl ⟨o, h⟩
    · exact .inr h
  refine ⟨fun _ => False, [], [], [.scr ns], d, e, by rw [h1]; rfl, ⟨rfl, fun n ob z => by simp at z, fun n m b z => by simp at z, fun _ z => z.elim, fun _ z => z.elim⟩, .cons ?_ RL.nil, ?_⟩
  · simp only [R]
    exact ⟨a, rfl, sq⟩
  · rw [hs ns hl]
    intro F' H' b _ _ r
    exact R.of_bl r
end DI
/-! DI15: a module's table of functions, and a law's end. -/
namespace DI
open PySem PySem.Spec PyProof.Rows L2 RZ
structure Ent where
  x : Str
  st : Stmt
  N : List Str
  d : Fn
structure CEnt where
  x : Str
  c : Cst
def mkPg (tbl : List (Str × Fn)) (cs : List CEnt) (wf : Nat) : Pg where
  fns := fun i => (tbl[i]?).map (·.2)
  fnm := fun i => ((tbl[i]?).map (·.1)).getD default
  cst := fun i => (cs[i]?).map (·.c)
  cnm := fun i => ((cs[i]?).map (·.x)).getD default
  xnm := fun _ => default
  wf := wf
def tblOf (es : List Ent) : List (Str × Fn) := es.map fun e => (e.x, e.d)
def fnOfE (e : Ent) : He.DefD := ⟨(e.x, none), e.x, e.x, defArgs e.st, defBody e.st, defScope e.st, [], []⟩
def cFa (c : CEnt) : He.Fa := match c.c with
  | .int i => .int c.x i
  | .str s => .str c.x (sv s)
  | .tup _ => .glo c.x
def faOf (es : List Ent) (cs : List CEnt) : List He.Fa := es.map (fun e => He.Fa.glo e.x) ++ bltNames.map He.Fa.free ++ cs.map cFa
def fnsOf (es : List Ent) : List He.DefD := es.map fnOfE
def noTup : CEnt → Bool
  | ⟨_, .tup _⟩ => false
  | _ => true
def entOk (P : Pg) (e : Ent) : Bool := !(e.x == ("__debug__" : Str)) && fchk P e.d (defArgs e.st) (defBody e.st) (defScope e.st) e.N
theorem fact_mem {fa : List He.Fa} {fn : List He.DefD} {K : PySem.W.Frag} (c : He.SaysD fa fn K) {f : He.Fa} (h : f ∈ fa) : f.ok K = true := by
  obtain ⟨i, hi⟩ := List.mem_iff_getElem?.mp h
  exact c.fact i hi
theorem facts_of {es : List Ent} {cs : List CEnt} {wf : Nat} {K : PySem.W.Frag} {h : Heap} {mg : Str → Option Value} (X : K.In h) (G : h.Ns mainGlobals mg) (c : He.SaysD (faOf es cs) (fnsOf es) K) (hc : cs.all noTup = true)
    (ho : es.all (entOk (mkPg (tblOf es) cs wf)) = true) : Facts (mkPg (tblOf es) cs wf) K mg where
  cst := fun i d e => by
    obtain ⟨z, e1, rfl⟩ := Option.map_eq_some_iff.mp e
    have hm : z ∈ cs := List.mem_of_getElem? e1
    have hf := fact_mem c (f := cFa z) (List.mem_append_right _ (List.mem_map_of_mem hm))
    have hn := List.all_eq_true.mp hc z hm
    have en : (mkPg (tblOf es) cs wf).cnm i = z.x := by show ((cs[i]?).map (·.x)).getD default = z.x; rw [e1]; rfl
    rw [en]
    obtain ⟨x, cc⟩ := z
    cases cc with
    | int j =>
      obtain ⟨t, q⟩ := He.int_ok X G hf
      exact ⟨_, q, t, rfl⟩
    | str s =>
      obtain ⟨t, q⟩ := He.str_ok X G hf
      exact ⟨_, q, t, rfl⟩
    | tup _ => cases hn
  blt := fun x hx => He.free_ok X G (fact_mem c (f := .free x) (List.mem_append_left _ (List.mem_append_right _ (List.mem_map_of_mem hx))))
  fns := fun f d e => by
    have e0 : ((tblOf es)[f]?).map (·.2) = some d := e
    unfold tblOf at e0
    rw [List.getElem?_map] at e0
    cases q : es[f]? with
    | none => rw [q] at e0; cases e0
    | some en =>
      rw [q] at e0
      have : en.d = d := by simpa using e0
      subst this
      have hm : en ∈ es := List.mem_of_getElem? q
      have ok := List.all_eq_true.mp ho en hm
      unfold entOk at ok
      simp only [Bool.and_eq_true, Bool.not_eq_true'] at ok
      obtain ⟨fd, FD⟩ := c.def_ f (d := fnOfE en) (by unfold fnsOf; rw [List.getElem?_map, q]; rfl)
      have nm : (mkPg (tblOf es) cs wf).fnm f = en.x := by
        show (((tblOf es)[f]?).map (·.1)).getD default = en.x
        unfold tblOf
        rw [List.getElem?_map, q]
        rfl
      refine ⟨He.ga K en.x, fd, en.x, en.x, _, _, _, en.N, ?_, ?_, FD, ok.2⟩
      · rw [nm]
        exact He.glo_ok X G (fact_mem c (f := .glo en.x) (List.mem_append_left _ (List.mem_append_left _ (List.mem_map_of_mem hm))))
      · rw [nm]; exact ok.1
theorem fn_calm {P : Program} {w : World} {K : PySem.W.Frag} {mg : Str → Option Value} {base : Heap} {k : Nat} {fa : Addr} {fd : FuncData} {ps : List Str} {sp : Sp} (F : FnOk P w K mg base (L2.CX P w) k fa fd ps sp) : FnOk P w K mg base C8.CX0 k fa fd ps (fun vs H Q _ => sp vs H Q fun _ _ _ => False) := by
  refine ⟨fun vs H Q E h => F.len vs H Q _ h, fun A outer s H args us vs Q E hr he hb hv h => codeAny_mono (F.run A outer s H args us vs Q _ hr he hb hv h) fun q s' hq => ?_⟩
  cases q with
  | error e =>
    obtain ⟨_, _, _, _, _, _, _, _, _, _, _, _, z⟩ := (show L2.CX P w outer H s (fun _ _ _ => False) e s' from hq)
    exact z.elim
  | ok fl =>
    cases fl <;> exact hq
theorem law_facts {es : List Ent} {cs : List CEnt} {wf k f : Nat} {x : Str} {en : Ent} {P : Program} {w : World} {K : PySem.W.Frag} {h : Heap} {mg : Str → Option Value} {fa : Addr} (X : K.In h) (G : h.Ns mainGlobals mg) (hfa : mg en.x = some (.ref fa))
    (c : He.SaysD (faOf es cs) (fnsOf es) K) (hc : cs.all noTup = true) (ho : es.all (entOk (mkPg (tblOf es) cs wf)) = true) (he : es[f]? = some en) (hx : en.d.ps = [x]) :
    ∃ fd : FuncData, (∀ (s : Shared) (v : Value), BindsTo s fd ⟨[v], []⟩ [(x, v)]) ∧ ∀ base : Heap, K.In base → base.Ns mainGlobals mg → FnOk P w K mg base C8.CX0 k fa fd [x] (fun vs H Q _ => spI (mkPg (tblOf es) cs wf) K mg k f vs H Q fun _ _ _ => False) := by
  have ef : (mkPg (tblOf es) cs wf).fns f = some en.d := by
    show ((tblOf es)[f]?).map (·.2) = some en.d
    unfold tblOf
    rw [List.getElem?_map, he]
    rfl
  have nm : (mkPg (tblOf es) cs wf).fnm f = en.x := by
    show (((tblOf es)[f]?).map (·.1)).getD default = en.x
    unfold tblOf
    rw [List.getElem?_map, he]
    rfl
  obtain ⟨fd, FD⟩ := c.def_ f (d := fnOfE en) (by unfold fnsOf; rw [List.getElem?_map, he]; rfl)
  have hm : en ∈ es := List.mem_of_getElem? he
  have ok := List.all_eq_true.mp ho en hm
  unfold entOk at ok
  simp only [Bool.and_eq_true, Bool.not_eq_true'] at ok
  have eg := He.glo_ok X G (fact_mem c (f := .glo en.x) (List.mem_append_left _ (List.mem_append_left _ (List.mem_map_of_mem hm))))
  have ea : fa = He.ga K en.x := by
    rw [hfa] at eg
    simpa using eg
  subst ea
  have main : ∀ base : Heap, FnAt (mkPg (tblOf es) cs wf) k P w K mg base f en.d (He.ga K en.x) fd := fun base => fn_at (facts_of (wf := wf) X G c hc ho) k ef (by rw [nm]; exact eg) (by rw [nm]; exact ok.1) FD ok.2
  have A0 := main h
  refine ⟨fd, fun s v => ?_, fun base _ _ => ?_⟩
  · have b := binds_pos A0.nod A0.p1 A0.p2 A0.p3 A0.p4 A0.p5 A0.p6 (us := [v]) (by rw [hx]; rfl) s
    rw [hx] at b
    exact b
  · have o := (main base).ok
    rw [hx] at o
    exact fn_calm o
end DI
/-! DI16: rules to read the language by. -/
namespace DI
section
variable (S : Store)
@[simp] theorem items_tup (xs : List Val) : items S (.tup xs) = some xs := rfl
@[simp] theorem items_lst (xs : List Val) : items S (.lst xs) = some xs := rfl
@[simp] theorem items_scr (ns : List Int) : items S (.scr ns) = some (ns.map Val.int) := rfl
theorem items_loc {S : Store} {n : Nat} {xs : List Val} (h : S[n]? = some (.lst xs)) : items S (.loc n) = some xs := by simp [items, h]
theorem lstOf_loc {S : Store} {n : Nat} {xs : List Val} (h : S[n]? = some (.lst xs)) : lstOf S (.loc n) = some xs := by simp [lstOf, h]
@[simp] theorem lstOf_lst (xs : List Val) : lstOf S (.lst xs) = some xs := rfl
@[simp] theorem truth_bl (b : Bool) : truth S (.bl b) = some b := rfl
@[simp] theorem truth_int (i : Int) : truth S (.int i) = some (i != 0) := rfl
@[simp] theorem truth_non : truth S .non = some false := rfl
@[simp] theorem truth_tup (xs : List Val) : truth S (.tup xs) = some (!xs.isEmpty) := rfl
@[simp] theorem truth_lst (xs : List Val) : truth S (.lst xs) = some (!xs.isEmpty) := rfl
@[simp] theorem tru_bl (b : Bool) : tru (.bl b) S = .ok b S := rfl
@[simp] theorem tru_int (i : Int) : tru (.int i) S = .ok (i != 0) S := rfl
@[simp] theorem tru_non : tru .non S = .ok false S := rfl
@[simp] theorem tru_tup (xs : List Val) : tru (.tup xs) S = .ok (!xs.isEmpty) S := rfl
@[simp] theorem tru_lst (xs : List Val) : tru (.lst xs) S = .ok (!xs.isEmpty) S := rfl
theorem tru_loc {S : Store} {n : Nat} {xs : List Val} (h : S[n]? = some (.lst xs)) : tru (.loc n) S = .ok (!xs.isEmpty) S := by simp [tru, truth, h]
@[simp] theorem add_ints (i j : Int) : binop .add (.int i) (.int j) S = .ok (.int (i + j)) S := rfl
@[simp] theorem sub_ints (i j : Int) : binop .sub (.int i) (.int j) S = .ok (.int (i - j)) S := rfl
theorem mul_ints {i j : Int} (h : i.natAbs < 18446744073709551616 ∨ j.natAbs < 18446744073709551616) : binop .mul (.int i) (.int j) S = .ok (.int (i * j)) S := by
  have : mulOk i j = true := by unfold mulOk; rcases h with h | h <;> simp [h]
  simp [binop, opMul, this]
theorem mod_ints {i j : Int} (h : 0 < j) : binop .mod (.int i) (.int j) S = .ok (.int (i % j)) S := by simp [binop, opMod, h]
theorem fdiv_ints {i j : Int} (h : 0 < j) (h2 : j < 1073741824) : binop .fdiv (.int i) (.int j) S = .ok (.int (i / j)) S := by simp [binop, opFdiv, h, h2]
theorem pow_ints {i j : Int} (h : 0 ≤ j) (h1 : j ≤ 1000000) (h2 : i.natAbs < 18446744073709551616) : binop .pow (.int i) (.int j) S = .ok (.int (i ^ j.toNat)) S := by simp [binop, opPow, h, h1, h2]
theorem add_lst {xs ys : List Val} (h : xs.length + ys.length ≤ mx) : binop .add (.lst xs) (.lst ys) S = .ok (.lst (xs ++ ys)) S := by simp [binop, opAdd, catL, h]
theorem mul_lst {xs : List Val} {j : Int} (h : -(2 ^ 63) ≤ j) (h1 : j < 2 ^ 63) (h2 : xs.length * j.toNat ≤ mx) : binop .mul (.lst xs) (.int j) S = .ok (.lst (List.replicate j.toNat xs).flatten) S := by
  have : binop .mul (.lst xs) (.int j) S = repL (.lst xs) j S := rfl
  rw [this]
  simp only [repL, lstOf_lst]
  rw [if_pos ⟨h, h1, h2⟩]
theorem mul_tup {xs : List Val} {j : Int} (h : xs.isEmpty = false) (h1 : 2 ≤ j) (h2 : j ≤ 1000) (h3 : xs.length ≤ 1000) : binop .mul (.tup xs) (.int j) S = .ok (.tup (List.replicate j.toNat xs).flatten) S := by
  simp only [binop, opMul]
  rw [if_pos ⟨h, h1, h2, h3⟩]
@[simp] theorem lt_ints (i j : Int) : cmpop .lt (.int i) (.int j) S = .ok (.bl (decide (i < j))) S := rfl
@[simp] theorem le_ints (i j : Int) : cmpop .le (.int i) (.int j) S = .ok (.bl (decide (i ≤ j))) S := rfl
@[simp] theorem gt_ints (i j : Int) : cmpop .gt (.int i) (.int j) S = .ok (.bl (decide (j < i))) S := rfl
@[simp] theorem ge_ints (i j : Int) : cmpop .ge (.int i) (.int j) S = .ok (.bl (decide (j ≤ i))) S := rfl
@[simp] theorem eq_ints (i j : Int) : cmpop .eq (.int i) (.int j) S = .ok (.bl (i == j)) S := rfl
@[simp] theorem ne_ints (i j : Int) : cmpop .ne (.int i) (.int j) S = .ok (.bl (!(i == j))) S := rfl
@[simp] theorem eq_bls (i j : Bool) : cmpop .eq (.bl i) (.bl j) S = .ok (.bl (i == j)) S := rfl
@[simp] theorem ne_bls (i j : Bool) : cmpop .ne (.bl i) (.bl j) S = .ok (.bl (!(i == j))) S := rfl
theorem eq_data {a b : Val} (h : a.dat = true) (h2 : b.dat = true) (h3 : a.dep ≤ 64) (h4 : b.dep ≤ 64) : cmpop .eq a b S = .ok (.bl (Val.eqv a b)) S := by
  have ta : ∀ {x : Val}, x.dat = true → top S x = x := fun {x} h => by cases x <;> simp [top, Val.dat] at h ⊢
  have gen : ofB (if (top S a).dat && ((top S b).dat && (decide ((top S a).dep ≤ 64) && decide ((top S b).dep ≤ 64))) then some (Val.eqv (top S a) (top S b)) else none) S = .ok (.bl (Val.eqv a b)) S := by
    rw [ta h, ta h2, h, h2, decide_eq_true h3, decide_eq_true h4]
    rfl
  have gen2 : ofB (if (top S b).dat = true then some (Val.eqv a (top S b)) else none) S = .ok (.bl (Val.eqv a b)) S := by
    rw [ta h2, if_pos h2]
    rfl
  cases a with
  | int i =>
    cases b with
    | int j => simp [cmpop, eqOf, ofB, Val.eqv]
    | _ => exact gen2
  | _ => exact gen
@[simp] theorem isn_non : cmpop .isn .non .non S = .ok (.bl true) S := rfl
@[simp] theorem isn_int (i : Int) : cmpop .isn (.int i) .non S = .ok (.bl false) S := rfl
@[simp] theorem isn_bl (i : Bool) : cmpop .isn (.bl i) .non S = .ok (.bl false) S := rfl
@[simp] theorem isn_tup (i : List Val) : cmpop .isn (.tup i) .non S = .ok (.bl false) S := rfl
@[simp] theorem isn_lst (i : List Val) : cmpop .isn (.lst i) .non S = .ok (.bl false) S := rfl
theorem idx_of {a : Val} {i : Int} {xs : List Val} {v : Val} (h : items S a = some xs) (h2 : ∀ s, a ≠ .str s) (h3 : ixAt xs i = some v) : opIdx a (.int i) S = .ok v S := by
  cases a with
  | str s => exact absurd rfl (h2 s)
  | _ => simp only [opIdx, h, h3]
@[simp] theorem cut_tup (xs : List Val) (lo hi : Option Int) : opCut (.tup xs) lo hi S = .ok (.tup (cut xs lo hi)) S := rfl
@[simp] theorem cut_lst (xs : List Val) (lo hi : Option Int) : opCut (.lst xs) lo hi S = .ok (.lst (cut xs lo hi)) S := rfl
@[simp] theorem cut_scr (ns : List Int) (lo hi : Option Int) : opCut (.scr ns) lo hi S = .ok (.lst (cut (ns.map Val.int) lo hi)) S := rfl
@[simp] theorem len_tup (xs : List Val) : biop .len [.tup xs] S = .ok (.int xs.length) S := rfl
@[simp] theorem len_lst (xs : List Val) : biop .len [.lst xs] S = .ok (.int xs.length) S := rfl
@[simp] theorem len_scr (ns : List Int) : biop .len [.scr ns] S = .ok (.int ns.length) S := by simp [biop]
theorem len_loc {S : Store} {n : Nat} {xs : List Val} (h : S[n]? = some (.lst xs)) : biop .len [.loc n] S = .ok (.int xs.length) S := by simp [biop, items_loc h]
@[simp] theorem abs_int (i : Int) : biop .abs [.int i] S = .ok (.int (if i < 0 then -i else i)) S := rfl
@[simp] theorem int_int (i : Int) : biop .int [.int i] S = .ok (.int i) S := rfl
@[simp] theorem int_bl (b : Bool) : biop .int [.bl b] S = .ok (.int (if b then 1 else 0)) S := rfl
@[simp] theorem tuple_lst (xs : List Val) : biop .tuple [.lst xs] S = .ok (.tup xs) S := rfl
@[simp] theorem tuple_tup (xs : List Val) : biop .tuple [.tup xs] S = .ok (.tup xs) S := rfl
theorem all_bls (bs : List Bool) : biop .all [.lst (bs.map Val.bl)] S = .ok (.bl (bs.all id)) S := by simp [biop]
theorem any_bls (bs : List Bool) : biop .any [.lst (bs.map Val.bl)] S = .ok (.bl (bs.any id)) S := by simp [biop]
theorem sum_ints (ns : List Int) : biop .sum [.lst (ns.map Val.int)] S = .ok (.int ns.sum) S := by simp [biop]
@[simp] theorem isi_tup (ts : List Ty) (xs : List Val) : biop (.isi ts) [.tup xs] S = .ok (.bl (ts.any (kdB .tuple))) S := rfl
@[simp] theorem isi_lst (ts : List Ty) (xs : List Val) : biop (.isi ts) [.lst xs] S = .ok (.bl (ts.any (kdB .list))) S := rfl
@[simp] theorem isi_int (ts : List Ty) (i : Int) : biop (.isi ts) [.int i] S = .ok (.bl (ts.any (kdB .int))) S := rfl
@[simp] theorem isi_bl (ts : List Ty) (i : Bool) : biop (.isi ts) [.bl i] S = .ok (.bl (ts.any (kdB .bool))) S := rfl
@[simp] theorem isi_str (ts : List Ty) (s : List Nat) : biop (.isi ts) [.str s] S = .ok (.bl (ts.any (kdB .str))) S := rfl
@[simp] theorem isi_non (ts : List Ty) : biop (.isi ts) [.non] S = .ok (.bl (ts.any (kdB .non))) S := rfl
@[simp] theorem ret_rt (v : Val) (r : Sl) (S' : Store) : retOf S (.ok (.rt v, r) S') = fin S v S' := rfl
@[simp] theorem ret_nx (r : Sl) (S' : Store) : retOf S (.ok (.nx, r) S') = fin S .non S' := rfl
theorem rng_up {b : Int} (h : b ≤ 16777216) (h0 : -1 ≤ b) (n : Nat) (hn : n = b.toNat) : rngIts 0 b S = .ok ((List.range n).map fun (i : Nat) => Val.int (i : Int)) S := by
  unfold rngIts
  rw [if_pos (by have : mx = 16777216 := rfl; omega)]
  subst hn
  simp
theorem rng_two {a b : Int} (h : b ≤ 16777216) (h0 : -16777216 ≤ b) (ha : 0 ≤ a) (h1 : a ≤ 16777216) : rngIts a b S = .ok ((List.range (b - a).toNat).map fun (i : Nat) => Val.int (a + (i : Int))) S := by
  unfold rngIts
  rw [if_pos (by have : mx = 16777216 := rfl; omega)]
end
theorem compL_map {α : Type} {f : Val → Store → Out (Option Val)} {h : α → Val} {g : α → Option Val} {S : Store} : ∀ {l : List α}, (∀ i ∈ l, f (h i) S = .ok (g i) S) → compL f (l.map h) S = .ok (l.filterMap g) S
  | [], _ => rfl
  | x :: xs, hf => by
    rw [List.map_cons, compL, hf x (by simp), Out.bind_ok, compL_map fun z hz => hf z (List.mem_cons_of_mem _ hz), Out.bind_ok, List.filterMap_cons]
    cases g x <;> rfl
theorem gcOk_refl (n : Nat) : ∀ S : Store, gcOk n S S = true
  | [] => rfl
  | a :: r => by simp [gcOk, Ob.beq_self, gcOk_refl n r]
/-- a call that leaves the store as it was -/
theorem fin_same {S : Store} {v : Val} (h : v.pure = true) : fin S v S = .ok v S := by
  unfold fin
  rw [Val.bel_of_pure _ h, gcOk_refl]
  simp
/-- .. and made places of its own -/
theorem fin_more {S T : Store} {v : Val} (h : v.pure = true) : fin S v (S ++ T) = .ok v S := by
  unfold fin
  rw [Val.bel_of_pure _ h, gcOk_self]
  simp
theorem pures_ints : ∀ l : List Int, Val.pures (l.map Val.int) = true
  | [] => rfl
  | _ :: r => by simp [Val.pures, Val.pure, pures_ints r]
theorem dats_ints : ∀ l : List Int, Val.dats (l.map Val.int) = true
  | [] => rfl
  | _ :: r => by simp [Val.dats, Val.dat, dats_ints r]
theorem deps_ints : ∀ l : List Int, Val.deps (l.map Val.int) = 0
  | [] => rfl
  | _ :: r => by simp [Val.deps, Val.dep, deps_ints r]
theorem any_ints (i : Int) : ∀ l : List Int, ((l.map Val.int).any fun y => Val.eqv y (.int i)) = l.contains i
  | [] => rfl
  | a :: r => by
    rw [List.map_cons, List.any_cons, any_ints i r]
    simp only [Val.eqv, List.contains_cons]
    rw [Bool.beq_comm]
theorem mem_ints {S : Store} {i : Int} {b : Val} {l : List Int} (hb : items S b = some (l.map Val.int)) (h2 : ∀ s, b ≠ .str s) : cmpop .mem (.int i) b S = .ok (.bl (l.contains i)) S := by
  have : memOf S (.int i) b = some (l.contains i) := by
    cases b with
    | str s => exact absurd rfl (h2 s)
    | _ => simp only [memOf, hb, dats_ints, top, Val.dat, Val.dep, any_ints]; rfl
  simp [cmpop, this, ofB]
/-- a loop, by a word of what is left -/
theorem forL_ind {α : Type} {body : Val → Sl → Store → Out (Fl × Sl)} {h : α → Val} (Inv : List α → Sl → Store → Prop) (Q : Out (Fl × Sl) → Prop)
    (step : ∀ x rest r S, Inv (x :: rest) r S → (∃ f r1 S1, body (h x) r S = .ok (f, r1) S1 ∧ (f = .nx ∨ f = .ct) ∧ Inv rest r1 S1) ∨ (∃ v r1 S1, body (h x) r S = .ok (.rt v, r1) S1 ∧ Q (.ok (.rt v, r1) S1))) (stop : ∀ r S, Inv [] r S → Q (.ok (.nx, r) S)) :
    ∀ (l : List α) (r : Sl) (S : Store), Inv l r S → Q (forL body (l.map h) r S)
  | [], r, S, i => stop r S i
  | x :: rest, r, S, i => by
    rw [List.map_cons, forL]
    rcases step x rest r S i with ⟨f, r1, S1, e, hf, i1⟩ | ⟨v, r1, S1, e, q⟩
    · rw [e, Out.bind_ok]
      rcases hf with rfl | rfl
      · exact forL_ind Inv Q step stop rest r1 S1 i1
      · exact forL_ind Inv Q step stop rest r1 S1 i1
    · rw [e, Out.bind_ok]
      exact q
end DI
/-! DI17: rules to read the language by: places, loops. -/
namespace DI
theorem idx_loc {S : Store} {n : Nat} {xs : List Val} {i : Int} {v : Val} (h : S[n]? = some (.lst xs)) (h3 : ixAt xs i = some v) : opIdx (.loc n) (.int i) S = .ok v S := idx_of S (items_loc h) (fun _ z => Val.noConfusion z) h3
theorem idx_lst {S : Store} {xs : List Val} {i : Int} {v : Val} (h3 : ixAt xs i = some v) : opIdx (.lst xs) (.int i) S = .ok v S := idx_of S rfl (fun _ z => Val.noConfusion z) h3
theorem idx_tup {S : Store} {xs : List Val} {i : Int} {v : Val} (h3 : ixAt xs i = some v) : opIdx (.tup xs) (.int i) S = .ok v S := idx_of S rfl (fun _ z => Val.noConfusion z) h3
theorem idx_scr {S : Store} {ns : List Int} {i : Int} {v : Val} (h3 : ixAt (ns.map Val.int) i = some v) : opIdx (.scr ns) (.int i) S = .ok v S := idx_of S rfl (fun _ z => Val.noConfusion z) h3
theorem ixAt_nat {α : Type} {xs : List α} {i : Nat} (h : i < xs.length) : ixAt xs (i : Int) = some xs[i] := by
  unfold ixAt
  rw [if_pos (by omega), if_pos (by omega)]
  simp [h]
theorem set_loc {S : Store} {n : Nat} {xs : List Val} {i : Int} {v : Val} (h : S[n]? = some (.lst xs)) (h0 : 0 ≤ i) (h1 : i < xs.length) : opSetS (.loc n) (.int i) v S = .ok () (S.set n (.lst (xs.set i.toNat v))) := by
  simp only [opSetS, h]
  rw [if_pos h0, if_pos h1]
theorem fin_set {S : Store} {v : Val} {n : Nat} {ob : Ob} (h : v.pure = true) (h2 : ob.bel S.length = true) : fin S v (S.set n ob) = .ok v (S.set n ob) := by
  unfold fin
  have g := gcOk_set S.length h2 S [] n
  rw [List.append_nil] at g
  rw [Val.bel_of_pure _ h, g]
  simp [List.take_of_length_le]
theorem fin_set_more {S T : Store} {v : Val} {n : Nat} {ob : Ob} (h : v.pure = true) (h2 : ob.bel S.length = true) : fin S v (S.set n ob ++ T) = .ok v (S.set n ob) := by
  unfold fin
  rw [Val.bel_of_pure _ h, gcOk_set S.length h2 S T n]
  simp
theorem get_set {S : Store} {n : Nat} {o p : Ob} (h : S[n]? = some o) : (S.set n p)[n]? = some p := List.getElem?_set_self (List.getElem?_eq_some_iff.mp h).1
/-- the law's box of draws: a number to be used up, a seed, how many were drawn (at most c) -/
def BoxAt (S : Store) (n : Nat) (c : Int) : Prop := ∃ a b c0 : Int, S[n]? = some (.lst [.int a, .int b, .int c0]) ∧ 0 ≤ c0 ∧ c0 ≤ c
def boxOb (a b c : Int) : Ob := .lst [.int a, .int b, .int c]
theorem boxOb_bel (a b c : Int) (n : Nat) : (boxOb a b c).bel n = true := by simp [boxOb, Ob.bel, Val.bels, Val.bel]
/-- a piece that draws: its value, the box changed, nothing else -/
def Draws {α : Type} (S : Store) (n : Nat) (c : Int) (o : Out α) (p : α → Prop) : Prop := ∃ (v : α) (a b c0 : Int), o = .ok v (S.set n (boxOb a b c0)) ∧ 0 ≤ c0 ∧ c0 ≤ c ∧ p v
theorem Draws.box {S : Store} {n : Nat} {c : Int} {ob : Ob} (h : S[n]? = some ob) {a b c0 : Int} (h0 : 0 ≤ c0) (h1 : c0 ≤ c) : BoxAt (S.set n (boxOb a b c0)) n c := ⟨a, b, c0, get_set h, h0, h1⟩
theorem BoxAt.mono {S : Store} {n : Nat} {c c' : Int} (h : BoxAt S n c) (l : c ≤ c') : BoxAt S n c' := by
  obtain ⟨a, b, c0, e, h0, h1⟩ := h
  exact ⟨a, b, c0, e, h0, by omega⟩
theorem BoxAt.some {S : Store} {n : Nat} {c : Int} (h : BoxAt S n c) : ∃ o, S[n]? = some o := by
  obtain ⟨a, b, c0, e, _⟩ := h
  exact ⟨_, e⟩
theorem Draws.pure {α : Type} {S : Store} {n : Nat} {c : Int} {v : α} {p : α → Prop} (h : BoxAt S n c) (q : p v) : Draws S n c (.ok v S) p := by
  obtain ⟨a, b, c0, e, h0, h1⟩ := h
  refine ⟨v, a, b, c0, ?_, h0, h1, q⟩
  have : S.set n (boxOb a b c0) = S := by
    obtain ⟨hn, e2⟩ := List.getElem?_eq_some_iff.mp e
    unfold boxOb
    rw [← e2]
    exact List.set_getElem_self hn
  rw [this]
/-- one draw behind another -/
theorem Draws.bind {α β : Type} {S : Store} {n : Nat} {c c' : Int} {o : Out α} {f : α → Store → Out β} {p : α → Prop} {q : β → Prop} (hb : ∃ ob, S[n]? = Option.some ob) (h : Draws S n c o p) (g : ∀ v S1, BoxAt S1 n c → S1.length = S.length → p v → Draws S1 n c' (f v S1) q) : Draws S n c' (o.bind f) q := by
  obtain ⟨v, a, b, c0, e, h0, h1, hp⟩ := h
  obtain ⟨ob, hob⟩ := hb
  obtain ⟨w, a2, b2, c2, e2, g0, g1, hq⟩ := g v (S.set n (boxOb a b c0)) (Draws.box hob h0 h1) (by simp) hp
  refine ⟨w, a2, b2, c2, ?_, g0, g1, hq⟩
  rw [e, Out.bind_ok, e2, List.set_set]
theorem Draws.mono {α : Type} {S : Store} {n : Nat} {c c' : Int} {o : Out α} {p q : α → Prop} (h : Draws S n c o p) (l : c ≤ c') (g : ∀ v, p v → q v) : Draws S n c' o q := by
  obtain ⟨v, a, b, c0, e, h0, h1, hp⟩ := h
  exact ⟨v, a, b, c0, e, h0, by omega, g v hp⟩
/-- a filter whose test draws -/
theorem Draws.comp {α : Type} {n : Nat} {f : Val → Store → Out (Option Val)} {h : α → Val} {g : α → Val} : ∀ {l : List α} {S : Store} {c : Int}, BoxAt S n c → (∀ i ∈ l, ∀ S1 c1, BoxAt S1 n c1 → c1 < c + l.length → Draws S1 n (c1 + 1) (f (h i) S1) (fun o => o = none ∨ o = some (g i))) →
    Draws S n (c + l.length) (compL f (l.map h) S) (fun ys => ∃ l2 : List α, List.Sublist l2 l ∧ ys = l2.map g)
  | [], S, c, hb, _ => by
    simp only [List.map_nil, compL, List.length_nil]
    exact .pure (hb.mono (by simp)) ⟨[], .slnil, rfl⟩
  | x :: l, S, c, hb, hf => by
    simp only [List.map_cons, compL]
    refine (hf x (by simp) S c hb (by simp; omega)).bind hb.some fun o S1 hb1 _ ho => ?_
    have ih := Draws.comp (l := l) (S := S1) (c := c + 1) (f := f) (h := h) (g := g) hb1 fun i hi S2 c2 hb2 hc2 => hf i (by simp [hi]) S2 c2 hb2 (by simp only [List.length_cons]; omega)
    refine (ih.mono (c' := c + (x :: l).length) (by simp only [List.length_cons]; omega) fun v hv => hv).bind hb1.some fun ys S2 hb2 _ hy => ?_
    obtain ⟨l2, sl, rfl⟩ := hy
    refine .pure hb2 ?_
    rcases ho with rfl | rfl
    · exact ⟨l2, sl.cons _, rfl⟩
    · exact ⟨x :: l2, sl.cons₂ _, rfl⟩
/-- a loop that goes to its end -/
theorem forL_nx {α : Type} {body : Val → Sl → Store → Out (Fl × Sl)} {h : α → Val} (Inv : List α → Sl → Store → Prop)
    (step : ∀ x rest r S, Inv (x :: rest) r S → ∃ r1 S1, body (h x) r S = .ok (.nx, r1) S1 ∧ Inv rest r1 S1) :
    ∀ (l : List α) (r : Sl) (S : Store), Inv l r S → ∃ r1 S1, forL body (l.map h) r S = .ok (.nx, r1) S1 ∧ Inv [] r1 S1
  | [], r, S, i => ⟨r, S, rfl, i⟩
  | x :: rest, r, S, i => by
    obtain ⟨r1, S1, e, i1⟩ := step x rest r S i
    obtain ⟨r2, S2, e2, i2⟩ := forL_nx Inv step rest r1 S1 i1
    refine ⟨r2, S2, ?_, i2⟩
    rw [List.map_cons, forL, e, Out.bind_ok]
    exact e2
theorem get_last {S : Store} {o : Ob} : (S ++ [o])[S.length]? = some o := by simp
theorem set_last {S : Store} {o p : Ob} : (S ++ [o]).set S.length p = S ++ [p] := by simp
theorem Draws.ret {S : Store} {n : Nat} {c : Int} {o : Out (Fl × Sl)} {p : Val → Prop} (h : Draws S n c o fun q => ∃ v, q.1 = .rt v ∧ v.pure = true ∧ p v) : Draws S n c (retOf S o) p := by
  obtain ⟨⟨fl, r⟩, a, b, c0, rfl, h0, h1, v, e, hp, q⟩ := h
  have e : fl = .rt v := e
  subst e
  exact ⟨v, a, b, c0, fin_set hp (boxOb_bel _ _ _ _), h0, h1, q⟩
theorem Draws.nox {α : Type} {S : Store} {n : Nat} {c : Int} {o : Out α} {p : α → Prop} (h : Draws S n c o p) : Draws S n c o.nox p := by
  obtain ⟨v, a, b, c0, rfl, h0, h1, q⟩ := h
  exact ⟨v, a, b, c0, rfl, h0, h1, q⟩
theorem run_eq {P : Pg} {k f : Nat} {d : Fn} {vs : List Val} {S : Store} (e : P.fns f = some d) (h : vs.length = d.ps.length) : run P (k + 1) f vs S = retOf S (exes P (run P k) d.body (start0 d vs) S) := by
  simp only [run, e, if_pos h]
@[simp] theorem mx_0 : (0 ≤ mx) = True := eq_true (by decide)
@[simp] theorem mx_1 : (1 ≤ mx) = True := eq_true (by decide)
@[simp] theorem mx_2 : (2 ≤ mx) = True := eq_true (by decide)
@[simp] theorem mx_3 : (3 ≤ mx) = True := eq_true (by decide)
@[simp] theorem mx_4 : (4 ≤ mx) = True := eq_true (by decide)
@[simp] theorem mx_5 : (5 ≤ mx) = True := eq_true (by decide)
@[simp] theorem mx_6 : (6 ≤ mx) = True := eq_true (by decide)
@[simp] theorem mx_7 : (7 ≤ mx) = True := eq_true (by decide)
@[simp] theorem mx_8 : (8 ≤ mx) = True := eq_true (by decide)
@[simp] theorem mx_9 : (9 ≤ mx) = True := eq_true (by decide)
@[simp] theorem mx_10 : (10 ≤ mx) = True := eq_true (by decide)
@[simp] theorem mx_11 : (11 ≤ mx) = True := eq_true (by decide)
@[simp] theorem mx_12 : (12 ≤ mx) = True := eq_true (by decide)
theorem compL_all {α : Type} {f : Val → Store → Out (Option Val)} {h g : α → Val} {S : Store} {l : List α} (hf : ∀ i ∈ l, f (h i) S = .ok (some (g i)) S) : compL f (l.map h) S = .ok (l.map g) S := by
  rw [compL_map (g := fun i => some (g i)) hf]
  congr 1
  induction l with
  | nil => rfl
  | cons a l ih => rw [List.filterMap_cons, List.map_cons, ih fun i hi => hf i (by simp [hi])]
theorem compL_if {α : Type} {f : Val → Store → Out (Option Val)} {h g : α → Val} {c : α → Bool} {S : Store} {l : List α} (hf : ∀ i ∈ l, f (h i) S = .ok (if c i = true then some (g i) else none) S) : compL f (l.map h) S = .ok ((l.filter c).map g) S := by
  rw [compL_map (g := fun i => if c i = true then some (g i) else none) hf]
  congr 1
  clear hf
  induction l with
  | nil => rfl
  | cons a l ih =>
    rw [List.filterMap_cons, List.filter_cons, ih]
    by_cases q : c a = true
    · rw [if_pos q, if_pos q, List.map_cons]
    · rw [if_neg q, if_neg q]
theorem intsOf_fn {α : Type} (g : α → Int) (l : List α) : intsOf (l.map fun i => Val.int (g i)) = some (l.map g) := by
  have := intsOf_ints (l.map g)
  rwa [List.map_map] at this
theorem pures_fn {α : Type} (g : α → Int) (l : List α) : Val.pures (l.map fun i => Val.int (g i)) = true := by
  have := pures_ints (l.map g)
  rwa [List.map_map] at this
theorem map_fn {α : Type} (g : α → Int) (l : List α) : (l.map fun i => Val.int (g i)) = (l.map g).map Val.int := by
  rw [List.map_map]
  rfl
end DI
/-! DI18: numbers from 0 on, comprehensions by simp. -/
namespace DI
/-- a number from 0 on -/
def vn (n : Nat) : Val := .int (n : Int)
theorem vn_eq (n : Nat) : vn n = .int (n : Int) := rfl
def sq (b : Bool) (xs : List Val) : Val := if b then .lst xs else .tup xs
theorem sq_f (xs : List Val) : sq false xs = .tup xs := rfl
theorem sq_t (xs : List Val) : sq true xs = .lst xs := rfl
section
variable (S : Store)
theorem ev_nat (P : Pg) (C : Cf) (n : Nat) (r : Sl) : ev P C (.int (no_index (OfNat.ofNat n))) r S = .ok (vn (OfNat.ofNat n)) S := by simp only [ev]; rfl
theorem q_add (a b : Nat) : binop .add (vn a) (vn b) S = .ok (vn (a + b)) S := by show _ = Out.ok (Val.int ((a + b : Nat) : Int)) S; rw [Int.natCast_add]; rfl
theorem q_mod (a : Nat) {b : Nat} (h : 0 < b) : binop .mod (vn a) (vn b) S = .ok (vn (a % b)) S := mod_ints S (by omega)
theorem q_fdiv (a : Nat) {b : Nat} (h : 0 < b) (h2 : b < 1073741824) : binop .fdiv (vn a) (vn b) S = .ok (vn (a / b)) S := fdiv_ints S (by omega) (by omega)
theorem q_mul {a b : Nat} (h : a < 18446744073709551616 ∨ b < 18446744073709551616) : binop .mul (vn a) (vn b) S = .ok (vn (a * b)) S := by
  show _ = Out.ok (Val.int ((a * b : Nat) : Int)) S
  rw [Int.natCast_mul]
  exact mul_ints S (by omega)
theorem q_sub (a b : Nat) : binop .sub (vn a) (vn b) S = .ok (.int ((a : Int) - b)) S := rfl
theorem q_subn {a b : Nat} (h : b ≤ a) : binop .sub (vn a) (vn b) S = .ok (vn (a - b)) S := by
  rw [q_sub]; unfold vn; rw [Int.natCast_sub h]
theorem q_lt (a b : Nat) : cmpop .lt (vn a) (vn b) S = .ok (.bl (decide (a < b))) S := by
  rw [vn, vn, lt_ints]; simp only [Int.ofNat_lt]
theorem q_le (a b : Nat) : cmpop .le (vn a) (vn b) S = .ok (.bl (decide (a ≤ b))) S := by
  rw [vn, vn, le_ints]; simp only [Int.ofNat_le]
theorem q_gt (a b : Nat) : cmpop .gt (vn a) (vn b) S = .ok (.bl (decide (b < a))) S := by
  rw [vn, vn, gt_ints]; simp only [Int.ofNat_lt]
theorem q_ge (a b : Nat) : cmpop .ge (vn a) (vn b) S = .ok (.bl (decide (b ≤ a))) S := by
  rw [vn, vn, ge_ints]; simp only [Int.ofNat_le]
theorem beq_nat (a b : Nat) : ((a : Int) == (b : Int)) = decide (a = b) := by
  by_cases h : a = b
  · subst h; simp
  · simp [h, Int.ofNat_inj]
theorem q_eq (a b : Nat) : cmpop .eq (vn a) (vn b) S = .ok (.bl (decide (a = b))) S := by
  rw [vn, vn, eq_ints, beq_nat]
theorem q_ne (a b : Nat) : cmpop .ne (vn a) (vn b) S = .ok (.bl (!decide (a = b))) S := by
  rw [vn, vn, ne_ints, beq_nat]
theorem q_abs (a : Nat) : biop .abs [vn a] S = .ok (vn a) S := by
  rw [vn, abs_int, if_neg (by omega)]
theorem q_int (a : Nat) : biop .int [vn a] S = .ok (vn a) S := rfl
theorem q_tru (a : Nat) : tru (vn a) S = .ok (decide (a ≠ 0)) S := by
  rw [vn, tru_int]
  congr 1
  by_cases h : a = 0
  · subst h; rfl
  · simp [h]
theorem q_isi (ts : List Ty) (a : Nat) : biop (.isi ts) [vn a] S = .ok (.bl (ts.any (kdB .int))) S := rfl
theorem q_len_tup (xs : List Val) : biop .len [.tup xs] S = .ok (vn xs.length) S := rfl
theorem q_len_lst (xs : List Val) : biop .len [.lst xs] S = .ok (vn xs.length) S := rfl
theorem q_len_sq (b : Bool) (xs : List Val) : biop .len [sq b xs] S = .ok (vn xs.length) S := by cases b <;> rfl
theorem items_sq (b : Bool) (xs : List Val) : items S (sq b xs) = some xs := by cases b <;> rfl
theorem q_tup_sq (b : Bool) (xs : List Val) : biop .tuple [sq b xs] S = .ok (.tup xs) S := by cases b <;> rfl
theorem q_rng {b : Nat} (h : b ≤ 16777216) : rngIts ((0 : Nat) : Int) (b : Int) S = .ok ((List.range b).map vn) S := rng_up S (by omega) (by omega) b (by simp)
theorem q_rng0 {b : Nat} (h : b ≤ 16777216) : rngIts 0 (b : Int) S = .ok ((List.range b).map vn) S := rng_up S (by omega) (by omega) b (by simp)
theorem q_rng2 {a b : Nat} (h : b ≤ 16777216) (h2 : a ≤ 16777216) : rngIts (a : Int) (b : Int) S = .ok ((List.range (b - a)).map fun i => vn (a + i)) S := by
  rw [rng_two S (by omega) (by omega) (by omega) (by omega)]
  have e : ((b : Int) - (a : Int)).toNat = b - a := by omega
  rw [e]
  rfl
end
/-! ### comprehensions -/
def cmpM {α : Type} : (l : List α) → (f : (x : α) → x ∈ l → Store → Out (Option Val)) → Store → Out (List Val)
  | [], _, S => .ok [] S
  | x :: xs, f, S => (f x (List.mem_cons_self ..) S).bind fun o S1 => (cmpM xs (fun y h => f y (List.mem_cons_of_mem _ h)) S1).bind fun ys S2 => .ok (match o with
    | some y => y :: ys
    | none => ys) S2
theorem compL_G {α : Type} (f : Val → Store → Out (Option Val)) (h : α → Val) : ∀ (l : List α) (S : Store), compL f (l.map h) S = cmpM l (fun x _ S => f (h x) S) S
  | [], S => rfl
  | x :: xs, S => by
    rw [List.map_cons, compL, cmpM]
    refine congrArg _ (funext fun o => funext fun S1 => ?_)
    rw [compL_G f h xs S1]
    all_goals rfl
theorem cmpM_all {α : Type} (g : α → Val) : ∀ (l : List α) (S : Store), cmpM l (fun x _ S => .ok (some (g x)) S) S = .ok (l.map g) S
  | [], S => rfl
  | x :: xs, S => by rw [cmpM, Out.bind_ok, cmpM_all g xs, Out.bind_ok, List.map_cons]
theorem cmpM_if {α : Type} (p : α → Prop) [hp : ∀ x, Decidable (p x)] (g : α → Val) : ∀ (l : List α) (S : Store), cmpM l (fun x _ S => if p x then .ok (some (g x)) S else .ok none S) S = .ok ((l.filter fun x => decide (p x)).map g) S
  | [], S => rfl
  | x :: xs, S => by
    rw [cmpM, List.filter_cons]
    by_cases h : p x
    · rw [if_pos h, Out.bind_ok, cmpM_if p g xs, Out.bind_ok, if_pos (by simpa using h), List.map_cons]
    · rw [if_neg h, Out.bind_ok, cmpM_if p g xs, Out.bind_ok, if_neg (by simpa using h)]
theorem cmpM_none {α : Type} : ∀ (l : List α) (S : Store), cmpM l (fun _ _ S => .ok none S) S = .ok [] S
  | [], S => rfl
  | x :: xs, S => by rw [cmpM, Out.bind_ok, cmpM_none xs, Out.bind_ok]
/-- .. over 0, 1, .. -/
def cmpR (n : Nat) (f : (x : Nat) → x < n → Store → Out (Option Val)) (S : Store) : Out (List Val) := cmpM (List.range n) (fun x h => f x (List.mem_range.mp h)) S
theorem compL_R (f : Val → Store → Out (Option Val)) (h : Nat → Val) (n : Nat) (S : Store) : compL f ((List.range n).map h) S = cmpR n (fun x _ S => f (h x) S) S := compL_G f h _ S
theorem cmpM_range (n : Nat) (f : (x : Nat) → x ∈ List.range n → Store → Out (Option Val)) (S : Store) : cmpM (List.range n) f S = cmpR n (fun x h => f x (List.mem_range.mpr h)) S := rfl
theorem cmpR_all (g : Nat → Val) (n : Nat) (S : Store) : cmpR n (fun x _ S => .ok (some (g x)) S) S = .ok ((List.range n).map g) S := cmpM_all g _ S
theorem cmpR_if (p : Nat → Prop) [∀ x, Decidable (p x)] (g : Nat → Val) (n : Nat) (S : Store) : cmpR n (fun x _ S => if p x then .ok (some (g x)) S else .ok none S) S = .ok (((List.range n).filter fun x => decide (p x)).map g) S := cmpM_if p g _ S
theorem cmpR_none (n : Nat) (S : Store) : cmpR n (fun _ _ S => .ok none S) S = .ok [] S := cmpM_none _ S
/-- the comprehension of a list of one -/
theorem compL_nil (f : Val → Store → Out (Option Val)) (S : Store) : compL f [] S = .ok [] S := rfl
/-! ### data -/
theorem pures_map {α : Type} (g : α → Val) : ∀ l : List α, Val.pures (l.map g) = l.all fun x => (g x).pure
  | [] => rfl
  | x :: l => by rw [List.map_cons, List.all_cons, ← pures_map g l]; rfl
theorem pure_bl (b : Bool) : (Val.bl b).pure = true := by simp [Val.pure]
theorem pure_int (i : Int) : (Val.int i).pure = true := by simp [Val.pure]
theorem pure_non : Val.non.pure = true := by simp [Val.pure]
theorem pure_str (s : List Nat) : (Val.str s).pure = true := by simp [Val.pure]
theorem pure_tup (xs : List Val) : (Val.tup xs).pure = Val.pures xs := by simp [Val.pure]
theorem pure_lst (xs : List Val) : (Val.lst xs).pure = Val.pures xs := by simp [Val.pure]
theorem pures_nil : Val.pures [] = true := by simp [Val.pures]
theorem pures_cons (x : Val) (xs : List Val) : Val.pures (x :: xs) = (x.pure && Val.pures xs) := by simp [Val.pures]
theorem pures_app : ∀ xs ys : List Val, Val.pures (xs ++ ys) = (Val.pures xs && Val.pures ys)
  | [], ys => by simp [Val.pures]
  | x :: xs, ys => by simp [Val.pures, pures_app xs ys, Bool.and_assoc]
theorem pure_vn (n : Nat) : (vn n).pure = true := rfl
theorem pure_sq (b : Bool) (xs : List Val) : (sq b xs).pure = Val.pures xs := by cases b <;> rfl
theorem fin_pure {S : Store} {v : Val} (h : v.pure = true) : fin S v S = .ok v S := fin_same h
theorem mem_tup (S : Store) (i : Nat) (l : List Nat) : cmpop .mem (vn i) (.tup (l.map vn)) S = .ok (.bl (decide (i ∈ l))) S := by
  have := mem_ints (S := S) (i := (i : Int)) (b := .tup (l.map vn)) (l := l.map fun n : Nat => (n : Int)) (by rw [List.map_map]; rfl) (fun _ z => Val.noConfusion z)
  rw [show vn i = .int (i : Int) from rfl, this]
  congr 2
  rw [Bool.eq_iff_iff]
  simp [Int.ofNat_inj]
theorem mem_lst (S : Store) (i : Nat) (l : List Nat) : cmpop .mem (vn i) (.lst (l.map vn)) S = .ok (.bl (decide (i ∈ l))) S := by
  have := mem_ints (S := S) (i := (i : Int)) (b := .lst (l.map vn)) (l := l.map fun n : Nat => (n : Int)) (by rw [items_lst, List.map_map]; rfl) (fun _ z => Val.noConfusion z)
  rw [show vn i = .int (i : Int) from rfl, this]
  congr 2
  rw [Bool.eq_iff_iff]
  simp [Int.ofNat_inj]
theorem mem_sq (S : Store) (b : Bool) (i : Nat) (l : List Nat) : cmpop .mem (vn i) (sq b (l.map vn)) S = .ok (.bl (decide (i ∈ l))) S := by
  cases b
  · exact mem_tup S i l
  · exact mem_lst S i l
theorem nmem_of {S : Store} {a b : Val} {k : Bool} (h : cmpop .mem a b S = .ok (.bl k) S) : cmpop .nmem a b S = .ok (.bl (!k)) S := by
  simp only [cmpop, ofB] at h ⊢
  cases e : memOf S a b with
  | none => rw [e] at h; cases h
  | some x =>
    rw [e] at h
    have : x = k := by simpa using h
    subst this
    rfl
/-! ### the interpreter's equations, matches by names -/
/-- a mark that keeps simp out of what comes behind -/
inductive Tok {α : Sort u} (a : α) : Type | mk
def bd {α β : Type} (o : Out α) (f : α → Store → Out β) (_ : Tok f) : Out β := o.bind f
theorem bd_ok {α β : Type} (a : α) (S : Store) (f : α → Store → Out β) (t) : bd (.ok a S) f t = f a S := rfl
theorem bd_exn {α β : Type} (x : Exn) (S : Store) (f : α → Store → Out β) (t) : bd (.exn x S) f t = .exn x S := rfl
theorem bd_assoc {α β γ : Type} (o : Out α) (f : α → Store → Out β) (s) (g : β → Store → Out γ) (t) : bd (bd o f s) g t = bd o (fun a S => bd (f a S) g .mk) .mk := by
  cases o <;> rfl
def forT (body : Val → Sl → Store → Out (Fl × Sl)) (_ : Tok body) (xs : List Val) (r : Sl) (S : Store) : Out (Fl × Sl) := forL body xs r S
def whlT (c : Sl → Store → Out Bool) (body : Sl → Store → Out (Fl × Sl)) (_ : Tok c) (_ : Tok body) (n : Nat) (r : Sl) (S : Store) : Out (Fl × Sl) := whlL c body n r S
theorem bindE {α β : Type} {o : Out α} {f g : α → Store → Out β} (h : ∀ x S, f x S = g x S) : o.bind f = o.bind g := congrArg _ (funext fun x => funext fun S => h x S)
def optV : Val → Store → Out (Option Int)
  | .int i, S => .ok (some i) S
  | _, _ => .bad
def itV : Val → Store → Out (List Val)
  | .tup xs, S => .ok xs S
  | .lst xs, S => .ok xs S
  | _, _ => .bad
def enV : Val → Store → Out (List Val)
  | .lst xs, S => .ok (enumIts xs) S
  | .tup xs, S => .ok (enumIts xs) S
  | _, _ => .bad
def rng1V : Val → Store → Out (List Val)
  | .int j, S => rngIts 0 j S
  | _, _ => .bad
def rng2V : Val → Val → Store → Out (List Val)
  | .int i, .int j, S => rngIts i j S
  | _, _, _ => .bad
def rng3V : Val → Val → Val → Store → Out (List Val)
  | .int i, .int j, .int k, S => rngIts3 i j k S
  | _, _, _, _ => .bad
def zpV : Val → Val → Store → Out (List Val)
  | .tup xs, .tup ys, S => .ok (zipIts xs ys) S
  | .lst xs, .lst ys, S => .ok (zipIts xs ys) S
  | _, _, _ => .bad
def lenV (xs : List Val) (S : Store) : Out (List Val) := if xs.length ≤ mx then .ok xs S else .bad
def ofsV (x : Val) (S : Store) : Out (List Val) := match items S x with
  | some xs => .ok xs S
  | none => .bad
def catV2 (x y : Val) (S : Store) : Out (List Val) := match lstOf S x with
  | some xs => (match lstOf S y with
    | some ys => lenV (xs ++ ys) S
    | none => .bad)
  | none => .bad
def mulV2 (x y : Val) (S : Store) : Out (List Val) := match y with
  | .int j => (match lstOf S x with
    | some xs => if -(2 ^ 63) ≤ j ∧ j < 2 ^ 63 ∧ xs.length * j.toNat ≤ mx then .ok (List.replicate j.toNat xs).flatten S else .bad
    | none => .bad)
  | _ => .bad
def srtV (x : Val) (S : Store) : Out (List Val) := match items S x with
  | some xs => (match srtL xs with
    | some ys => .ok ys S
    | none => .bad)
  | none => .bad
def sstV (x : Val) (S : Store) : Out (List Val) := match items S x with
  | some xs => (match intsOf xs with
    | some ns => if (usort ns).length < 64 ∧ ns.length < 4000 then .ok ((usort ns).map Val.int) S else .bad
    | none => .bad)
  | none => .bad
def lensV (x : Val) (S : Store) : Out Val := match items S x with
  | some xs => (match intsOf xs with
    | some ns => if ns.length < 4000 then .ok (.int (usort ns).length) S else .bad
    | none => .bad)
  | none => .bad
def revV : Val → Store → Out (List Val)
  | .tup _, _ => .bad
  | x, S => (match items S x with
    | some xs => .ok xs.reverse S
    | none => .bad)
def bkV : Val → Store → Out Val
  | .tup xs, S => .ok (.tup xs.reverse) S
  | .lst xs, S => .ok (.lst xs.reverse) S
  | _, _ => .bad
def minDV (x : Val) (S : Store) : Out Val := match items S x with
  | some xs => (match intsOf xs with
    | some [] => .ok .non S
    | some (n :: ns) => .ok (.int (minI (n :: ns))) S
    | none => .bad)
  | none => .bad
def srtrV (x : Val) (S : Store) : Out (List Val) := match lstOf S x with
  | some xs => (match intsOf xs with
    | some ns => .ok ((isort ns).reverse.map Val.int) S
    | none => .bad)
  | none => .bad
def starV {α : Type} (o : Option (List Val)) (f : List Val → Out α) (_ : Tok f) : Out α := match o with
  | some xs => f xs
  | none => .bad
def nlV (m : Bool) (xs : List Val) (S : Store) : Out Val := if m then .ok (.loc S.length) (S ++ [.lst xs]) else .ok (.lst xs) S
def tupV (xs : List Val) (S : Store) : Out Val := if xs.length ≤ mx then .ok (.tup xs) S else .bad
def frzV (x : Val) (S : Store) : Out Val := match x with
  | .loc n => (match S[n]? with
    | some (.lst xs) => .ok (.lst xs) (S.set n .dead)
    | _ => .bad)
  | _ => .bad
def varV (o : Option (Option Val)) (S : Store) : Out Val := match o with
  | some (some v) => .ok v S
  | _ => .bad
def mthV (x : Val) (S : Store) (f : Out Val) : Out Val := match lstOf S x with
  | some _ => f
  | none => .bad
/-- a slot's store, what goes on with it -/
def tgV {α : Type} (o : Option Sl) (f : Sl → Out α) (_ : Tok f) : Out α := match o with
  | some r => f r
  | none => .bad
def augV (o : BOp) (x y : Val) (S : Store) : Out Val := match x with
  | .int a => (match y with
    | .int b => binop o (.int a) (.int b) S
    | _ => .bad)
  | _ => .bad
def keepC (k : Bool) (o : Out (Option Val)) (S : Store) : Out (Option Val) := if k = true then o else .ok none S
section
variable (P : Pg) (C : Cf) (r : Sl) (S : Store)
theorem ev_var (i) : ev P C (.var i) r S = varV r[i]? S := rfl
theorem ev_int (i) : ev P C (.int i) r S = .ok (.int i) S := rfl
theorem ev_bl (b) : ev P C (.bl b) r S = .ok (.bl b) S := rfl
theorem ev_non : ev P C .non r S = .ok .non S := rfl
theorem ev_str (s) : ev P C (.str s) r S = .ok (.str s) S := rfl
theorem ev_bin (o a b) : ev P C (.bin o a b) r S = bd (ev P C a r S) (fun x S1 => bd (ev P C b r S1) (fun y S2 => binop o x y S2) .mk) .mk := rfl
theorem ev_cmp (o a b) : ev P C (.cmp o a b) r S = bd (ev P C a r S) (fun x S1 => bd (ev P C b r S1) (fun y S2 => cmpop o x y S2) .mk) .mk := rfl
def chnV (k : Val) (S : Store) (f : Out Val) : Out Val := match k with
  | .bl true => f
  | .bl false => .ok (.bl false) S
  | _ => .bad
theorem ev_chn (o p a b c) : ev P C (.chn o p a b c) r S = bd (ev P C a r S) (fun x S1 => bd (ev P C b r S1) (fun y S2 => bd (cmpop o x y S2) (fun k S3 => chnV k S3 (bd (ev P C c r S3) (fun z S4 => cmpop p y z S4) .mk)) .mk) .mk) .mk := rfl
theorem ev_neg (a) : ev P C (.neg a) r S = bd (ev P C a r S) opNeg .mk := rfl
theorem ev_nt (a) : ev P C (.nt a) r S = bd (bd (ev P C a r S) tru .mk) (fun k S1 => .ok (.bl (!k)) S1) .mk := rfl
theorem ev_and (a b) : ev P C (.and a b) r S = bd (ev P C a r S) (fun x S1 => bd (tru x S1) (fun k S2 => if k = true then ev P C b r S2 else .ok x S2) .mk) .mk := rfl
theorem ev_or (a b) : ev P C (.or a b) r S = bd (ev P C a r S) (fun x S1 => bd (tru x S1) (fun k S2 => if k = true then .ok x S2 else ev P C b r S2) .mk) .mk := rfl
theorem ev_ite (c a b) : ev P C (.ite c a b) r S = bd (bd (ev P C c r S) tru .mk) (fun k S1 => if k = true then ev P C a r S1 else ev P C b r S1) .mk := rfl
theorem ev_tup (es) : ev P C (.tup es) r S = bd (evs P C es r S) (fun xs S1 => tupV xs S1) .mk := rfl
theorem ev_idx (a i) : ev P C (.idx a i) r S = bd (ev P C a r S) (fun x S1 => bd (ev P C i r S1) (fun y S2 => opIdx x y S2) .mk) .mk := rfl
theorem ev_slc (a lo hi) : ev P C (.slc a lo hi) r S = bd (ev P C a r S) (fun x S1 => bd (evo P C lo r S1) (fun l S2 => bd (evo P C hi r S2) (fun h S3 => opCut x l h S3) .mk) .mk) .mk := rfl
theorem ev_cal (f es) : ev P C (.cal f es) r S = bd (evs P C es r S) (fun xs S1 => C f xs S1) .mk := rfl
def calkV (P : Pg) (C : Cf) (f : Nat) (xs : List Val) (zs : List (Nat × Val)) (S : Store) : Out Val := match P.fns f with
  | some d => C f (placed d.ps.length xs zs) S
  | none => .bad
theorem ev_calk (f es ks) : ev P C (.calk f es ks) r S = bd (evs P C es r S) (fun xs S1 => bd (evk P C ks r S1) (fun zs S2 => calkV P C f xs zs S2) .mk) .mk := rfl
theorem ev_bi (b es) : ev P C (.bi b es) r S = bd (evs P C es r S) (fun xs S1 => biop b xs S1) .mk := rfl
theorem ev_mth (m o es) : ev P C (.mth m o es) r S = bd (ev P C o r S) (fun x S1 => mthV x S1 (bd (evs P C es r S1) (fun xs S2 => mtop m x xs S2) .mk)) .mk := rfl
theorem ev_nl (m n) : ev P C (.nl m n) r S = bd (evn P C n r S) (fun xs S1 => nlV m xs S1) .mk := rfl
theorem ev_frz (e) : ev P C (.frz e) r S = bd (ev P C e r S) (fun x S1 => frzV x S1) .mk := rfl
theorem ev_tupR (it) : ev P C (.tupR it) r S = bd (evi P C it r S) (fun xs S1 => .ok (.tup xs) S1) .mk := rfl
theorem evs_nil : evs P C .nil r S = .ok [] S := rfl
theorem evs_cons (e es) : evs P C (.cons e es) r S = bd (ev P C e r S) (fun x S1 => bd (evs P C es r S1) (fun xs S2 => .ok (x :: xs) S2) .mk) .mk := rfl
theorem evk_nil : evk P C .nil r S = .ok [] S := rfl
theorem evk_cons (j e ks) : evk P C (.cons j e ks) r S = bd (ev P C e r S) (fun x S1 => bd (evk P C ks r S1) (fun xs S2 => .ok ((j, x) :: xs) S2) .mk) .mk := rfl
theorem evo_no : evo P C .no r S = .ok none S := rfl
theorem evo_yes (e) : evo P C (.yes e) r S = bd (ev P C e r S) (fun x S1 => optV x S1) .mk := by
  simp only [evo]
  exact bindE fun x S1 => by cases x <;> rfl
theorem evn_disp (es) : evn P C (.disp es) r S = bd (evs P C es r S) (fun xs S1 => lenV xs S1) .mk := rfl
theorem evn_ofs (e) : evn P C (.ofs e) r S = bd (ev P C e r S) (fun x S1 => ofsV x S1) .mk := rfl
theorem evn_cat (a b) : evn P C (.cat a b) r S = bd (ev P C a r S) (fun x S1 => bd (ev P C b r S1) (fun y S2 => catV2 x y S2) .mk) .mk := by
  simp only [evn]
  refine bindE fun x S1 => bindE fun y S2 => ?_
  simp only [catV2, lenV, List.length_append]
  all_goals rfl
theorem evn_mul (a b) : evn P C (.mul a b) r S = bd (ev P C a r S) (fun x S1 => bd (ev P C b r S1) (fun y S2 => mulV2 x y S2) .mk) .mk := rfl
theorem evn_rng (it) : evn P C (.rng it) r S = evi P C it r S := rfl
theorem evn_srt (e) : evn P C (.srt e) r S = bd (ev P C e r S) (fun x S1 => srtV x S1) .mk := rfl
theorem evn_sst (e) : evn P C (.sst e) r S = bd (ev P C e r S) (fun x S1 => sstV x S1) .mk := rfl
theorem evn_rev (e) : evn P C (.rev e) r S = bd (ev P C e r S) (fun x S1 => revV x S1) .mk := by
  simp only [evn]
  exact bindE fun x S1 => by cases x <;> rfl
theorem ev_lens (e) : ev P C (.lens e) r S = bd (ev P C e r S) (fun x S1 => lensV x S1) .mk := rfl
theorem ev_bk (e) : ev P C (.bk e) r S = bd (ev P C e r S) (fun x S1 => bkV x S1) .mk := by
  simp only [ev]
  exact bindE fun x S1 => by cases x <;> rfl
theorem bkV_tup (xs) : bkV (.tup xs) S = .ok (.tup xs.reverse) S := rfl
theorem bkV_lst (xs) : bkV (.lst xs) S = .ok (.lst xs.reverse) S := rfl
theorem ev_minD (e) : ev P C (.minD e) r S = bd (ev P C e r S) (fun x S1 => minDV x S1) .mk := rfl
theorem evn_srtr (e) : evn P C (.srtr e) r S = bd (ev P C e r S) (fun x S1 => srtrV x S1) .mk := rfl
theorem evs_star (e es) : evs P C (.star e es) r S = bd (ev P C e r S) (fun x S1 => starV (items S1 x) (fun xs => bd (evs P C es r S1) (fun ys S2 => .ok (xs ++ ys) S2) .mk) .mk) .mk := rfl
theorem starV_some {α : Type} (xs : List Val) (f : List Val → Out α) (t) : starV (some xs) f t = f xs := rfl
theorem revV_lst (xs) : revV (.lst xs) S = .ok xs.reverse S := rfl
theorem evn_lc (own t it c e) : evn P C (.lc own t it c e) r S = bd (evi P C it r S) (fun xs S1 => bd (compL (fun x S2 => tgV (setT t x (wipeS r own) S2) (fun r2 => bd (evc P C c r2 S2) (fun k S3 => keepC k (bd (ev P C e r2 S3) (fun y S4 => .ok (some y) S4) .mk) S3) .mk) .mk) xs S1).nox (fun ys S8 => lenV ys S8) .mk) .mk := rfl
theorem evc_no : evc P C .no r S = .ok true S := rfl
theorem evc_yes (e) : evc P C (.yes e) r S = bd (ev P C e r S) tru .mk := rfl
theorem evi_ex (e) : evi P C (.ex e) r S = bd (ev P C e r S) (fun x S1 => itV x S1) .mk := by
  simp only [evi]
  exact bindE fun x S1 => by cases x <;> rfl
theorem evi_r1 (a) : evi P C (.r1 a) r S = bd (ev P C a r S) (fun x S1 => rng1V x S1) .mk := by
  simp only [evi]
  exact bindE fun x S1 => by cases x <;> rfl
theorem evi_r2 (a b) : evi P C (.r2 a b) r S = bd (ev P C a r S) (fun x S1 => bd (ev P C b r S1) (fun y S2 => rng2V x y S2) .mk) .mk := by
  simp only [evi]
  exact bindE fun x S1 => bindE fun y S2 => by cases x <;> cases y <;> rfl
theorem evi_r3 (a b c) : evi P C (.r3 a b c) r S = bd (ev P C a r S) (fun x S1 => bd (ev P C b r S1) (fun y S2 => bd (ev P C c r S2) (fun z S3 => rng3V x y z S3) .mk) .mk) .mk := by
  simp only [evi]
  exact bindE fun x S1 => bindE fun y S2 => bindE fun z S3 => by cases x <;> cases y <;> cases z <;> rfl
theorem evi_en (e) : evi P C (.en e) r S = bd (ev P C e r S) (fun x S1 => enV x S1) .mk := by
  simp only [evi]
  exact bindE fun x S1 => by cases x <;> rfl
theorem evi_zp (a b) : evi P C (.zp a b) r S = bd (ev P C a r S) (fun x S1 => bd (ev P C b r S1) (fun y S2 => zpV x y S2) .mk) .mk := by
  simp only [evi]
  exact bindE fun x S1 => bindE fun y S2 => by cases x <;> cases y <;> rfl
theorem setT_n (i v) : setT (.n i) v r S = some (r.set i (some v)) := rfl
def setTV (ts : List Tg) (o : Option (List Val)) (r : Sl) (S : Store) : Option Sl := match o with
  | some xs => setTs ts xs r S
  | none => none
theorem setT_t (ts v) : setT (.t ts) v r S = setTV ts (items S v) r S := rfl
theorem setTV_some (ts xs) : setTV ts (some xs) r S = setTs ts xs r S := rfl
theorem setTs_nil : setTs [] [] r S = some r := rfl
def setTC (ts : List Tg) (xs : List Val) (o : Option Sl) (S : Store) : Option Sl := match o with
  | some r => setTs ts xs r S
  | none => none
theorem setTs_cons (t ts x xs) : setTs (t :: ts) (x :: xs) r S = setTC ts xs (setT t x r S) S := rfl
theorem setTC_some (ts xs) : setTC ts xs (some r) S = setTs ts xs r S := rfl
theorem exe_set (t e) : exe P C (.set t e) r S = bd (ev P C e r S) (fun x S1 => tgV (setT t x r S1) (fun r1 => .ok (.nx, r1) S1) .mk) .mk := rfl
theorem exe_par (ts es) : exe P C (.par ts es) r S = bd (evs P C es r S) (fun xs S1 => tgV (setAll ts xs r) (fun r1 => .ok (.nx, r1) S1) .mk) .mk := rfl
theorem exe_setS (a i e) : exe P C (.setS a i e) r S = bd (ev P C e r S) (fun x S1 => bd (ev P C a r S1) (fun o S2 => bd (ev P C i r S2) (fun k S3 => bd (opSetS o k x S3) (fun _ S4 => .ok (.nx, r) S4) .mk) .mk) .mk) .mk := rfl
def augG (P : Pg) (C : Cf) (r : Sl) (S : Store) (i : Nat) (o : BOp) (e : Ex) (q : Option (Option Val)) : Out (Fl × Sl) := match q with
  | some (some x) => bd (ev P C e r S) (fun y S1 => bd (augV o x y S1) (fun z S2 => .ok (.nx, r.set i (some z)) S2) .mk) .mk
  | _ => .bad
theorem exe_aug (i o e) : exe P C (.aug i o e) r S = augG P C r S i o e r[i]? := by
  simp only [exe]
  generalize r[i]? = q
  rcases q with _ | _ | x
  · rfl
  · rfl
  · exact bindE fun y S1 => by cases x <;> first
      | rfl
      | (cases y <;> rfl)
theorem augG_some (i o e x) : augG P C r S i o e (some (some x)) = bd (ev P C e r S) (fun y S1 => bd (augV o x y S1) (fun z S2 => .ok (.nx, r.set i (some z)) S2) .mk) .mk := rfl
theorem exe_ex (e) : exe P C (.ex e) r S = bd (ev P C e r S) (fun _ S1 => .ok (.nx, r) S1) .mk := rfl
theorem exe_ret (e) : exe P C (.ret e) r S = bd (ev P C e r S) (fun x S1 => .ok (.rt x, r) S1) .mk := rfl
theorem exe_retN : exe P C .retN r S = .ok (.rt .non, r) S := rfl
theorem exe_ite (c a b) : exe P C (.ite c a b) r S = bd (bd (ev P C c r S) tru .mk) (fun k S1 => if k = true then exes P C a r S1 else exes P C b r S1) .mk := rfl
theorem exe_whl (c b) : exe P C (.whl c b) r S = whlT (fun r1 S1 => bd (ev P C c r1 S1) tru .mk) (fun r1 S1 => exes P C b r1 S1) .mk .mk P.wf r S := rfl
theorem exe_fr (t it b) : exe P C (.fr t it b) r S = bd (evi P C it r S) (fun xs S1 => forT (fun x r1 S2 => tgV (setT t x r1 S2) (fun r2 => exes P C b r2 S2) .mk) .mk xs r S1) .mk := rfl
def fzV (i : Nat) (q : Option (Option Val)) (r : Sl) (S : Store) : Out (Fl × Sl) := match q with
  | some (some (.loc n)) => (match S[n]? with
    | some (.lst xs) => .ok (.nx, r.set i (some (.lst xs))) (S.set n .dead)
    | _ => .bad)
  | _ => .bad
theorem exe_fz (i) : exe P C (.fz i) r S = fzV i r[i]? r S := rfl
theorem exe_pass : exe P C .pass r S = .ok (.nx, r) S := rfl
theorem exe_brk : exe P C .brk r S = .ok (.bk, r) S := rfl
theorem exe_cnt : exe P C .cnt r S = .ok (.ct, r) S := rfl
def seqV (p : Fl × Sl) (S : Store) (f : Sl → Out (Fl × Sl)) : Out (Fl × Sl) := match p with
  | (.nx, r1) => f r1
  | (g, r1) => .ok (g, r1) S
theorem exes_nil : exes P C .nil r S = .ok (.nx, r) S := rfl
theorem exes_cons (s t) : exes P C (.cons s t) r S = bd (exe P C s r S) (fun p S1 => seqV p S1 fun r1 => exes P C t r1 S1) .mk := rfl
theorem seqV_nx (f) : seqV (.nx, r) S f = f r := rfl
theorem seqV_rt (v f) : seqV (.rt v, r) S f = .ok (.rt v, r) S := rfl
theorem seqV_bk (f) : seqV (.bk, r) S f = .ok (.bk, r) S := rfl
theorem seqV_ct (f) : seqV (.ct, r) S f = .ok (.ct, r) S := rfl
theorem tgV_some {α : Type} (f : Sl → Out α) (t) : tgV (some r) f t = f r := rfl
theorem varV_some (v) : varV (some (some v)) S = .ok v S := rfl
theorem chnV_bl (k f) : chnV (.bl k) S f = if k = true then f else .ok (.bl false) S := by cases k <;> rfl
theorem keepC_t (o) : keepC true o S = o := rfl
theorem keepC_p (p : Prop) [Decidable p] (o) : keepC (decide p) o S = if p then o else .ok none S := by
  unfold keepC
  by_cases h : p <;> simp [h]
theorem keepC_n (p : Prop) [Decidable p] (o) : keepC (!decide p) o S = if ¬ p then o else .ok none S := by
  unfold keepC
  by_cases h : p <;> simp [h]
end
section
variable (S : Store)
theorem optV_n (n : Nat) : optV (vn n) S = .ok (some (n : Int)) S := rfl
theorem optV_i (n : Int) : optV (.int n) S = .ok (some n) S := rfl
theorem itV_tup (xs) : itV (.tup xs) S = .ok xs S := rfl
theorem itV_lst (xs) : itV (.lst xs) S = .ok xs S := rfl
theorem itV_sq (b xs) : itV (sq b xs) S = .ok xs S := by cases b <;> rfl
theorem enV_tup (xs) : enV (.tup xs) S = .ok (enumIts xs) S := rfl
theorem enV_lst (xs) : enV (.lst xs) S = .ok (enumIts xs) S := rfl
theorem enV_sq (b xs) : enV (sq b xs) S = .ok (enumIts xs) S := by cases b <;> rfl
theorem rng1V_n {b : Nat} (h : b ≤ 16777216) : rng1V (vn b) S = .ok ((List.range b).map vn) S := q_rng0 S h
theorem rng2V_n {a b : Nat} (h : b ≤ 16777216) (h2 : a ≤ 16777216) : rng2V (vn a) (vn b) S = .ok ((List.range (b - a)).map fun i => vn (a + i)) S := q_rng2 S h h2
/-- lists that fit -/
def LenOk {α : Type} (l : List α) : Prop := l.length ≤ 16777216
theorem LenOk.map {α β : Type} {l : List α} {g : α → β} (h : LenOk l) : LenOk (l.map g) := by unfold LenOk; rw [List.length_map]; exact h
theorem LenOk.filter {α : Type} {l : List α} {p : α → Bool} (h : LenOk l) : LenOk (l.filter p) := Nat.le_trans (List.length_filter_le _ _) h
theorem LenOk.range {n : Nat} (h : n ≤ 16777216) : LenOk (List.range n) := by unfold LenOk; rw [List.length_range]; exact h
theorem LenOk.of {α : Type} {l : List α} (h : l.length ≤ 16777216) : LenOk l := h
theorem LenOk.nil {α : Type} : LenOk ([] : List α) := by unfold LenOk; simp
theorem lenV_ok {xs : List Val} (h : LenOk xs) : lenV xs S = .ok xs S := if_pos h
theorem tupV_ok {xs : List Val} (h : LenOk xs) : tupV xs S = .ok (.tup xs) S := if_pos h
theorem nlV_f (xs) : nlV false xs S = .ok (.lst xs) S := rfl
theorem nlV_t (xs) : nlV true xs S = .ok (.loc S.length) (S ++ [.lst xs]) := rfl
theorem augV_n (o a b) : augV o (vn a) (vn b) S = binop o (vn a) (vn b) S := rfl
theorem ofsV_tup (xs) : ofsV (.tup xs) S = .ok xs S := rfl
theorem ofsV_lst (xs) : ofsV (.lst xs) S = .ok xs S := rfl
theorem ofsV_sq (b xs) : ofsV (sq b xs) S = .ok xs S := by cases b <;> rfl
theorem catV2_l {xs ys : List Val} (h : LenOk (xs ++ ys)) : catV2 (.lst xs) (.lst ys) S = .ok (xs ++ ys) S := if_pos h
theorem bin_cat {xs ys : List Val} (h : LenOk (xs ++ ys)) : binop .add (.lst xs) (.lst ys) S = .ok (.lst (xs ++ ys)) S := add_lst S (by unfold LenOk at h; rw [List.length_append] at h; exact h)
theorem LenOk.append {α : Type} {xs ys : List α} (h : xs.length + ys.length ≤ 16777216) : LenOk (xs ++ ys) := by unfold LenOk; rw [List.length_append]; exact h
theorem mulV2_1 {x : Val} {n : Nat} (h : n ≤ 16777216) : mulV2 (.lst [x]) (vn n) S = .ok (List.replicate n x) S := by
  unfold mulV2 vn
  simp only [lstOf_lst]
  rw [if_pos ⟨by omega, by omega, by simp; exact h⟩]
  congr 1
  rw [Int.toNat_natCast]
  induction n with
  | zero => rfl
  | succ n ih => rw [List.replicate_succ, List.flatten_cons, ih (by omega)]; rfl
/-- items by places -/
def at0 (l : List Val) (i : Nat) : Val := l.getD i .non
theorem idx_n {xs : List Val} {i : Nat} (h : i < xs.length) : opIdx (.tup xs) (vn i) S = .ok (xs.getD i .non) S ∧ opIdx (.lst xs) (vn i) S = .ok (xs.getD i .non) S := by
  have e : ixAt xs (i : Int) = some (xs.getD i .non) := by rw [ixAt_nat h, List.getD_eq_getElem?_getD, List.getElem?_eq_getElem h]; rfl
  exact ⟨idx_tup e, idx_lst e⟩
theorem idxt_n {xs : List Val} {i : Nat} (h : i < xs.length) : opIdx (.tup xs) (vn i) S = .ok (xs.getD i .non) S := (idx_n S h).1
theorem idxl_n {xs : List Val} {i : Nat} (h : i < xs.length) : opIdx (.lst xs) (vn i) S = .ok (xs.getD i .non) S := (idx_n S h).2
theorem idxs_n {b : Bool} {xs : List Val} {i : Nat} (h : i < xs.length) : opIdx (sq b xs) (vn i) S = .ok (xs.getD i .non) S := by
  cases b
  · exact idxt_n S h
  · exact idxl_n S h
end
theorem all_tt {α : Type} (l : List α) : (l.all fun _ => true) = true := by induction l <;> simp_all
end DI
/-! DI19: the newest place; loops. -/
namespace DI
def augSG (P : Pg) (C : Cf) (r : Sl) (i : Ex) (o : BOp) (e : Ex) (x : Val) (S1 : Store) : Out (Fl × Sl) := match x with
  | .loc n => bd (ev P C i r S1) (fun k S2 => bd (opIdx (.loc n) k S2) (fun old S3 => bd (ev P C e r S3) (fun y S4 => bd (augV o old y S4) (fun z S5 => bd (opSetS (.loc n) k z S5) (fun _ S6 => .ok (.nx, r) S6) .mk) .mk) .mk) .mk) .mk
  | _ => .bad
theorem exe_augS (P : Pg) (C : Cf) (r : Sl) (S : Store) (a i o e) : exe P C (.augS a i o e) r S = bd (ev P C a r S) (fun x S1 => augSG P C r i o e x S1) .mk := by
  simp only [exe]
  refine bindE fun x S1 => ?_
  cases x with
  | loc n =>
    refine bindE fun k S2 => bindE fun old S3 => bindE fun y S4 => ?_
    cases old <;> first
      | rfl
      | (cases y <;> rfl)
  | _ => rfl
theorem augSG_loc (P : Pg) (C : Cf) (r : Sl) (S1 : Store) (i o e n) : augSG P C r i o e (.loc n) S1 = bd (ev P C i r S1) (fun k S2 => bd (opIdx (.loc n) k S2) (fun old S3 => bd (ev P C e r S3) (fun y S4 => bd (augV o old y S4) (fun z S5 => bd (opSetS (.loc n) k z S5) (fun _ S6 => .ok (.nx, r) S6) .mk) .mk) .mk) .mk) .mk := rfl
section
variable (S : Store)
theorem idx_last {xs : List Val} {i : Nat} (h : i < xs.length) : opIdx (.loc S.length) (vn i) (S ++ [.lst xs]) = .ok (xs.getD i .non) (S ++ [.lst xs]) := by
  have e : ixAt xs (i : Int) = some (xs.getD i .non) := by rw [ixAt_nat h, List.getD_eq_getElem?_getD, List.getElem?_eq_getElem h]; rfl
  exact idx_loc get_last e
theorem set_lastN {xs : List Val} {i : Nat} {v : Val} (h : i < xs.length) : opSetS (.loc S.length) (vn i) v (S ++ [.lst xs]) = .ok () (S ++ [.lst (xs.set i v)]) := by
  have := set_loc (S := S ++ [.lst xs]) (n := S.length) (i := (i : Int)) (v := v) get_last (by omega) (by omega)
  rw [show vn i = .int (i : Int) from rfl, this, set_last]
  rfl
theorem app_last {xs : List Val} {v : Val} (h : xs.length < 16777216) : mtop .append (.loc S.length) [v] (S ++ [.lst xs]) = .ok .non (S ++ [.lst (xs ++ [v])]) := by
  simp only [mtop, get_last, if_pos h, set_last]
theorem mthV_last {xs : List Val} {f : Out Val} : mthV (.loc S.length) (S ++ [.lst xs]) f = f := by
  unfold mthV
  rw [lstOf_loc get_last]
theorem fzV_last {xs : List Val} {i : Nat} {r : Sl} : fzV i (some (some (.loc S.length))) r (S ++ [.lst xs]) = .ok (.nx, r.set i (some (.lst xs))) (S ++ [.dead]) := by
  unfold fzV
  simp only [get_last, set_last]
theorem len_last {xs : List Val} : biop .len [.loc S.length] (S ++ [.lst xs]) = .ok (vn xs.length) (S ++ [.lst xs]) := len_loc get_last
theorem tru_last {xs : List Val} : tru (.loc S.length) (S ++ [.lst xs]) = .ok (!xs.isEmpty) (S ++ [.lst xs]) := tru_loc get_last
theorem ofs_last {xs : List Val} : ofsV (.loc S.length) (S ++ [.lst xs]) = .ok xs (S ++ [.lst xs]) := by unfold ofsV; rw [items_loc get_last]
theorem fin_dead {v : Val} (h : v.pure = true) : fin S v (S ++ [.dead]) = .ok v S := fin_more h
end
theorem enum_range (h : Nat → Val) (n : Nat) : enumIts ((List.range n).map h) = (List.range n).map fun i => .tup [vn i, h i] := by
  unfold enumIts
  refine List.ext_getElem (by simp) fun i h1 h2 => ?_
  simp [vn]
/-- getting an item out of a mapped list -/
theorem getD_map {α : Type} (g : α → Val) (l : List α) (i : Nat) (h : i < l.length) (d : α) : (l.map g).getD i .non = g (l.getD i d) := by
  rw [List.getD_eq_getElem?_getD, List.getElem?_map, List.getElem?_eq_getElem h, List.getD_eq_getElem?_getD, List.getElem?_eq_getElem h]
  rfl
/-- a loop over a list that goes to its end, with an invariant of the done part -/
theorem forL_done {α : Type} {body : Val → Sl → Store → Out (Fl × Sl)} {h : α → Val} (I : List α → Sl → Store → Prop)
    (step : ∀ done x r S, I done r S → ∃ r1 S1, body (h x) r S = .ok (.nx, r1) S1 ∧ I (done ++ [x]) r1 S1) :
    ∀ (l done : List α) (r : Sl) (S : Store), I done r S → ∃ r1 S1, forL body (l.map h) r S = .ok (.nx, r1) S1 ∧ I (done ++ l) r1 S1
  | [], done, r, S, i => ⟨r, S, rfl, by simpa using i⟩
  | x :: l, done, r, S, i => by
    obtain ⟨r1, S1, e, i1⟩ := step done x r S i
    obtain ⟨r2, S2, e2, i2⟩ := forL_done I step l (done ++ [x]) r1 S1 i1
    refine ⟨r2, S2, ?_, by simpa using i2⟩
    rw [List.map_cons, forL, e, Out.bind_ok]
    exact e2
/-- a loop that leaves its state as a function of what is done -/
theorem forL_fold {α β : Type} {body : Val → Sl → Store → Out (Fl × Sl)} {h : α → Val} (g : β → α → β) (R : β → Option Val → Sl) (T : β → Store)
    (step : ∀ b o x, ∃ o', body (h x) (R b o) (T b) = .ok (.nx, R (g b x) o') (T (g b x))) :
    ∀ (l : List α) (b : β) (o : Option Val), ∃ o', forL body (l.map h) (R b o) (T b) = .ok (.nx, R (l.foldl g b) o') (T (l.foldl g b))
  | [], b, o => ⟨o, rfl⟩
  | x :: l, b, o => by
    obtain ⟨o1, e⟩ := step b o x
    obtain ⟨o2, e2⟩ := forL_fold g R T step l (g b x) o1
    exact ⟨o2, by rw [List.map_cons, forL, e, Out.bind_ok]; exact e2⟩
theorem forT_done {α : Type} {body : Val → Sl → Store → Out (Fl × Sl)} {t} {h : α → Val} (I : List α → Sl → Store → Prop)
    (step : ∀ done x r S, I done r S → ∃ r1 S1, body (h x) r S = .ok (.nx, r1) S1 ∧ I (done ++ [x]) r1 S1)
    (l : List α) (r : Sl) (S : Store) (i : I [] r S) : ∃ r1 S1, forT body t (l.map h) r S = .ok (.nx, r1) S1 ∧ I l r1 S1 := by
  obtain ⟨r1, S1, e, j⟩ := forL_done (body := body) (h := h) I step l [] r S i
  exact ⟨r1, S1, e, by simpa using j⟩
/-- behind one turn -/
def whlG (c : Sl → Store → Out Bool) (b : Sl → Store → Out (Fl × Sl)) (s : Tok c) (t : Tok b) (n : Nat) (p : Fl × Sl) (S2 : Store) : Out (Fl × Sl) := match p with
  | (.nx, r1) => whlT c b s t n r1 S2
  | (.ct, r1) => whlT c b s t n r1 S2
  | (.bk, r1) => .ok (.nx, r1) S2
  | (.rt v, r1) => .ok (.rt v, r1) S2
theorem whlG_nx (c b s t n r S) : whlG c b s t n (.nx, r) S = whlT c b s t n r S := rfl
theorem whlT_0 (c b s t n r S) : whlT c b s t (n + 1) r S = bd (c r S) (fun k S1 => if k = true then bd (b r S1) (fun p S2 => whlG c b s t n p S2) .mk else .ok (.nx, r) S1) .mk := rfl
end DI
/-! DI20: plain words of the program's functions. -/
namespace DI
/-- numbers below w that are in a lot -/
def liftN (m : Nat) (xs : List Nat) (w : Nat) : List Nat := (List.range w).filter fun i => decide (i % m ∈ xs)
/-- how many of xs are in each class by part -/
def cntN (part : Nat) (xs : List Nat) : List Nat := (List.range part).map fun j => xs.countP fun x => x % part == j
theorem cntN_len (part : Nat) (xs : List Nat) : (cntN part xs).length = part := by simp [cntN]
theorem cntN_nil (part : Nat) : (cntN part []).map vn = List.replicate part (vn 0) := by
  unfold cntN
  rw [List.map_map]
  refine List.ext_getElem (by simp) fun i h1 h2 => ?_
  simp
theorem cntN_getD {part j : Nat} (xs : List Nat) (h : j < part) (d : Nat) : (cntN part xs).getD j d = xs.countP fun x => x % part == j := by
  simp [cntN, List.getD_eq_getElem?_getD, h]
theorem cntN_step {part : Nat} (hp : 0 < part) (xs : List Nat) (x : Nat) : cntN part (xs ++ [x]) = (cntN part xs).set (x % part) ((cntN part xs).getD (x % part) 0 + 1) := by
  have hx : x % part < part := Nat.mod_lt _ hp
  rw [cntN_getD _ hx]
  refine List.ext_getElem (by simp [cntN]) fun j h1 h2 => ?_
  have hj : j < part := by simpa [cntN] using h1
  rw [List.getElem_set]
  simp only [cntN, List.getElem_map, List.getElem_range, List.countP_append, List.countP_singleton]
  by_cases e : x % part = j
  · simp [e]
  · simp [e]
theorem cntN_map {α : Type} (g : Nat → α) (part : Nat) (xs : List Nat) : (cntN part xs).map g = (List.range part).map fun j => g (xs.countP fun x => x % part == j) := by
  unfold cntN
  rw [List.map_map]
  rfl
def withinN (m : Nat) (xs : List Nat) (p : Nat) : List Nat := (List.range p).filter fun i => decide (xs.countP (fun x => x % Nat.gcd m p == i % Nat.gcd m p) = m / Nat.gcd m p)
def aroundN (m : Nat) (xs : List Nat) (p : Nat) : List Nat := (List.range p).filter fun i => decide (0 < xs.countP (fun x => x % Nat.gcd m p == i % Nat.gcd m p))
theorem mem_filter_range (p : Nat → Prop) [DecidablePred p] {n i : Nat} (h : i < n) : (i ∈ (List.range n).filter fun x => decide (p x)) = p i := by
  simp [h]
theorem within_eq {m p : Nat} {xs : List Nat} (h : 0 < Nat.gcd m p) : ((List.range p).filter fun x => decide (x % m.gcd p ∈ (List.range (m.gcd p)).filter fun x => decide (xs.countP (fun y => y % m.gcd p == x) = m / m.gcd p))) = withinN m xs p := by
  unfold withinN
  refine List.filter_congr fun x _ => ?_
  simp only [mem_filter_range (fun x => xs.countP (fun y => y % m.gcd p == x) = m / m.gcd p) (Nat.mod_lt x h)]
theorem around_eq {m p : Nat} {xs : List Nat} (h : 0 < Nat.gcd m p) : ((List.range p).filter fun x => decide (x % m.gcd p ∈ (List.range (m.gcd p)).filter fun x => decide (0 < xs.countP (fun y => y % m.gcd p == x)))) = aroundN m xs p := by
  unfold aroundN
  refine List.filter_congr fun x _ => ?_
  simp only [mem_filter_range (fun x => 0 < xs.countP (fun y => y % m.gcd p == x)) (Nat.mod_lt x h)]
/-- two steps of Euclid halve -/
theorem gcd_half {a b m : Nat} (h0 : ¬ b = 0) (h1 : ¬ a % b = 0) (hb : b < 2 ^ (m + 1)) : b % (a % b) < 2 ^ m := by
  have l1 : a % b < b := Nat.mod_lt _ (by omega)
  have l3 : b % (a % b) < a % b := Nat.mod_lt _ (by omega)
  have l4 : a % b + b % (a % b) ≤ b := by
    have := Nat.div_add_mod b (a % b)
    have l5 : 1 ≤ b / (a % b) := (Nat.one_le_div_iff (by omega)).mpr (by omega)
    have l6 : (a % b) * 1 ≤ (a % b) * (b / (a % b)) := Nat.mul_le_mul_left _ l5
    omega
  rw [Nat.pow_succ] at hb
  omega
end DI
/-! DI21: the law's box of draws as a plain thing. -/
namespace DI
/-- a number to be used up, a seed, how many were drawn, a bound of that -/
structure Box where
  a : Int
  b : Int
  c : Int
  lim : Nat
  h0 : 0 ≤ c
  h1 : c ≤ lim
def boxV (β : Box) : Ob := .lst [.int β.a, .int β.b, .int β.c]
theorem boxV_bel (β : Box) (n : Nat) : (boxV β).bel n = true := by simp [boxV, Ob.bel, Val.bels, Val.bel]
theorem get_box {S T : Store} {β : Box} : (S ++ boxV β :: T)[S.length]? = some (.lst [.int β.a, .int β.b, .int β.c]) := by simp [boxV]
theorem gcOk_box (n : Nat) {β β' : Box} : ∀ S T U : Store, gcOk n (S ++ boxV β :: T) (S ++ boxV β' :: (T ++ U)) = true
  | [], T, U => by simp [gcOk, boxV_bel, gcOk_self]
  | o :: S, T, U => by simp [gcOk, Ob.beq_self, gcOk_box n S T U]
/-- what a piece that draws leaves -/
theorem fin_box {S T U : Store} {β β' : Box} {v : Val} (h : v.pure = true) : fin (S ++ boxV β :: T) v (S ++ boxV β' :: (T ++ U)) = .ok v (S ++ boxV β' :: T) := by
  unfold fin
  rw [Val.bel_of_pure _ h, gcOk_box]
  have e : (S ++ boxV β' :: (T ++ U)).take (S ++ boxV β :: T).length = S ++ boxV β' :: T := by
    have : S ++ boxV β' :: (T ++ U) = (S ++ boxV β' :: T) ++ U := by simp
    rw [this, List.take_left' (by simp)]
  rw [e]
  rfl
theorem fin_box0 {S T : Store} {β β' : Box} {v : Val} (h : v.pure = true) : fin (S ++ boxV β :: T) v (S ++ boxV β' :: T) = .ok v (S ++ boxV β' :: T) := by
  have := fin_box (S := S) (T := T) (U := []) (β := β) (β' := β') h
  rwa [List.append_nil] at this
/-- a piece that draws: its value, the box behind it -/
def Dw {α : Type} (S T : Store) (β : Box) (c : Nat) (o : Out α) (p : α → Prop) : Prop := ∃ (v : α) (β' : Box), o = .ok v (S ++ boxV β' :: T) ∧ β'.lim ≤ β.lim + c ∧ p v
theorem Dw.pure {α : Type} {S T : Store} {β : Box} {c : Nat} {v : α} {p : α → Prop} (q : p v) : Dw S T β c (.ok v (S ++ boxV β :: T)) p := ⟨v, β, rfl, by omega, q⟩
theorem Dw.bind {α γ : Type} {S T : Store} {β : Box} {c c1 : Nat} {o : Out α} {f : α → Store → Out γ} {t} {p : α → Prop} {q : γ → Prop} (h : Dw S T β c1 o p) (hc : c1 ≤ c) (g : ∀ v β', β'.lim ≤ β.lim + c1 → p v → Dw S T β' (c - c1) (f v (S ++ boxV β' :: T)) q) : Dw S T β c (bd o f t) q := by
  obtain ⟨v, β1, e, l, hp⟩ := h
  obtain ⟨w, β2, e2, l2, hq⟩ := g v β1 l hp
  exact ⟨w, β2, by rw [e, bd_ok, e2], by omega, hq⟩
theorem Dw.mono {α : Type} {S T : Store} {β : Box} {c c' : Nat} {o : Out α} {p q : α → Prop} (h : Dw S T β c o p) (l : c ≤ c') (g : ∀ v, p v → q v) : Dw S T β c' o q := by
  obtain ⟨v, β1, e, l1, hp⟩ := h
  exact ⟨v, β1, e, by omega, g v hp⟩
theorem Dw.step {α : Type} {S T : Store} {β β2 : Box} {c c2 : Nat} {o : Out α} {p : α → Prop} (h : Dw S T β2 c2 o p) (hl : β2.lim + c2 ≤ β.lim + c) : Dw S T β c o p := by
  obtain ⟨v, β1, e, l1, hp⟩ := h
  exact ⟨v, β1, e, by omega, hp⟩
theorem Dw.nox {α : Type} {S T : Store} {β : Box} {c : Nat} {o : Out α} {p : α → Prop} (h : Dw S T β c o p) : Dw S T β c o.nox p := by
  obtain ⟨v, β1, rfl, l1, hp⟩ := h
  exact ⟨v, β1, rfl, l1, hp⟩
theorem Dw.ret {S T : Store} {β β0 : Box} {c : Nat} {o : Out (Fl × Sl)} {p : Val → Prop} (h : Dw S T β c o fun q => ∃ v, q.1 = .rt v ∧ v.pure = true ∧ p v) : Dw S T β c (retOf (S ++ boxV β0 :: T) o) p := by
  obtain ⟨⟨fl, r⟩, β1, rfl, l1, v, e, hv, hp⟩ := h
  have e : fl = .rt v := e
  subst e
  exact ⟨v, β1, by rw [ret_rt, fin_box0 hv], l1, hp⟩
/-- a value that draws put there is kept at the end of a call -/
theorem Dw.fin {S T : Store} {β β0 : Box} {c : Nat} {v : Val} {p : Val → Prop} (hv : v.pure = true) (h : p v) : Dw S T β c (fin (S ++ boxV β0 :: T) v (S ++ boxV β :: T)) p := by
  rw [fin_box0 hv]
  exact .pure h
/-- a filter whose test draws -/
theorem Dw.comp {α : Type} {S T : Store} {f : Val → Store → Out (Option Val)} {h : α → Val} {g : α → Val} {c : Nat} {top : Nat} : ∀ {l : List α} {β : Box}, β.lim + c * l.length ≤ top → (∀ i ∈ l, ∀ β, β.lim + c ≤ top → Dw S T β c (f (h i) (S ++ boxV β :: T)) fun o => o = none ∨ o = some (g i)) →
    Dw S T β (c * l.length) (compL f (l.map h) (S ++ boxV β :: T)) (fun ys => ∃ l2 : List α, List.Sublist l2 l ∧ ys = l2.map g)
  | [], β, _, _ => ⟨[], β, rfl, by simp, [], .slnil, rfl⟩
  | x :: l, β, ht, hf => by
    have e : c * (x :: l).length = c + c * l.length := by rw [List.length_cons, Nat.mul_succ]; omega
    rw [e] at ht ⊢
    obtain ⟨o, β1, e1, l1, ho⟩ := hf x (by simp) β (by omega)
    obtain ⟨ys, β2, e2, l2, q, sl, rfl⟩ := Dw.comp (l := l) (β := β1) (f := f) (h := h) (g := g) (c := c) (top := top) (by omega) fun i hi => hf i (by simp [hi])
    simp only [List.map_cons, compL, e1, Out.bind_ok, e2]
    rcases ho with rfl | rfl
    · exact ⟨_, β2, rfl, by omega, q, sl.cons _, rfl⟩
    · exact ⟨_, β2, rfl, by omega, x :: q, sl.cons₂ _, rfl⟩
theorem Dw.compR {S T : Store} {g : Nat → Val} {c : Nat} {top n : Nat} {f : (i : Nat) → i < n → Store → Out (Option Val)} {β : Box} (ht : β.lim + c * n ≤ top) (hf : ∀ i (hi : i < n) β, β.lim + c ≤ top → Dw S T β c (f i hi (S ++ boxV β :: T)) fun o => o = none ∨ o = some (g i)) :
    Dw S T β (c * n) (cmpR n f (S ++ boxV β :: T)) (fun ys => ∃ l2 : List Nat, List.Sublist l2 (List.range n) ∧ ys = l2.map g) := by
  have key : ∀ (l : List Nat) (f : (i : Nat) → i ∈ l → Store → Out (Option Val)) (β : Box), β.lim + c * l.length ≤ top → (∀ i (hi : i ∈ l) β, β.lim + c ≤ top → Dw S T β c (f i hi (S ++ boxV β :: T)) fun o => o = none ∨ o = some (g i)) →
      Dw S T β (c * l.length) (cmpM l f (S ++ boxV β :: T)) (fun ys => ∃ l2 : List Nat, List.Sublist l2 l ∧ ys = l2.map g) := by
    intro l
    induction l with
    | nil => exact fun f β _ _ => ⟨[], β, rfl, by simp, [], .slnil, rfl⟩
    | cons x l ih =>
      intro f β ht hf
      have e : c * (x :: l).length = c + c * l.length := by rw [List.length_cons, Nat.mul_succ]; omega
      rw [e] at ht ⊢
      obtain ⟨o, β1, e1, l1, ho⟩ := hf x (by simp) β (by omega)
      obtain ⟨ys, β2, e2, l2, q, sl, rfl⟩ := ih (fun y h => f y (List.mem_cons_of_mem _ h)) β1 (by omega) fun i hi => hf i _
      simp only [cmpM, e1, Out.bind_ok, e2]
      rcases ho with rfl | rfl
      · exact ⟨_, β2, rfl, by omega, q, sl.cons _, rfl⟩
      · exact ⟨_, β2, rfl, by omega, x :: q, sl.cons₂ _, rfl⟩
  have := key (List.range n) (fun x h => f x (List.mem_range.mp h)) β (by simpa using ht) fun i hi => hf i _
  rw [List.length_range] at this
  exact this
/-- items that draw, each kept -/
theorem Dw.map {α : Type} {S T : Store} {f : Val → Store → Out (Option Val)} {h : α → Val} {c : Nat} {top : Nat} {q : Val → Prop} : ∀ {l : List α} {β : Box}, β.lim + c * l.length ≤ top → (∀ i ∈ l, ∀ β, β.lim + c ≤ top → Dw S T β c (f (h i) (S ++ boxV β :: T)) fun o => ∃ v, o = some v ∧ q v) →
    Dw S T β (c * l.length) (compL f (l.map h) (S ++ boxV β :: T)) (fun ys => ys.length = l.length ∧ ∀ y ∈ ys, q y)
  | [], β, _, _ => ⟨[], β, rfl, by simp, rfl, by simp⟩
  | x :: l, β, ht, hf => by
    have e : c * (x :: l).length = c + c * l.length := by rw [List.length_cons, Nat.mul_succ]; omega
    rw [e] at ht ⊢
    obtain ⟨o, β1, e1, l1, v, rfl, hv⟩ := hf x (by simp) β (by omega)
    obtain ⟨ys, β2, e2, l2, q1, q2⟩ := Dw.map (l := l) (β := β1) (f := f) (h := h) (c := c) (top := top) (q := q) (by omega) fun i hi => hf i (by simp [hi])
    simp only [List.map_cons, compL, e1, Out.bind_ok, e2]
    refine ⟨_, β2, rfl, by omega, by simp [q1], fun y hy => ?_⟩
    rcases List.mem_cons.mp hy with rfl | hy
    · exact hv
    · exact q2 y hy
/-- a loop whose turns draw -/
theorem Dw.forL {α : Type} {S T : Store} {body : Val → Sl → Store → Out (Fl × Sl)} {h : α → Val} {c top : Nat} {I : Sl → Prop} (step : ∀ x r β, β.lim + c ≤ top → I r → ∃ r1 β1, body (h x) r (S ++ boxV β :: T) = .ok (.nx, r1) (S ++ boxV β1 :: T) ∧ β1.lim ≤ β.lim + c ∧ I r1) :
    ∀ (l : List α) (r : Sl) (β : Box), β.lim + c * l.length ≤ top → I r → ∃ r1 β1, DI.forL body (l.map h) r (S ++ boxV β :: T) = .ok (.nx, r1) (S ++ boxV β1 :: T) ∧ β1.lim ≤ β.lim + c * l.length ∧ I r1
  | [], r, β, _, i => ⟨r, β, rfl, by simp, i⟩
  | x :: l, r, β, ht, i => by
    have e : c * (x :: l).length = c + c * l.length := by rw [List.length_cons, Nat.mul_succ]; omega
    rw [e] at ht ⊢
    obtain ⟨r1, β1, e1, l1, i1⟩ := step x r β (by omega) i
    obtain ⟨r2, β2, e2, l2, i2⟩ := Dw.forL step l r1 β1 (by omega) i1
    refine ⟨r2, β2, ?_, by omega, i2⟩
    rw [List.map_cons, DI.forL, e1, Out.bind_ok]
    exact e2
/-- a drawn set of buckets -/
def Asc (xs : List Nat) : Prop := xs.Pairwise (· < ·)
structure LotOk (M m : Nat) (xs : List Nat) : Prop where
  m0 : 0 < m
  m1 : m ≤ M
  asc : xs.Pairwise (· < ·)
  lt : ∀ x ∈ xs, x < m
theorem sub_range {l : List Nat} {m : Nat} (h : List.Sublist l (List.range m)) : l.Pairwise (· < ·) ∧ ∀ x ∈ l, x < m := ⟨List.pairwise_lt_range.sublist h, fun x hx => List.mem_range.mp (h.subset hx)⟩
theorem asc_nodup {xs : List Nat} (h : xs.Pairwise (· < ·)) : xs.Nodup := h.imp fun q => Nat.ne_of_lt q
theorem asc_length_from : ∀ {xs : List Nat} {a m : Nat}, xs.Pairwise (· < ·) → (∀ x ∈ xs, a ≤ x ∧ x < m) → xs.length ≤ m - a
  | [], _, _, _, _ => by simp
  | x :: xs, a, m, h, hx => by
    obtain ⟨h1, h2⟩ := List.pairwise_cons.mp h
    have h3 := hx x (by simp)
    have := asc_length_from (a := x + 1) (m := m) h2 fun y hy => ⟨h1 y hy, (hx y (by simp [hy])).2⟩
    rw [List.length_cons]
    omega
theorem asc_length {xs : List Nat} {m : Nat} (h : xs.Pairwise (· < ·)) (hx : ∀ x ∈ xs, x < m) : xs.length ≤ m := by
  have := asc_length_from (a := 0) (m := m) h fun x q => ⟨by omega, hx x q⟩
  omega
theorem LotOk.len {M m : Nat} {xs : List Nat} (h : LotOk M m xs) : xs.length ≤ m := asc_length h.asc h.lt
/-- numbers from 0 on, put in order -/
def nsort (l : List Nat) : List Nat := (isort (l.map fun n : Nat => (n : Int))).map Int.toNat
/-- .. each once -/
def nusort (l : List Nat) : List Nat := (usort (l.map fun n : Nat => (n : Int))).map Int.toNat
theorem cast_back {l : List Int} (h : ∀ z ∈ l, 0 ≤ z) : (l.map Int.toNat).map (fun n : Nat => (n : Int)) = l := by
  rw [List.map_map]
  refine (List.map_congr_left fun z hz => ?_).trans (List.map_id l)
  exact Int.toNat_of_nonneg (h z hz)
theorem nsort_cast (l : List Nat) : (nsort l).map (fun n : Nat => (n : Int)) = isort (l.map fun n : Nat => (n : Int)) := cast_back fun z hz => by
  obtain ⟨n, _, rfl⟩ := List.mem_map.mp ((isort_perm _).mem_iff.mp hz)
  omega
theorem nusort_cast (l : List Nat) : (nusort l).map (fun n : Nat => (n : Int)) = usort (l.map fun n : Nat => (n : Int)) := cast_back fun z hz => by
  obtain ⟨n, _, rfl⟩ := List.mem_map.mp ((usort_mem _ _).mp hz)
  omega
theorem nsort_perm (l : List Nat) : (nsort l).Perm l := by
  have h := (isort_perm (l.map fun n : Nat => (n : Int))).map Int.toNat
  rw [List.map_map] at h
  have e : (Int.toNat ∘ fun n : Nat => (n : Int)) = id := by funext n; simp
  rwa [e, List.map_id] at h
theorem nsort_sorted (l : List Nat) : (nsort l).Pairwise (· ≤ ·) := by
  have h := isort_sorted (l.map fun n : Nat => (n : Int))
  rw [← nsort_cast, List.pairwise_map] at h
  exact h.imp fun q => by omega
theorem nsort_length (l : List Nat) : (nsort l).length = l.length := (nsort_perm l).length_eq
theorem nusort_mem {z : Nat} {l : List Nat} : z ∈ nusort l ↔ z ∈ l := by
  have h := usort_mem (z : Int) (l.map fun n : Nat => (n : Int))
  rw [← nusort_cast] at h
  simpa [Int.ofNat_inj] using h
theorem nusort_asc (l : List Nat) : (nusort l).Pairwise (· < ·) := by
  have h := usort_sorted (l.map fun n : Nat => (n : Int))
  rw [← nusort_cast, List.pairwise_map] at h
  exact h.imp fun q => by omega
/-- distinct numbers, put in order -/
theorem sort_asc (l : List Nat) (nd : l.Nodup) : (nsort l).Pairwise (· < ·) := by
  have h2 := (nsort_perm l).nodup_iff.mpr nd
  exact ((nsort_sorted l).and h2).imp fun ⟨q1, q2⟩ => by omega
theorem vn_cast (l : List Nat) : l.map vn = (l.map fun n : Nat => (n : Int)).map Val.int := by rw [List.map_map]; rfl
/-- sorted of numbers from 0 on -/
theorem srtV_n (S : Store) (l : List Nat) : srtV (.lst (l.map vn)) S = .ok ((nsort l).map vn) S := by
  unfold srtV srtL
  rw [items_lst, vn_cast]
  simp only [intsOf_ints]
  rw [← nsort_cast, ← vn_cast]
theorem usort_len (l : List Nat) : (usort (l.map fun n : Nat => (n : Int))).length = (nusort l).length := by rw [← nusort_cast, List.length_map]
theorem nusort_le (l : List Nat) : (nusort l).length ≤ l.length := by
  have key : ∀ l : List Int, (usort l).length ≤ l.length := by
    intro l
    induction l with
    | nil => simp [usort]
    | cons x xs ih =>
      have h : ∀ m : List Int, (insU x m).length ≤ m.length + 1 := by
        intro m
        induction m with
        | nil => simp [insU]
        | cons y ys ih2 =>
          unfold insU
          split
          · simp
          · split
            · simp
            · simpa using ih2
      have := h (usort xs)
      rw [usort, List.length_cons]
      omega
  have := key (l.map fun n : Nat => (n : Int))
  rw [usort_len, List.length_map] at this
  exact this
/-- sorted(set(..)) -/
theorem sstV_n (S : Store) (b : Bool) {l : List Nat} (h : (nusort l).length < 64) (h2 : l.length < 4000) : sstV (sq b (l.map vn)) S = .ok ((nusort l).map vn) S := by
  unfold sstV
  rw [items_sq, vn_cast]
  simp only [intsOf_ints]
  rw [if_pos ⟨by rw [usort_len]; exact h, by rw [List.length_map]; exact h2⟩, ← nusort_cast, ← vn_cast]
theorem lensV_n (S : Store) (b : Bool) {l : List Nat} (h2 : l.length < 4000) : lensV (sq b (l.map vn)) S = .ok (vn (nusort l).length) S := by
  unfold lensV
  rw [items_sq, vn_cast]
  simp only [intsOf_ints]
  rw [if_pos (by rw [List.length_map]; exact h2), usort_len]
  rfl
theorem nusort_bound {l : List Nat} {m : Nat} (h : ∀ x ∈ l, x < m) : (nusort l).length ≤ m := asc_length (nusort_asc l) fun x hx => h x (nusort_mem.mp hx)
theorem nusort_of_asc {l : List Nat} (h : l.Pairwise (· < ·)) : nusort l = l := by
  have a : nusort l = l := by
    have h1 := nusort_asc l
    have h2 : ∀ x, x ∈ nusort l ↔ x ∈ l := fun x => nusort_mem
    have h3 := lt_ext (l := (nusort l).map fun n : Nat => (n : Int)) (m := l.map fun n : Nat => (n : Int)) (List.pairwise_map.mpr (h1.imp fun q => by omega)) (List.pairwise_map.mpr (h.imp fun q => by omega)) fun z => by
      constructor
      · intro hz
        obtain ⟨n, hn, rfl⟩ := List.mem_map.mp hz
        exact List.mem_map.mpr ⟨n, (h2 n).mp hn, rfl⟩
      · intro hz
        obtain ⟨n, hn, rfl⟩ := List.mem_map.mp hz
        exact List.mem_map.mpr ⟨n, (h2 n).mpr hn, rfl⟩
    exact List.map_inj_right (fun a b q => by omega) |>.mp h3
  exact a
theorem shift_nodup {m f q : Nat} (hq : q ≤ m) : ((List.range q).map fun i => (f + i) % m).Nodup := by
  refine List.pairwise_map.mpr (List.pairwise_lt_range.imp_of_mem fun {a b} ha hb hab e => ?_)
  have ha := List.mem_range.mp ha
  have hb := List.mem_range.mp hb
  have e2 : (f + a) % m = (f + b) % m := e
  have h1 := Nat.div_add_mod (f + a) m
  have h2 := Nat.div_add_mod (f + b) m
  rw [e2] at h1
  have hm : 0 < m := by omega
  have h3 : (f + a) / m ≤ (f + b) / m := Nat.div_le_div_right (by omega)
  rcases Nat.lt_or_ge ((f + a) / m) ((f + b) / m) with h4 | h4
  · have : m * ((f + a) / m + 1) ≤ m * ((f + b) / m) := Nat.mul_le_mul_left _ h4
    rw [Nat.mul_add] at this
    omega
  · have : (f + a) / m = (f + b) / m := by omega
    rw [this] at h1
    omega
theorem srtrV_n (S : Store) (l : List Nat) : srtrV (.lst (l.map vn)) S = .ok ((nsort l).reverse.map vn) S := by
  unfold srtrV
  rw [lstOf_lst, vn_cast]
  simp only [intsOf_ints]
  rw [← nsort_cast, ← List.map_reverse, ← vn_cast]
/-- the least, the greatest number of a list -/
def minN : List Nat → Nat
  | [] => 0
  | [x] => x
  | x :: y :: r => min x (minN (y :: r))
def maxN : List Nat → Nat
  | [] => 0
  | [x] => x
  | x :: y :: r => max x (maxN (y :: r))
theorem minI_cast : ∀ l : List Nat, minI (l.map fun n : Nat => (n : Int)) = (minN l : Nat)
  | [] => rfl
  | [x] => rfl
  | x :: y :: r => by
    have := minI_cast (y :: r)
    simp only [List.map_cons, minI, minN] at this ⊢
    rw [this]
    omega
theorem maxI_cast : ∀ l : List Nat, maxI (l.map fun n : Nat => (n : Int)) = (maxN l : Nat)
  | [] => rfl
  | [x] => rfl
  | x :: y :: r => by
    have := maxI_cast (y :: r)
    simp only [List.map_cons, maxI, maxN] at this ⊢
    rw [this]
    omega
theorem minN_mem : ∀ {l : List Nat}, l ≠ [] → minN l ∈ l
  | [], h => absurd rfl h
  | [x], _ => by simp [minN]
  | x :: y :: r, _ => by
    have := minN_mem (l := y :: r) (by simp)
    unfold minN
    rcases Nat.le_total x (minN (y :: r)) with q | q
    · rw [Nat.min_eq_left q]; simp
    · rw [Nat.min_eq_right q]; exact List.mem_cons_of_mem _ this
theorem maxN_mem : ∀ {l : List Nat}, l ≠ [] → maxN l ∈ l
  | [], h => absurd rfl h
  | [x], _ => by simp [maxN]
  | x :: y :: r, _ => by
    have := maxN_mem (l := y :: r) (by simp)
    unfold maxN
    rcases Nat.le_total x (maxN (y :: r)) with q | q
    · rw [Nat.max_eq_right q]; exact List.mem_cons_of_mem _ this
    · rw [Nat.max_eq_left q]; simp
theorem minN_le : ∀ {l : List Nat} {x : Nat}, x ∈ l → minN l ≤ x
  | [a], x, h => by simp at h; simp [minN, h]
  | a :: b :: r, x, h => by
    unfold minN
    rcases List.mem_cons.mp h with rfl | h
    · omega
    · have := minN_le h
      omega
theorem le_maxN : ∀ {l : List Nat} {x : Nat}, x ∈ l → x ≤ maxN l
  | [a], x, h => by simp at h; simp [maxN, h]
  | a :: b :: r, x, h => by
    unfold maxN
    rcases List.mem_cons.mp h with rfl | h
    · omega
    · have := le_maxN h
      omega
theorem min_sq (S : Store) (b : Bool) {l : List Nat} (h : l ≠ []) : biop .minL [sq b (l.map vn)] S = .ok (vn (minN l)) S := by
  obtain ⟨x, r, rfl⟩ : ∃ x r, l = x :: r := by cases l; exact absurd rfl h; exact ⟨_, _, rfl⟩
  have e := minI_cast (x :: r)
  unfold biop
  simp only [items_sq]
  rw [vn_cast, intsOf_ints]
  simp only [List.map_cons] at e ⊢
  rw [e]
  rfl
theorem max_sq (S : Store) (b : Bool) {l : List Nat} (h : l ≠ []) : biop .maxL [sq b (l.map vn)] S = .ok (vn (maxN l)) S := by
  obtain ⟨x, r, rfl⟩ : ∃ x r, l = x :: r := by cases l; exact absurd rfl h; exact ⟨_, _, rfl⟩
  have e := maxI_cast (x :: r)
  unfold biop
  simp only [items_sq]
  rw [vn_cast, intsOf_ints]
  simp only [List.map_cons] at e ⊢
  rw [e]
  rfl
theorem minD_sq (S : Store) (b : Bool) (l : List Nat) : minDV (sq b (l.map vn)) S = .ok (if l = [] then .non else vn (minN l)) S := by
  cases l with
  | nil => unfold minDV; simp [items_sq, intsOf]
  | cons x r =>
    have e := minI_cast (x :: r)
    unfold minDV
    simp only [items_sq]
    rw [vn_cast, intsOf_ints]
    simp only [List.map_cons] at e ⊢
    rw [e]
    rfl
end DI
/-! DI22: more rules; the law's end. -/
namespace DI
section
variable (S : Store)
theorem int_blN (b : Bool) : biop .int [.bl b] S = .ok (vn b.toNat) S := by cases b <;> rfl
theorem mul1_n {x : Val} {n : Nat} (h : n ≤ 16777216) : binop .mul (.lst [x]) (vn n) S = .ok (.lst (List.replicate n x)) S := by
  have := mulV2_1 S (x := x) h
  unfold mulV2 vn at this
  unfold vn
  simp only [binop, opMul, repL]
  simp only [lstOf_lst] at this ⊢
  split
  · rename_i q
    rw [if_pos q] at this
    injection this with h1 h2
    rw [h1]
  · rename_i q
    rw [if_neg q] at this
    cases this
theorem eqv_bls (b c : Bool) : Val.eqv (.bl b) (.bl c) = (b == c) := by simp [Val.eqv]
theorem dats_map {α : Type} (g : α → Val) : ∀ l : List α, Val.dats (l.map g) = l.all fun x => (g x).dat
  | [] => rfl
  | x :: l => by rw [List.map_cons, List.all_cons, ← dats_map g l]; rfl
theorem mem_bls {α : Type} (b : Bool) (f : α → Bool) (l : List α) : cmpop .mem (.bl b) (.lst (l.map fun x => .bl (f x))) S = .ok (.bl (l.any fun x => f x == b)) S := by
  have h1 : Val.dats (l.map fun x => Val.bl (f x)) = true := by rw [dats_map]; simp [Val.dat]
  have : memOf S (.bl b) (.lst (l.map fun x => .bl (f x))) = some (l.any fun x => f x == b) := by
    simp only [memOf, items_lst, h1, top, Val.dat, Val.dep, List.any_map]
    simp [Function.comp_def, eqv_bls]
  simp [cmpop, this, ofB]
theorem nmem_bls {α : Type} (b : Bool) (f : α → Bool) (l : List α) : cmpop .nmem (.bl b) (.lst (l.map fun x => .bl (f x))) S = .ok (.bl (!l.any fun x => f x == b)) S := nmem_of (mem_bls S b f l)
theorem nmem_tup (i : Nat) (l : List Nat) : cmpop .nmem (vn i) (.tup (l.map vn)) S = .ok (.bl (!decide (i ∈ l))) S := nmem_of (mem_tup S i l)
theorem nmem_lst (i : Nat) (l : List Nat) : cmpop .nmem (vn i) (.lst (l.map vn)) S = .ok (.bl (!decide (i ∈ l))) S := nmem_of (mem_lst S i l)
theorem nmem_sq (b : Bool) (i : Nat) (l : List Nat) : cmpop .nmem (vn i) (sq b (l.map vn)) S = .ok (.bl (!decide (i ∈ l))) S := nmem_of (mem_sq S b i l)
/-- how many numbers from a, by steps c, below b -/
def stepN (a b c : Nat) : Nat := if a < b then (b - a - 1) / c + 1 else 0
theorem rng3V_n {a b c : Nat} (hc : 0 < c) (hc2 : c < 1073741824) (ha : a < 16777216) (hb : b < 16777216) : rng3V (vn a) (vn b) (vn c) S = .ok ((List.range (stepN a b c)).map fun i => vn (a + i * c)) S := by
  unfold rng3V vn rngIts3
  simp only
  have e : rngN (a : Int) (b : Int) (c : Int) = stepN a b c := by
    unfold rngN stepN PySem.Builtin.Range.rangeSize
    rw [if_pos (by omega)]
    by_cases h : a < b
    · rw [if_pos (by omega), if_pos h]
      have : ((b : Int) - a - 1) = ((b - a - 1 : Nat) : Int) := by omega
      rw [this, ← Int.natCast_ediv]
      generalize (b - a - 1) / c = q
      omega
    · rw [if_neg (by omega), if_neg h]
      rfl
  have q1 : stepN a b c ≤ 1073741824 := by
    unfold stepN
    split
    · have := Nat.div_le_self (b - a - 1) c
      omega
    · omega
  have e2 : PySem.Builtin.Range.rangeSize (a : Int) b c = stepN a b c := by
    unfold rngN at e
    have : 0 ≤ PySem.Builtin.Range.rangeSize (a : Int) b c := by
      unfold PySem.Builtin.Range.rangeSize
      split
      · split
        · have := Int.ediv_nonneg (a := (b : Int) - a - 1) (b := c) (by omega) (by omega)
          omega
        · omega
      · omega
    omega
  have hn : stepN a b c ≤ 16777216 := by
    unfold stepN
    split
    · have := Nat.div_le_self (b - a - 1) c
      omega
    · omega
  have hsm : PySem.Builtin.Range.small (a : Int) b c = true := by
    unfold PySem.Builtin.Range.small
    rw [e2]
    rw [if_pos (by omega)]
    have f : ∀ x : Int, -9000000000 ≤ x → x ≤ 9000000000 → PySem.Builtin.Range.rangeFitsLong x = true := fun x h1 h2 => by
      unfold PySem.Builtin.Range.rangeFitsLong
      simp
      omega
    rw [f _ (by omega) (by omega), f _ (by omega) (by omega), f _ (by omega) (by omega), f _ (by omega) (by omega), f _ (by omega) (by omega)]
    simp
  rw [if_pos ⟨by omega, by omega, hsm, by rw [e]; exact Nat.le_trans hn (by decide)⟩, e]
  unfold numsUp
  congr 1
end
/-- a list whose items all come, whatever the store, and what comes behind -/
theorem cmpR_then {β γ : Type} {n : Nat} {f : (i : Nat) → i < n → Store → Out (Option Val)} {S : Store} {K : List Val → Store → Out β} {t} {v : Val} (F : Out β → γ) (R : γ)
    (hf : ∀ i hi S, ∃ S', f i hi S = .ok (some v) S') (hk : ∀ S', F (K ((List.range n).map fun _ => v) S') = R) : F (bd (cmpR n f S).nox K t) = R := by
  have key : ∀ (l : List Nat) (f : (i : Nat) → i ∈ l → Store → Out (Option Val)) (S : Store), (∀ i hi S, ∃ S', f i hi S = .ok (some v) S') → ∃ S', cmpM l f S = .ok (l.map fun _ => v) S' := by
    intro l
    induction l with
    | nil => exact fun f S _ => ⟨S, rfl⟩
    | cons x l ih =>
      intro f S hf
      obtain ⟨S1, e1⟩ := hf x (by simp) S
      obtain ⟨S2, e2⟩ := ih (fun y h => f y (List.mem_cons_of_mem _ h)) S1 fun i hi S => hf i _ S
      exact ⟨S2, by simp only [cmpM, e1, Out.bind_ok, e2, List.map_cons]⟩
  obtain ⟨S', e⟩ := key (List.range n) (fun x h => f x (List.mem_range.mp h)) S fun i hi S => hf i _ S
  unfold cmpR
  rw [e, Out.nox_ok, bd_ok]
  exact hk S'
/-- a loop over 0, 1, .. -/
theorem forT_range {body : Val → Sl → Store → Out (Fl × Sl)} {t} {h : Nat → Val} {n : Nat} (I : Nat → Sl → Store → Prop)
    (step : ∀ i r S, i < n → I i r S → ∃ r1 S1, body (h i) r S = .ok (.nx, r1) S1 ∧ I (i + 1) r1 S1)
    (r : Sl) (S : Store) (i0 : I 0 r S) : ∃ r1 S1, forT body t ((List.range n).map h) r S = .ok (.nx, r1) S1 ∧ I n r1 S1 := by
  have key : ∀ (j k : Nat) (r : Sl) (S : Store), k + j = n → I k r S → ∃ r1 S1, forL body ((List.range' k j).map h) r S = .ok (.nx, r1) S1 ∧ I n r1 S1 := by
    intro j
    induction j with
    | zero =>
      intro k r S e i
      have : k = n := by omega
      subst this
      exact ⟨r, S, rfl, i⟩
    | succ j ih =>
      intro k r S e i
      obtain ⟨r1, S1, e1, i1⟩ := step k r S (by omega) i
      obtain ⟨r2, S2, e2, i2⟩ := ih (k + 1) r1 S1 (by omega) i1
      refine ⟨r2, S2, ?_, i2⟩
      rw [List.range'_succ, List.map_cons, forL, e1, Out.bind_ok]
      exact e2
  rw [List.range_eq_range']
  exact key n 0 r S (by omega) i0
/-- a loop over a list, each item one of it -/
theorem forT_mem {α : Type} {body : Val → Sl → Store → Out (Fl × Sl)} {t} {h : α → Val} {l : List α} (I : List α → Sl → Store → Prop)
    (step : ∀ done x rest r S, l = done ++ x :: rest → I done r S → ∃ r1 S1, body (h x) r S = .ok (.nx, r1) S1 ∧ I (done ++ [x]) r1 S1)
    (r : Sl) (S : Store) (i0 : I [] r S) : ∃ r1 S1, forT body t (l.map h) r S = .ok (.nx, r1) S1 ∧ I l r1 S1 := by
  have key : ∀ (rest done : List α) (r : Sl) (S : Store), l = done ++ rest → I done r S → ∃ r1 S1, forL body (rest.map h) r S = .ok (.nx, r1) S1 ∧ I l r1 S1 := by
    intro rest
    induction rest with
    | nil =>
      intro done r S e i
      rw [List.append_nil] at e
      subst e
      exact ⟨r, S, rfl, i⟩
    | cons x rest ih =>
      intro done r S e i
      obtain ⟨r1, S1, e1, i1⟩ := step done x rest r S e i
      obtain ⟨r2, S2, e2, i2⟩ := ih (done ++ [x]) r1 S1 (by simp [e]) i1
      refine ⟨r2, S2, ?_, i2⟩
      rw [List.map_cons, forL, e1, Out.bind_ok]
      exact e2
  exact key l [] r S rfl i0
/-- lists at most so long -/
structure LenLe {α : Type} (n : Nat) (l : List α) : Prop where
  h : l.length ≤ n
theorem LenLe.ok {α : Type} {n : Nat} {l : List α} (a : LenLe n l) (b : n ≤ 16777216) : LenOk l := Nat.le_trans a.h b
theorem LenLe.map {α β : Type} {n : Nat} {l : List α} {g : α → β} (a : LenLe n l) : LenLe n (l.map g) := ⟨by rw [List.length_map]; exact a.h⟩
theorem LenLe.filter {α : Type} {n : Nat} {l : List α} {p : α → Bool} (a : LenLe n l) : LenLe n (l.filter p) := ⟨Nat.le_trans (List.length_filter_le _ _) a.h⟩
theorem LenLe.append {α : Type} {n m : Nat} {l k : List α} (a : LenLe n l) (b : LenLe m k) : LenLe (n + m) (l ++ k) := ⟨by rw [List.length_append]; have := a.h; have := b.h; omega⟩
theorem LenLe.cons {α : Type} {n : Nat} {l : List α} {x : α} (a : LenLe n l) : LenLe (n + 1) (x :: l) := ⟨by rw [List.length_cons]; have := a.h; omega⟩
theorem LenLe.range (n : Nat) : LenLe n (List.range n) := ⟨by simp⟩
theorem LenLe.rep {α : Type} (n : Nat) (x : α) : LenLe n (List.replicate n x) := ⟨by simp⟩
theorem LenLe.nil {α : Type} : LenLe 0 ([] : List α) := ⟨by simp⟩
theorem LenLe.self {α : Type} (l : List α) : LenLe l.length l := ⟨Nat.le_refl _⟩
theorem LenLe.srt {n : Nat} {l : List Nat} (a : LenLe n l) : LenLe n (nsort l) := ⟨by rw [nsort_length]; exact a.h⟩
theorem LenLe.sst {n : Nat} {l : List Nat} (a : LenLe n l) : LenLe n (nusort l) := ⟨Nat.le_trans (nusort_le l) a.h⟩
theorem LenLe.rev {α : Type} {n : Nat} {l : List α} (a : LenLe n l) : LenLe n l.reverse := ⟨by rw [List.length_reverse]; exact a.h⟩
/-- one thing, or none -/
def bl1 {α : Type} (b : Bool) (x : α) : List α := if b then [x] else []
theorem LenLe.bl1 {α : Type} (b : Bool) (x : α) : LenLe 1 (bl1 b x) := ⟨by cases b <;> simp [DI.bl1]⟩
theorem mul1_b (S : Store) (x : Val) (b : Bool) : binop .mul (.lst [x]) (vn b.toNat) S = .ok (.lst (bl1 b x)) S := by
  rw [mul1_n S (by cases b <;> simp)]
  cases b <;> rfl
theorem filter_bl1 {α : Type} (p : α → Bool) (l : List α) (x : α) (g : α → Val) : ((l ++ [x]).filter p).map g = (l.filter p).map g ++ bl1 (p x) (g x) := by
  rw [List.filter_append, List.map_append]
  congr 1
  by_cases h : p x = true <;> simp [h, bl1]
mutual
/-- data that a law may compare with itself -/
def Val.fit : Val → Bool
  | .loc _ => false
  | .scr _ => false
  | .str s => s.all (· < 0x110000)
  | .tup xs => decide (xs.length ≤ mx) && Val.fits xs
  | .lst xs => decide (xs.length ≤ mx) && Val.fits xs
  | _ => true
def Val.fits : List Val → Bool
  | [] => true
  | x :: xs => Val.fit x && Val.fits xs
end
theorem Val.fit_mem : ∀ {xs : List Val} {x : Val}, Val.fits xs = true → x ∈ xs → x.fit = true
  | y :: ys, x, h, m => by
    have h2 : y.fit = true ∧ Val.fits ys = true := by simpa [Val.fits] using h
    rcases List.mem_cons.mp m with rfl | m
    · exact h2.1
    · exact Val.fit_mem h2.2 m
theorem Val.dep_mem : ∀ {xs : List Val} {x : Val}, x ∈ xs → x.dep ≤ Val.deps xs
  | y :: ys, x, m => by
    unfold Val.deps
    rcases List.mem_cons.mp m with rfl | m
    · omega
    · have := Val.dep_mem m
      omega
theorem Val.fits_ints : ∀ l : List Int, Val.fits (l.map Val.int) = true
  | [] => rfl
  | _ :: r => by simp [Val.fits, Val.fit, Val.fits_ints r]
theorem Val.fits_app : ∀ l m : List Val, Val.fits (l ++ m) = (Val.fits l && Val.fits m)
  | [], m => by simp [Val.fits]
  | x :: r, m => by simp [Val.fits, Val.fits_app r m, Bool.and_assoc]
/-- data that a law may compare with itself -/
structure Fit (d : Nat) (v : Val) : Prop where
  h1 : v.dep ≤ d
  h2 : v.fit = true
structure FitL (d : Nat) (xs : List Val) : Prop where
  h1 : Val.deps xs ≤ d
  h2 : Val.fits xs = true
theorem Fit.n {d : Nat} (n : Nat) : Fit d (vn n) := ⟨by simp [vn, Val.dep], by simp [vn, Val.fit]⟩
theorem Fit.i {d : Nat} (n : Int) : Fit d (.int n) := ⟨by simp [Val.dep], by simp [Val.fit]⟩
theorem Fit.b {d : Nat} (n : Bool) : Fit d (.bl n) := ⟨by simp [Val.dep], by simp [Val.fit]⟩
theorem Fit.non {d : Nat} : Fit d .non := ⟨by simp [Val.dep], by simp [Val.fit]⟩
theorem Fit.str {d : Nat} (s : List Nat) (h : s.all (· < 0x110000) = true) : Fit d (.str s) := ⟨by simp [Val.dep], by simp only [Val.fit]; exact h⟩
theorem Fit.tup {d : Nat} {xs : List Val} (l : LenOk xs) (h : FitL d xs) : Fit (d + 1) (.tup xs) := ⟨by simp only [Val.dep]; have := h.h1; omega, by simp only [Val.fit, h.h2, Bool.and_true, decide_eq_true_eq]; exact l⟩
theorem Fit.lst {d : Nat} {xs : List Val} (l : LenOk xs) (h : FitL d xs) : Fit (d + 1) (.lst xs) := ⟨by simp only [Val.dep]; have := h.h1; omega, by simp only [Val.fit, h.h2, Bool.and_true, decide_eq_true_eq]; exact l⟩
theorem FitL.nil {d : Nat} : FitL d [] := ⟨by simp [Val.deps], by simp [Val.fits]⟩
theorem FitL.cons {d : Nat} {x : Val} {xs : List Val} (a : Fit d x) (b : FitL d xs) : FitL d (x :: xs) := ⟨by simp only [Val.deps]; have := a.h1; have := b.h1; omega, by simp only [Val.fits, a.h2, b.h2]; rfl⟩
theorem FitL.of {d : Nat} : ∀ {xs : List Val}, (∀ x ∈ xs, Fit d x) → FitL d xs
  | [], _ => .nil
  | x :: xs, h => .cons (h x (by simp)) (FitL.of fun y hy => h y (by simp [hy]))
theorem FitL.map {α : Type} {d : Nat} {g : α → Val} {l : List α} (h : ∀ x, Fit d (g x)) : FitL d (l.map g) := FitL.of fun y hy => by
  obtain ⟨x, _, rfl⟩ := List.mem_map.mp hy
  exact h x
theorem FitL.append {d : Nat} {xs ys : List Val} (a : FitL d xs) (b : FitL d ys) : FitL d (xs ++ ys) := ⟨by
    induction xs with
    | nil => simpa using b.h1
    | cons x xs ih =>
      have := a.h1
      simp only [Val.deps, List.cons_append] at this ⊢
      have := ih ⟨by omega, by have := a.h2; simp only [Val.fits, Bool.and_eq_true] at this; exact this.2⟩
      omega, by rw [Val.fits_app, a.h2, b.h2]; rfl⟩
theorem Fit.le {d e : Nat} {v : Val} (h : Fit d v) (l : d ≤ e) : Fit e v := ⟨Nat.le_trans h.h1 l, h.h2⟩
end DI
/-! DI23: classes by a divisor (plain). -/
namespace DI
/-- what a law may compare with itself -/
theorem asc_sublist : ∀ {A C : List Nat}, A.Pairwise (· < ·) → C.Pairwise (· < ·) → (∀ x ∈ A, x ∈ C) → List.Sublist A C
  | [], C, _, _, _ => List.nil_sublist C
  | a :: A, [], _, _, h => by simpa using h a (by simp)
  | a :: A, c :: C, ha, hc, h => by
    obtain ⟨a1, a2⟩ := List.pairwise_cons.mp ha
    obtain ⟨c1, c2⟩ := List.pairwise_cons.mp hc
    rcases List.mem_cons.mp (h a (by simp)) with e | e
    · subst e
      refine List.Sublist.cons₂ _ (asc_sublist a2 c2 fun x hx => ?_)
      have := a1 x hx
      rcases List.mem_cons.mp (h x (by simp [hx])) with q | q
      · omega
      · exact q
    · refine List.Sublist.cons _ (asc_sublist ha c2 fun x hx => ?_)
      have h1 : c < a := c1 a e
      have h2 : a ≤ x := by
        rcases List.mem_cons.mp hx with q | q
        · omega
        · exact Nat.le_of_lt (a1 x q)
      rcases List.mem_cons.mp (h x hx) with q | q
      · omega
      · exact q
theorem asc_ext {A C : List Nat} (ha : A.Pairwise (· < ·)) (hc : C.Pairwise (· < ·)) (h : ∀ x, x ∈ A ↔ x ∈ C) : A = C :=
  (asc_sublist ha hc fun x => (h x).mp).eq_of_length_le (asc_sublist hc ha fun x => (h x).mpr).length_le
theorem asc_full {A C : List Nat} (ha : A.Pairwise (· < ·)) (hc : C.Pairwise (· < ·)) (h : ∀ x ∈ A, x ∈ C) : A.length = C.length ↔ ∀ x ∈ C, x ∈ A := by
  constructor
  · intro e x hx
    rw [(asc_sublist ha hc h).eq_of_length e]
    exact hx
  · intro q
    rw [asc_ext ha hc fun x => ⟨h x, q x⟩]
/-- the numbers below m of a class -/
def clsN (m g c : Nat) : List Nat := (List.range m).filter fun r => r % g == c
theorem clsN_asc (m g c : Nat) : (clsN m g c).Pairwise (· < ·) := List.pairwise_lt_range.sublist List.filter_sublist
theorem mem_clsN {m g c r : Nat} : r ∈ clsN m g c ↔ r < m ∧ r % g = c := by simp [clsN]
theorem range_one {g c : Nat} (h : c < g) : (List.range g).countP (fun i => i == c) = 1 := by
  induction g with
  | zero => omega
  | succ g ih =>
    rw [List.range_succ, List.countP_append, List.countP_singleton]
    by_cases e : c = g
    · subst e
      have : (List.range c).countP (fun i => i == c) = 0 := by
        rw [List.countP_eq_zero]
        intro x hx
        have := List.mem_range.mp hx
        simp
        omega
      rw [this]
      simp
    · have e2 : (g == c) = false := by simp; omega
      rw [ih (by omega), e2]
      rfl
theorem cls_count {g c : Nat} (h : c < g) : ∀ t : Nat, (List.range (g * t)).countP (fun r => r % g == c) = t
  | 0 => by simp
  | t + 1 => by
    rw [Nat.mul_succ, List.range_add, List.countP_append, cls_count h t, List.countP_map]
    have : ((fun r => r % g == c) ∘ fun x => g * t + x) = fun x => x % g == c := by
      funext x
      simp [Function.comp, Nat.mul_add_mod]
    rw [this]
    have : (List.range g).countP (fun x => x % g == c) = (List.range g).countP (fun x => x == c) := by
      refine List.countP_congr fun x hx => ?_
      rw [Nat.mod_eq_of_lt (List.mem_range.mp hx)]
    rw [this, range_one h]
theorem clsN_len {m g c : Nat} (h : c < g) (hd : g ∣ m) : (clsN m g c).length = m / g := by
  obtain ⟨t, rfl⟩ := hd
  rw [Nat.mul_div_cancel_left t (by omega)]
  unfold clsN
  rw [← List.countP_eq_length_filter]
  exact cls_count h t
/-- a class is full -/
theorem cls_full {m g c : Nat} {xs : List Nat} (h : c < g) (hd : g ∣ m) (asc : xs.Pairwise (· < ·)) (lt : ∀ x ∈ xs, x < m) : xs.countP (fun x => x % g == c) = m / g ↔ ∀ r, r < m → r % g = c → r ∈ xs := by
  rw [← clsN_len h hd, List.countP_eq_length_filter, asc_full (asc.sublist List.filter_sublist) (clsN_asc m g c) (fun x hx => ?_)]
  · constructor
    · exact fun q r h1 h2 => (List.mem_filter.mp (q r (mem_clsN.mpr ⟨h1, h2⟩))).1
    · intro q x hx
      obtain ⟨h1, h2⟩ := mem_clsN.mp hx
      exact List.mem_filter.mpr ⟨q x h1 h2, by simpa using h2⟩
  · obtain ⟨h1, h2⟩ := List.mem_filter.mp hx
    exact mem_clsN.mpr ⟨lt x h1, by simpa using h2⟩
theorem cls_le {m g c : Nat} {xs : List Nat} (h : c < g) (hd : g ∣ m) (asc : xs.Pairwise (· < ·)) (lt : ∀ x ∈ xs, x < m) : xs.countP (fun x => x % g == c) ≤ m / g := by
  rw [← clsN_len h hd, List.countP_eq_length_filter]
  refine (asc_sublist (asc.sublist List.filter_sublist) (clsN_asc m g c) fun x hx => ?_).length_le
  obtain ⟨h1, h2⟩ := List.mem_filter.mp hx
  exact mem_clsN.mpr ⟨lt x h1, by simpa using h2⟩
/-- equal remainders -/
theorem sub_dvd_of_mod {a b m : Nat} (h : a ≤ b) (e : a % m = b % m) : m ∣ b - a := Nat.dvd_of_mod_eq_zero (Nat.sub_mod_eq_zero_of_mod_eq e.symm)
theorem steps_nodup {m q k : Nat} (hm : 0 < m) : ((List.range (m / Nat.gcd m q)).map fun j => (k + j * q) % m).Nodup := by
  refine List.pairwise_map.mpr (List.pairwise_lt_range.imp_of_mem fun {a b} ha hb hab e => ?_)
  have ha := List.mem_range.mp ha
  have hb := List.mem_range.mp hb
  have hg : 0 < Nat.gcd m q := Nat.gcd_pos_of_pos_left _ hm
  have h0 : k + a * q ≤ k + b * q := by have := Nat.mul_le_mul_right q (Nat.le_of_lt hab); omega
  have h1 : m ∣ (k + b * q) - (k + a * q) := sub_dvd_of_mod h0 e
  have h2 : (k + b * q) - (k + a * q) = (b - a) * q := by rw [Nat.sub_mul]; omega
  rw [h2] at h1
  have hm2 : Nat.gcd m q * (m / Nat.gcd m q) = m := Nat.mul_div_cancel' (Nat.gcd_dvd_left m q)
  have hq2 : Nat.gcd m q * (q / Nat.gcd m q) = q := Nat.mul_div_cancel' (Nat.gcd_dvd_right m q)
  have h3 : m / Nat.gcd m q ∣ (b - a) * (q / Nat.gcd m q) := by
    refine Nat.dvd_of_mul_dvd_mul_left hg ?_
    rw [hm2, Nat.mul_left_comm, hq2]
    exact h1
  have h4 := (Nat.coprime_div_gcd_div_gcd hg).dvd_of_dvd_mul_right h3
  have := Nat.le_of_dvd (by omega) h4
  omega
theorem steps_cls {m q k j : Nat} : ((k + j * q) % m) % Nat.gcd m q = k % Nat.gcd m q := by
  rw [Nat.mod_mod_of_dvd _ (Nat.gcd_dvd_left m q)]
  obtain ⟨u, hu⟩ := Nat.gcd_dvd_right m q
  have : j * q = Nat.gcd m q * (j * u) := by
    have : j * q = j * (Nat.gcd m q * u) := by rw [← hu]
    rw [this, Nat.mul_left_comm]
  rw [this, Nat.add_mul_mod_self_left]
/-- by steps of q every number of the class is met -/
theorem steps_all {m q k r : Nat} (hm : 0 < m) (hr : r < m) (hc : r % Nat.gcd m q = k % Nat.gcd m q) : ∃ j, j < m / Nat.gcd m q ∧ (k + j * q) % m = r := by
  have hg : 0 < Nat.gcd m q := Nat.gcd_pos_of_pos_left _ hm
  generalize hL : (List.range (m / Nat.gcd m q)).map (fun j => (k + j * q) % m) = L
  have nd : L.Nodup := by rw [← hL]; exact steps_nodup hm
  have len : L.length = m / Nat.gcd m q := by rw [← hL]; simp
  have hp := nsort_perm L
  have h1 := asc_full (sort_asc L nd) (clsN_asc m (Nat.gcd m q) (k % Nat.gcd m q)) (fun x hx => by
    have hx := hp.mem_iff.mp hx
    rw [← hL] at hx
    obtain ⟨j, _, rfl⟩ := List.mem_map.mp hx
    exact mem_clsN.mpr ⟨Nat.mod_lt _ hm, steps_cls⟩)
  have h2 := h1.mp (by rw [hp.length_eq, len, clsN_len (Nat.mod_lt _ hg) (Nat.gcd_dvd_left m q)]) r (mem_clsN.mpr ⟨hr, hc⟩)
  have h3 := hp.mem_iff.mp h2
  rw [← hL] at h3
  obtain ⟨j, hj, e⟩ := List.mem_map.mp h3
  exact ⟨j, List.mem_range.mp hj, e⟩
theorem stepN_all {m q k : Nat} (hk : k < q) (hm : 0 < m) : stepN k (m * q) q = m := by
  unfold stepN
  have h0 : q ≤ m * q := Nat.le_mul_of_pos_left q hm
  rw [if_pos (by omega)]
  have h1 : (m * q - k - 1) / q = m - 1 := by
    obtain ⟨n, rfl⟩ : ∃ n, m = n + 1 := ⟨m - 1, by omega⟩
    rw [Nat.succ_mul]
    have : n * q + q - k - 1 = (q - k - 1) + q * n := by rw [Nat.mul_comm q n]; omega
    rw [this, Nat.add_mul_div_left _ _ (by omega), Nat.div_eq_of_lt (by omega)]
    omega
  rw [h1]
  omega
/-! ### the lots within and around (k09) -/
def nearB (m : Nat) (xs : List Nat) (q W k : Nat) : Bool := !(List.range (stepN k W q)).any fun i => decide ((k + i * q) % m ∈ xs) == false
def farB (m : Nat) (xs : List Nat) (q W k : Nat) : Bool := (List.range (stepN k W q)).any fun i => decide ((k + i * q) % m ∈ xs) == true
theorem near_eq {M m q : Nat} {xs : List Nat} (lo : LotOk M m xs) (hq : 0 < q) : withinN m xs q = (List.range q).filter fun k => nearB m xs q (m * q) k := by
  have m0 := lo.m0
  have hg : 0 < Nat.gcd m q := Nat.gcd_pos_of_pos_left _ m0
  unfold withinN
  refine List.filter_congr fun k hk => ?_
  have hk := List.mem_range.mp hk
  rw [Bool.eq_iff_iff, decide_eq_true_eq, cls_full (Nat.mod_lt _ hg) (Nat.gcd_dvd_left m q) lo.asc lo.lt]
  unfold nearB
  rw [stepN_all hk m0]
  simp only [Bool.not_eq_true', List.any_eq_false, List.mem_range, beq_iff_eq, decide_eq_false_iff_not, Decidable.not_not]
  constructor
  · exact fun h i hi => h _ (Nat.mod_lt _ m0) steps_cls
  · intro h r hr hc
    obtain ⟨j, hj, e⟩ := steps_all m0 hr hc
    rw [← e]
    exact h j (Nat.lt_of_lt_of_le hj (Nat.div_le_self _ _))
theorem far_eq {M m q : Nat} {xs : List Nat} (lo : LotOk M m xs) (hq : 0 < q) : aroundN m xs q = (List.range q).filter fun k => farB m xs q (m * q) k := by
  have m0 := lo.m0
  unfold aroundN
  refine List.filter_congr fun k hk => ?_
  have hk := List.mem_range.mp hk
  rw [Bool.eq_iff_iff, decide_eq_true_eq, List.countP_pos_iff]
  unfold farB
  rw [stepN_all hk m0]
  simp only [List.any_eq_true, List.mem_range, beq_iff_eq, decide_eq_true_eq]
  constructor
  · rintro ⟨x, hx, hc⟩
    obtain ⟨j, hj, e⟩ := steps_all m0 (lo.lt x hx) hc
    exact ⟨j, Nat.lt_of_lt_of_le hj (Nat.div_le_self _ _), by rw [e]; exact hx⟩
  · rintro ⟨i, hi, h⟩
    exact ⟨_, h, steps_cls⟩
end DI
/-! DI24: equality of data, slices, loops that return. -/
namespace DI
section
variable (S : Store)
theorem eqvs_vn : ∀ l k : List Nat, Val.eqvs (l.map vn) (k.map vn) = decide (l = k)
  | [], [] => by simp [Val.eqvs]
  | [], _ :: _ => by simp [Val.eqvs]
  | _ :: _, [] => by simp [Val.eqvs]
  | x :: l, y :: k => by
    rw [List.map_cons, List.map_cons, Val.eqvs, eqvs_vn l k, Bool.eq_iff_iff]
    simp [vn, Val.eqv, Int.ofNat_inj]
theorem eqvs_bl : ∀ l k : List Bool, Val.eqvs (l.map Val.bl) (k.map Val.bl) = decide (l = k)
  | [], [] => by simp [Val.eqvs]
  | [], _ :: _ => by simp [Val.eqvs]
  | _ :: _, [] => by simp [Val.eqvs]
  | x :: l, y :: k => by
    rw [List.map_cons, List.map_cons, Val.eqvs, eqvs_bl l k, Bool.eq_iff_iff]
    simp [Val.eqv]
theorem dats_vn (l : List Nat) : Val.dats (l.map vn) = true := by rw [dats_map]; simp [vn, Val.dat]
theorem deps_vn (l : List Nat) : Val.deps (l.map vn) = 0 := by
  induction l with
  | nil => rfl
  | cons x l ih => simp [Val.deps, vn, Val.dep, ih]
theorem dats_bl (l : List Bool) : Val.dats (l.map Val.bl) = true := by rw [dats_map]; simp [Val.dat]
theorem deps_bl (l : List Bool) : Val.deps (l.map Val.bl) = 0 := by
  induction l with
  | nil => rfl
  | cons x l ih => simp [Val.deps, Val.dep, ih]
theorem eq_tn (l k : List Nat) : cmpop .eq (.tup (l.map vn)) (.tup (k.map vn)) S = .ok (.bl (decide (l = k))) S := by
  rw [eq_data S (by simp [Val.dat, dats_vn]) (by simp [Val.dat, dats_vn]) (by simp [Val.dep, deps_vn]) (by simp [Val.dep, deps_vn]), Val.eqv, eqvs_vn]
theorem eq_ln (l k : List Nat) : cmpop .eq (.lst (l.map vn)) (.lst (k.map vn)) S = .ok (.bl (decide (l = k))) S := by
  rw [eq_data S (by simp [Val.dat, dats_vn]) (by simp [Val.dat, dats_vn]) (by simp [Val.dep, deps_vn]) (by simp [Val.dep, deps_vn]), Val.eqv, eqvs_vn]
theorem eq_lb (l k : List Bool) : cmpop .eq (.lst (l.map Val.bl)) (.lst (k.map Val.bl)) S = .ok (.bl (decide (l = k))) S := by
  rw [eq_data S (by simp [Val.dat, dats_bl]) (by simp [Val.dat, dats_bl]) (by simp [Val.dep, deps_bl]) (by simp [Val.dep, deps_bl]), Val.eqv, eqvs_bl]
/-- == of two LOTS -/
theorem eq_lot (a b : Nat) (l k : List Nat) : cmpop .eq (.tup [vn a, .tup (l.map vn)]) (.tup [vn b, .tup (k.map vn)]) S = .ok (.bl (decide (a = b ∧ l = k))) S := by
  rw [eq_data S (by simp [Val.dat, Val.dats, dats_vn, vn]) (by simp [Val.dat, Val.dats, dats_vn, vn]) (by simp [Val.dep, Val.deps, deps_vn, vn]) (by simp [Val.dep, Val.deps, deps_vn, vn])]
  congr 2
  simp only [Val.eqv, Val.eqvs, eqvs_vn, vn, beq_nat, Bool.and_true]
  by_cases h : a = b <;> by_cases h2 : l = k <;> simp [h, h2]
/-- a list without anything -/
theorem eqvs_nil : ∀ xs : List Val, Val.eqvs xs [] = xs.isEmpty
  | [] => rfl
  | x :: xs => rfl
theorem eq_lnil {l : List Val} (h : Val.dats l = true) (h2 : Val.deps l ≤ 60) : cmpop .eq (.lst l) (.lst []) S = .ok (.bl l.isEmpty) S := by
  rw [eq_data S (by simpa [Val.dat] using h) (by simp [Val.dat, Val.dats]) (by simp [Val.dep]; omega) (by simp [Val.dep, Val.deps]), Val.eqv, eqvs_nil]
theorem eq_lnil_n {α : Type} (g : α → Nat) (l : List α) : cmpop .eq (.lst (l.map fun x => vn (g x))) (.lst []) S = .ok (.bl l.isEmpty) S := by
  rw [eq_lnil S (by rw [dats_map]; simp [vn, Val.dat]) (by
    have : Val.deps (l.map fun x => vn (g x)) = 0 := by
      induction l with
      | nil => rfl
      | cons x l ih => simp [Val.deps, vn, Val.dep] at ih ⊢; exact ih
    omega)]
  cases l <;> rfl
theorem ne_of_eq {S : Store} {a b : Val} {k : Bool} (h : cmpop .eq a b S = .ok (.bl k) S) : cmpop .ne a b S = .ok (.bl (!k)) S := by
  simp only [cmpop, ofB] at h ⊢
  cases e : eqOf S a b with
  | none => rw [e] at h; cases h
  | some x =>
    rw [e] at h
    have : x = k := by simpa using h
    subst this
    rfl
theorem ne_lnil_n {α : Type} (g : α → Nat) (l : List α) : cmpop .ne (.lst (l.map fun x => vn (g x))) (.lst []) S = .ok (.bl (!l.isEmpty)) S := ne_of_eq (eq_lnil_n S g l)
theorem ne_lot (a b : Nat) (l k : List Nat) : cmpop .ne (.tup [vn a, .tup (l.map vn)]) (.tup [vn b, .tup (k.map vn)]) S = .ok (.bl (!decide (a = b ∧ l = k))) S := ne_of_eq (eq_lot S a b l k)
theorem ne_tn (l k : List Nat) : cmpop .ne (.tup (l.map vn)) (.tup (k.map vn)) S = .ok (.bl (!decide (l = k))) S := ne_of_eq (eq_tn S l k)
/-! ### slices -/
theorem cut_nat {α : Type} (l : List α) (a b : Nat) : cut l (some (a : Int)) (some (b : Int)) = (l.drop a).take (b - a) := by
  unfold cut cutIx
  simp only
  rw [if_neg (by omega), if_neg (by omega)]
  simp only [Int.toNat_natCast]
  rcases Nat.le_total a l.length with h | h
  · rw [Nat.min_eq_left h]
    rcases Nat.le_total b l.length with h2 | h2
    · rw [Nat.min_eq_left h2]
    · rw [Nat.min_eq_right h2, List.take_of_length_le (by rw [List.length_drop]; omega), List.take_of_length_le (by rw [List.length_drop]; omega)]
  · rw [Nat.min_eq_right h, List.drop_length, List.take_nil, List.drop_of_length_le h, List.take_nil]
theorem cut_to {α : Type} (l : List α) (b : Nat) : cut l none (some (b : Int)) = l.take b := by
  have := cut_nat l 0 b
  simp at this
  rw [← this]
  rfl
theorem cut_from {α : Type} (l : List α) (a : Nat) : cut l (some (a : Int)) none = l.drop a := by
  unfold cut cutIx
  simp only
  rw [if_neg (by omega), Int.toNat_natCast]
  rcases Nat.le_total a l.length with h | h
  · rw [Nat.min_eq_left h, List.take_of_length_le (by rw [List.length_drop]; omega)]
  · rw [Nat.min_eq_right h, List.drop_length, List.take_nil, List.drop_of_length_le h]
end
/-! ### loops that return -/
/-- a loop that returns at the first turn with a word -/
theorem forT_find {α : Type} {body : Val → Sl → Store → Out (Fl × Sl)} {t} {h : α → Val} {S : Store} (I : Sl → Prop) (c : α → Bool) (v : α → Val) {l : List α}
    (step : ∀ x r, x ∈ l → I r → ∃ r', body (h x) r S = .ok (if c x = true then .rt (v x) else .nx, r') S ∧ I r')
    (r : Sl) (i0 : I r) : ∃ r', forT body t (l.map h) r S = .ok ((match l.find? c with | some x => .rt (v x) | none => .nx), r') S ∧ I r' := by
  induction l generalizing r with
  | nil => exact ⟨r, rfl, i0⟩
  | cons x l ih =>
    obtain ⟨r1, e1, i1⟩ := step x r (by simp) i0
    have e0 : forT body t ((x :: l).map h) r S = (body (h x) r S).bind fun p S1 => (match p with
      | (.nx, r1) => forL body (l.map h) r1 S1
      | (.ct, r1) => forL body (l.map h) r1 S1
      | (.bk, r1) => .ok (.nx, r1) S1
      | (.rt v, r1) => .ok (.rt v, r1) S1) := rfl
    rw [e0, e1, Out.bind_ok, List.find?_cons]
    cases hc : c x with
    | true => exact ⟨r1, rfl, i1⟩
    | false =>
      obtain ⟨r2, e2, i2⟩ := ih (fun y r hy => step y r (by simp [hy])) r1 i1
      exact ⟨r2, e2, i2⟩
/-- a loop all of whose turns go on -/
theorem forT_same {α : Type} {body : Val → Sl → Store → Out (Fl × Sl)} {t} {h : α → Val} {S : Store} (I : Sl → Prop) {l : List α}
    (step : ∀ x r, x ∈ l → I r → ∃ r', body (h x) r S = .ok (.nx, r') S ∧ I r')
    (r : Sl) (i0 : I r) : ∃ r', forT body t (l.map h) r S = .ok (.nx, r') S ∧ I r' := by
  obtain ⟨r', e, i⟩ := forT_find (body := body) (t := t) (h := h) (S := S) I (fun _ => false) (fun _ => .non) (l := l) (by simpa using step) r i0
  have : l.find? (fun _ => false) = none := by simp
  rw [this] at e
  exact ⟨r', e, i⟩
theorem all_bl {α : Type} (S : Store) (p : α → Bool) (l : List α) : biop .all [.lst (l.map fun x => .bl (p x))] S = .ok (.bl (l.all p)) S := by
  have := all_bls S (l.map p)
  rw [List.map_map] at this
  rw [show (l.map fun x => Val.bl (p x)) = l.map (Val.bl ∘ p) from rfl, this, List.all_map]
  rfl
theorem any_bl {α : Type} (S : Store) (p : α → Bool) (l : List α) : biop .any [.lst (l.map fun x => .bl (p x))] S = .ok (.bl (l.any p)) S := by
  have := any_bls S (l.map p)
  rw [List.map_map] at this
  rw [show (l.map fun x => Val.bl (p x)) = l.map (Val.bl ∘ p) from rfl, this, List.any_map]
  rfl
end DI
namespace DI
/-! ### the least step (plain) -/
/-- who is in a lot -/
def inL (m : Nat) (xs : List Nat) (n : Nat) : Bool := decide (n % m ∈ xs)
/-- moved on by k it stays -/
def Per (f : Nat → Bool) (k : Nat) : Prop := ∀ n, f (n + k) = f n
theorem Per.mul {f : Nat → Bool} {k : Nat} (h : Per f k) : ∀ t, Per f (k * t)
  | 0 => fun n => by simp
  | t + 1 => fun n => by rw [Nat.mul_succ, ← Nat.add_assoc, h, Per.mul h t]
theorem Per.mod {f : Nat → Bool} {d k : Nat} (hd : Per f d) (hk : Per f k) : Per f (k % d) := fun n => by
  have h1 := hd.mul (k / d) (n + k % d)
  have h2 := hk n
  rw [← h1, Nat.add_assoc, Nat.mod_add_div, h2]
theorem Per.dvd {f : Nat → Bool} {d k : Nat} (h : Per f d) (hd : d ∣ k) : Per f k := by
  obtain ⟨t, rfl⟩ := hd
  exact h.mul t
theorem Per.red {f : Nat → Bool} {d : Nat} (h : Per f d) (n : Nat) : f (n % d) = f n := by
  have := h.mul (n / d) (n % d)
  rw [Nat.mod_add_div] at this
  exact this.symm
theorem inL_per (m : Nat) (xs : List Nat) : Per (inL m xs) m := fun n => by simp [inL]
/-- the law's look at a row of two rounds -/
theorem row_per {m : Nat} {xs : List Nat} (hm : 0 < m) (k : Nat) (hk : k ≤ m) :
    (((List.range (2 * m)).map (inL m xs)).drop k).take m = ((List.range (2 * m)).map (inL m xs)).take m ↔ Per (inL m xs) k := by
  have get : ∀ j i, i < m → j ≤ m → (((List.range (2 * m)).map (inL m xs)).drop j)[i]? = some (inL m xs (j + i)) := fun j i hi hj => by
    rw [List.getElem?_drop, List.getElem?_map, List.getElem?_range (by omega)]
    rfl
  have len : ∀ j, j ≤ m → ((((List.range (2 * m)).map (inL m xs)).drop j).take m).length = m := fun j hj => by simp; omega
  constructor
  · intro e n
    have hi := Nat.mod_lt n hm
    have h1 := congrArg (fun l => l[n % m]?) e
    simp only [List.getElem?_take, hi, if_true] at h1
    rw [get k _ hi hk] at h1
    have h2 := get 0 _ hi (by omega)
    rw [List.drop_zero] at h2
    rw [h2] at h1
    have h1 : inL m xs (k + n % m) = inL m xs (0 + n % m) := Option.some.inj h1
    rw [Nat.zero_add] at h1
    have h3 : inL m xs (n % m) = inL m xs n := (inL_per m xs).red n
    have h4 : inL m xs (n + k) = inL m xs (k + n % m) := by simp [inL, Nat.add_comm k]
    rw [h4, h1, h3]
  · intro h
    refine List.ext_getElem? fun i => ?_
    by_cases hi : i < m
    · simp only [List.getElem?_take, hi, if_true]
      have h2 := get 0 i hi (by omega)
      rw [List.drop_zero] at h2
      rw [get k i hi hk, h2, Nat.add_comm k, h, Nat.zero_add]
    · simp [List.getElem?_take, hi]
/-- the turned set -/
theorem turn_per {M m : Nat} {xs : List Nat} (lo : LotOk M m xs) (k : Nat) (hk : k ≤ m) : nusort (xs.map fun x => (x + k) % m) = xs ↔ Per (inL m xs) k := by
  have m0 := lo.m0
  constructor
  · intro e
    -- a map of a finite set into itself, onto
    have onto : ∀ y, y ∈ xs ↔ ∃ x ∈ xs, (x + k) % m = y := fun y => by
      rw [← e, nusort_mem, List.mem_map, e]
    intro n
    unfold inL
    rw [decide_eq_decide]
    constructor
    · intro h
      obtain ⟨x, hx, q⟩ := (onto _).mp h
      have hxm := lo.lt x hx
      -- (x + k) % m = (n + k) % m gives x = n % m
      have q1 : (n % m + k) % m = (x + k) % m := by rw [q]; simp
      have q2 := Nat.mod_lt n m0
      have q3 : n % m = x := by
        rcases Nat.le_total (n % m) x with l | l
        · have d := sub_dvd_of_mod (by omega : n % m + k ≤ x + k) q1
          have : (x + k) - (n % m + k) = x - n % m := by omega
          rw [this] at d
          have := Nat.eq_zero_of_dvd_of_lt d (by omega)
          omega
        · have d := sub_dvd_of_mod (by omega : x + k ≤ n % m + k) q1.symm
          have : (n % m + k) - (x + k) = n % m - x := by omega
          rw [this] at d
          have := Nat.eq_zero_of_dvd_of_lt d (by omega)
          omega
      rw [q3]
      exact hx
    · intro h
      refine (onto _).mpr ⟨_, h, by simp⟩
  · intro h
    refine asc_ext (nusort_asc _) lo.asc fun y => ?_
    rw [nusort_mem, List.mem_map]
    constructor
    · rintro ⟨x, hx, rfl⟩
      have := h x
      unfold inL at this
      rw [decide_eq_decide, Nat.mod_eq_of_lt (lo.lt x hx)] at this
      exact this.mpr hx
    · intro hy
      have hym := lo.lt y hy
      refine ⟨(y + (m - k)) % m, ?_, ?_⟩
      · have h1 := h (y + (m - k))
        unfold inL at h1
        have h2 : y + (m - k) + k = y + m := by omega
        rw [h2, decide_eq_decide, Nat.add_mod_right, Nat.mod_eq_of_lt hym] at h1
        exact h1.mp hy
      · have h2 : y + (m - k) + k = y + m := by omega
        rw [Nat.mod_add_mod, h2, Nat.add_mod_right, Nat.mod_eq_of_lt hym]
/-- the least step, by going through 1, 2, .. -/
structure Step (m : Nat) (xs : List Nat) (d : Nat) : Prop where
  d0 : 0 < d
  per : Per (inL m xs) d
  least : ∀ k, 0 < k → Per (inL m xs) k → d ≤ k
theorem Step.dvd {m d : Nat} {xs : List Nat} (s : Step m xs d) {k : Nat} (h : Per (inL m xs) k) : d ∣ k := by
  rcases Nat.eq_zero_or_pos (k % d) with e | e
  · exact Nat.dvd_of_mod_eq_zero e
  · have := s.least _ e (s.per.mod h)
    have := Nat.mod_lt k s.d0
    omega
theorem Step.uniq {m d e : Nat} {xs : List Nat} (s : Step m xs d) (t : Step m xs e) : d = e := Nat.le_antisymm (s.least e t.d0 t.per) (t.least d s.d0 s.per)
/-- the first of a row with a word -/
theorem find_first {n : Nat} {c : Nat → Bool} : ∀ {l : List Nat}, l.Pairwise (· < ·) → n ∈ l → c n = true → ∃ d, l.find? c = some d ∧ d ∈ l ∧ c d = true ∧ ∀ k ∈ l, c k = true → d ≤ k
  | [], _, h, _ => by simp at h
  | x :: l, p, h, hc => by
    obtain ⟨p1, p2⟩ := List.pairwise_cons.mp p
    rw [List.find?_cons]
    cases e : c x with
    | true =>
      refine ⟨x, rfl, by simp, e, fun k hk _ => ?_⟩
      rcases List.mem_cons.mp hk with rfl | hk
      · omega
      · exact Nat.le_of_lt (p1 k hk)
    | false =>
      have hn : n ∈ l := by
        rcases List.mem_cons.mp h with rfl | h
        · rw [hc] at e; cases e
        · exact h
      obtain ⟨d, q1, q2, q3, q4⟩ := find_first p2 hn hc
      refine ⟨d, q1, by simp [q2], q3, fun k hk hk2 => ?_⟩
      rcases List.mem_cons.mp hk with rfl | hk
      · rw [e] at hk2; cases hk2
      · exact q4 k hk hk2
theorem up1_asc (m : Nat) : ((List.range (m + 1 - 1)).map fun i => 1 + i).Pairwise (· < ·) := List.pairwise_map.mpr (List.pairwise_lt_range.imp fun q => by omega)
theorem mem_up1 {m k : Nat} : k ∈ ((List.range (m + 1 - 1)).map fun i => 1 + i) ↔ 1 ≤ k ∧ k ≤ m := by
  rw [List.mem_map]
  constructor
  · rintro ⟨i, hi, rfl⟩
    have := List.mem_range.mp hi
    omega
  · rintro ⟨h1, h2⟩
    exact ⟨k - 1, List.mem_range.mpr (by omega), by omega⟩
theorem step_exists {m : Nat} {xs : List Nat} (hm : 0 < m) : ∃ d, Step m xs d ∧ d ≤ m := by
  classical
  obtain ⟨d, q1, q2, q3, q4⟩ := find_first (c := fun k => decide (Per (inL m xs) k)) (up1_asc m) (mem_up1.mpr ⟨hm, Nat.le_refl m⟩) (by simpa using inL_per m xs)
  have r := mem_up1.mp q2
  refine ⟨d, ⟨by omega, by simpa using q3, fun k hk hp => ?_⟩, r.2⟩
  by_cases h : k ≤ m
  · exact q4 k (mem_up1.mpr ⟨hk, h⟩) (by simpa using hp)
  · omega
/-- the program's way: the first divisor -/
def divs (m : Nat) : List Nat := ((List.range (m + 1 - 1)).map fun i => 1 + i).filter fun p => decide (m % p = 0)
theorem divs_asc (m : Nat) : (divs m).Pairwise (· < ·) := (up1_asc m).sublist List.filter_sublist
theorem mem_divs {m k : Nat} (hm : 0 < m) : k ∈ divs m ↔ k ∣ m := by
  unfold divs
  rw [List.mem_filter, mem_up1, decide_eq_true_eq]
  constructor
  · exact fun h => Nat.dvd_of_mod_eq_zero h.2
  · exact fun h => ⟨⟨Nat.pos_of_dvd_of_pos h hm, Nat.le_of_dvd hm h⟩, Nat.mod_eq_zero_of_dvd h⟩
theorem Step.first {M m d : Nat} {xs : List Nat} (lo : LotOk M m xs) (s : Step m xs d) : (divs m).filter (fun p => decide (nusort (xs.map fun x => (x + p) % m) = xs)) ≠ [] ∧ ((divs m).filter fun p => decide (nusort (xs.map fun x => (x + p) % m) = xs)).headD 0 = d := by
  have hd : d ∣ m := s.dvd (inL_per m xs)
  have c : ∀ p, p ∈ divs m → (decide (nusort (xs.map fun x => (x + p) % m) = xs) = true ↔ Per (inL m xs) p) := fun p hp => by
    rw [decide_eq_true_eq]
    exact turn_per lo p (Nat.le_of_dvd lo.m0 ((mem_divs lo.m0).mp hp))
  have hm : d ∈ (divs m).filter fun p => decide (nusort (xs.map fun x => (x + p) % m) = xs) := List.mem_filter.mpr ⟨(mem_divs lo.m0).mpr hd, (c d ((mem_divs lo.m0).mpr hd)).mpr s.per⟩
  refine ⟨List.ne_nil_of_mem hm, ?_⟩
  generalize hl : (divs m).filter (fun p => decide (nusort (xs.map fun x => (x + p) % m) = xs)) = l at hm
  have asc : l.Pairwise (· < ·) := by rw [← hl]; exact (divs_asc m).sublist List.filter_sublist
  cases l with
  | nil => cases hm
  | cons a l =>
    have ha : a ∈ (divs m).filter fun p => decide (nusort (xs.map fun x => (x + p) % m) = xs) := by rw [hl]; simp
    obtain ⟨a1, a2⟩ := List.mem_filter.mp ha
    have pa := (c a a1).mp a2
    have := s.least a (Nat.pos_of_dvd_of_pos ((mem_divs lo.m0).mp a1) lo.m0) pa
    rcases List.mem_cons.mp hm with e | e
    · exact e.symm
    · have := (List.pairwise_cons.mp asc).1 d e
      omega
/-- the short form -/
def short (xs : List Nat) (d : Nat) : List Nat := xs.filter fun x => decide (x < d)
theorem mem_short {M m d : Nat} {xs : List Nat} (lo : LotOk M m xs) (s : Step m xs d) (hd : d ≤ m) {x : Nat} : x ∈ short xs d ↔ x < d ∧ inL m xs x = true := by
  unfold short inL
  rw [List.mem_filter]
  simp only [decide_eq_true_eq]
  constructor
  · exact fun h => ⟨h.2, by rw [Nat.mod_eq_of_lt (lo.lt x h.1)]; exact h.1⟩
  · intro h
    have h2 := h.2
    rw [Nat.mod_eq_of_lt (by omega)] at h2
    exact ⟨h2, h.1⟩
theorem short_same {M M' m m' d d' : Nat} {xs xs' : List Nat} (lo : LotOk M m xs) (s : Step m xs d) (hd : d ≤ m) (lo' : LotOk M' m' xs') (s' : Step m' xs' d') (hd' : d' ≤ m') :
    (d = d' ∧ short xs d = short xs' d') ↔ ∀ n, inL m xs n = inL m' xs' n := by
  constructor
  · rintro ⟨rfl, e⟩ n
    have h1 := s.per.red n
    have h2 := s'.per.red n
    rw [← h1, ← h2, Bool.eq_iff_iff]
    have hn := Nat.mod_lt n s.d0
    constructor
    · intro h
      exact ((mem_short lo' s' hd').mp (e ▸ (mem_short lo s hd).mpr ⟨hn, h⟩)).2
    · intro h
      exact ((mem_short lo s hd).mp (e ▸ (mem_short lo' s' hd').mpr ⟨hn, h⟩)).2
  · intro h
    have hf : inL m xs = inL m' xs' := funext h
    have e : d = d' := by
      refine Nat.le_antisymm (s.least d' s'.d0 ?_) (s'.least d s.d0 ?_)
      · rw [hf]; exact s'.per
      · rw [← hf]; exact s.per
    subst e
    refine ⟨rfl, asc_ext (lo.asc.sublist List.filter_sublist) (lo'.asc.sublist List.filter_sublist) fun x => ?_⟩
    rw [mem_short lo s hd, mem_short lo' s' hd', hf]
/-- by the numbers below the product -/
theorem below_all {m m' : Nat} {xs xs' : List Nat} (hm : 0 < m) (hm' : 0 < m') : (∀ k, k < m * m' → inL m xs k = inL m' xs' k) ↔ ∀ n, inL m xs n = inL m' xs' n := by
  constructor
  · intro h n
    have h1 := ((inL_per m xs).dvd (Nat.dvd_mul_right m m')).red n
    have h2 := ((inL_per m' xs').dvd (Nat.dvd_mul_left m' m)).red n
    rw [← h1, ← h2]
    exact h _ (Nat.mod_lt _ (Nat.mul_pos hm hm'))
  · exact fun h k _ => h k
/-- remainders by a number that keeps a lot (k49) -/
theorem kept_iff {m w : Nat} {xs : List Nat} (hm : 0 < m) (hw : 0 < w) : (∀ k, k < m * w / Nat.gcd m w → inL m xs k = inL m xs (k % w)) ↔ Per (inL m xs) w := by
  constructor
  · intro h
    have hL : 0 < m * w / Nat.gcd m w := Nat.div_pos (Nat.le_of_dvd (Nat.mul_pos hm hw) (Nat.dvd_trans (Nat.gcd_dvd_left m w) (Nat.dvd_mul_right m w))) (Nat.gcd_pos_of_pos_left _ hm)
    have d1 : m ∣ m * w / Nat.gcd m w := by
      rw [Nat.mul_div_assoc _ (Nat.gcd_dvd_right m w)]
      exact Nat.dvd_mul_right ..
    have d2 : w ∣ m * w / Nat.gcd m w := by
      rw [Nat.mul_comm, Nat.mul_div_assoc _ (Nat.gcd_dvd_left m w)]
      exact Nat.dvd_mul_right ..
    have all : ∀ n, inL m xs n = inL m xs (n % w) := fun n => by
      have h1 := ((inL_per m xs).dvd d1).red n
      have h2 := h _ (Nat.mod_lt n hL)
      rw [h1, Nat.mod_mod_of_dvd _ d2] at h2
      exact h2
    intro n
    rw [all (n + w), all n, Nat.add_mod_right]
  · exact fun h k _ => (h.red k).symm
end DI
/-! DI26: constants, zip. -/
namespace DI
def gloV (o : Option Cst) (S : Store) : Out Val := match o with
  | some c => .ok c.v S
  | none => .bad
section
variable (S : Store)
theorem ev_glo (P : Pg) (C : Cf) (r : Sl) (x : Nat) : ev P C (.glo x) r S = gloV (P.cst x) S := rfl
theorem gloV_nat (n : Nat) : gloV (some (.int (no_index (OfNat.ofNat n)))) S = .ok (vn (OfNat.ofNat n)) S := rfl
theorem gloV_str (s : List Nat) : gloV (some (.str s)) S = .ok (.str s) S := rfl
theorem zip_map {α β : Type} (f : α → Val) (g : β → Val) : ∀ (l : List α) (k : List β), zipIts (l.map f) (k.map g) = (l.zip k).map fun p => .tup [f p.1, g p.2]
  | [], k => by simp [zipIts]
  | _ :: _, [] => by simp [zipIts]
  | x :: l, y :: k => by
    have := zip_map f g l k
    simp only [zipIts, List.map_cons, List.zip_cons_cons] at this ⊢
    rw [this]
theorem zpV_tt (xs ys) : zpV (.tup xs) (.tup ys) S = .ok (zipIts xs ys) S := rfl
theorem zpV_ll (xs ys) : zpV (.lst xs) (.lst ys) S = .ok (zipIts xs ys) S := rfl
theorem cut_map' {α : Type} (f : α → Val) (l : List α) (lo hi : Option Int) : cut (l.map f) lo hi = (cut l lo hi).map f := by
  unfold cut
  rw [List.length_map, List.map_take, List.map_drop]
theorem cutT {α : Type} (f : α → Val) (l : List α) (lo hi : Option Int) : opCut (.tup (l.map f)) lo hi S = .ok (.tup ((cut l lo hi).map f)) S := by
  rw [cut_tup, cut_map']
theorem cutL {α : Type} (f : α → Val) (l : List α) (lo hi : Option Int) : opCut (.lst (l.map f)) lo hi S = .ok (.lst ((cut l lo hi).map f)) S := by
  rw [cut_lst, cut_map']
theorem keepC_b (b : Bool) (o) : keepC b o S = if b = true then o else .ok none S := rfl
end
theorem asc_zip : ∀ {l : List Nat}, l.Pairwise (· < ·) → ((l.zip (l.drop 1)).all fun p => decide (p.1 < p.2)) = true
  | [], _ => rfl
  | [x], _ => rfl
  | x :: y :: l, h => by
    obtain ⟨h1, h2⟩ := List.pairwise_cons.mp h
    have := asc_zip h2
    simp only [List.drop_succ_cons, List.drop_zero, List.zip_cons_cons, List.all_cons, Bool.and_eq_true, decide_eq_true_eq] at this ⊢
    exact ⟨h1 y (by simp), this⟩
/-- the rest of a block -/
def sTl : Sms → Sms
  | .cons _ r => r
  | s => s
theorem eq_lnil_v (S : Store) (l : List Nat) : cmpop .eq (.lst (l.map vn)) (.lst []) S = .ok (.bl l.isEmpty) S := eq_lnil_n S (fun n => n) l
theorem ne_lnil_v (S : Store) (l : List Nat) : cmpop .ne (.lst (l.map vn)) (.lst []) S = .ok (.bl (!l.isEmpty)) S := ne_lnil_n S (fun n => n) l
theorem zip_self (xs : List Val) : zipIts xs xs = xs.map fun x => .tup [x, x] := by
  induction xs with
  | nil => rfl
  | cons x xs ih =>
    simp only [zipIts, List.zip_cons_cons, List.map_cons] at ih ⊢
    rw [ih]
theorem eq_non (S : Store) : cmpop .eq .non .non S = .ok (.bl true) S := rfl
theorem eq_strs (S : Store) {s t : List Nat} (h : s.all (· < 0x110000) = true) (h2 : t.all (· < 0x110000) = true) : cmpop .eq (.str s) (.str t) S = .ok (.bl (s == t)) S := by
  rw [eq_data S (by simpa [Val.dat] using h) (by simpa [Val.dat] using h2) (by simp [Val.dep]) (by simp [Val.dep])]
  rfl
theorem isn_str (S : Store) (s : List Nat) : cmpop .isn (.str s) .non S = .ok (.bl false) S := rfl
theorem isn_vn (S : Store) (n : Nat) : cmpop .isn (vn n) .non S = .ok (.bl false) S := rfl
mutual
/-- tuples as lists, at any depth -/
def toL : Val → Val
  | .tup xs => .lst (toLs xs)
  | .lst xs => .lst (toLs xs)
  | v => v
def toLs : List Val → List Val
  | [] => []
  | x :: xs => toL x :: toLs xs
end
theorem toLs_map : ∀ xs : List Val, toLs xs = xs.map toL
  | [] => by simp [toLs]
  | x :: xs => by simp [toLs, toLs_map xs]
theorem toL_vn (n : Nat) : toL (vn n) = vn n := by simp [vn, toL]
theorem toL_nats (l : List Nat) : toL (.tup (l.map vn)) = .lst (l.map vn) := by
  simp only [toL, toLs_map, List.map_map]
  rw [show toL ∘ vn = vn from funext toL_vn]
theorem toL_lot (m : Nat) (l : List Nat) : toL (.tup [vn m, .tup (l.map vn)]) = .lst [vn m, .lst (l.map vn)] := by
  simp only [toL, toLs_map, List.map_cons, List.map_nil, List.map_map]
  rw [toL_vn]
  rw [show toL ∘ vn = vn from funext toL_vn]
theorem compL_V (f : Val → Store → Out (Option Val)) (xs : List Val) (S : Store) : compL f xs S = cmpM xs (fun x _ S => f x S) S := by
  have := compL_G f (fun x => x) xs S
  rwa [List.map_id'] at this
theorem fin_box1 {S : Store} {β β' : Box} {v : Val} (h : v.pure = true) : fin (S ++ [boxV β]) v (S ++ [boxV β'] ++ [.dead]) = .ok v (S ++ [boxV β']) := by
  have := fin_box (S := S) (T := []) (U := [.dead]) (β := β) (β' := β') h
  simpa using this
theorem getD_range (g : Nat → Val) {n i : Nat} (h : i < n) : ((List.range n).map g).getD i .non = g i := by
  simp [List.getD_eq_getElem?_getD, h]
end DI
/-! DI27: even classes (plain), and some rules. -/
namespace DI
theorem sum_add (f g : Nat → Nat) : ∀ l : List Nat, (l.map fun j => f j + g j).sum = (l.map f).sum + (l.map g).sum
  | [] => rfl
  | x :: l => by
    simp only [List.map_cons, List.sum_cons, sum_add f g l]
    omega
theorem sum_const (v : Nat) : ∀ l : List Nat, (l.map fun _ => v).sum = l.length * v
  | [] => by simp
  | x :: l => by
    simp only [List.map_cons, List.sum_cons, sum_const v l, List.length_cons, Nat.succ_mul]
    omega
theorem sum_congr {f g : Nat → Nat} : ∀ {l : List Nat}, (∀ j ∈ l, f j = g j) → (l.map f).sum = (l.map g).sum
  | [], _ => rfl
  | x :: l, h => by
    simp only [List.map_cons, List.sum_cons]
    rw [h x (by simp), sum_congr fun j hj => h j (by simp [hj])]
theorem sum_ind (a : Nat) : ∀ n, a < n → ((List.range n).map fun j => if a = j then 1 else 0).sum = 1
  | 0, h => by omega
  | n + 1, h => by
    rw [List.range_succ, List.map_append, List.sum_append]
    by_cases e : a = n
    · subst e
      have : ((List.range a).map fun j => if a = j then 1 else 0).sum = ((List.range a).map fun _ => 0).sum := sum_congr fun j hj => by
        have := List.mem_range.mp hj
        rw [if_neg (by omega)]
      rw [this, sum_const]
      simp
    · rw [sum_ind a n (by omega)]
      simp [e]
theorem sum_zero {f : Nat → Nat} {l : List Nat} (h : ∀ j ∈ l, f j = 0) : (l.map f).sum = 0 := by
  rw [sum_congr (g := fun _ => 0) h, sum_const]
  omega
/-- a class by d is made of classes by g -/
theorem cls_split {d g c : Nat} (hd : 0 < d) (hg : 0 < g) (h : d ∣ g) (hc : c < d) (xs : List Nat) : xs.countP (fun x => x % d == c) = ((List.range (g / d)).map fun j => xs.countP fun x => x % g == c + j * d).sum := by
  induction xs with
  | nil => simp only [List.countP_nil]; rw [sum_zero fun _ _ => rfl]
  | cons x xs ih =>
    simp only [List.countP_cons]
    rw [sum_add, ← ih]
    congr 1
    have e1 : x % g % d = x % d := Nat.mod_mod_of_dvd x h
    obtain ⟨t, rfl⟩ := h
    rw [Nat.mul_div_cancel_left t hd]
    have ht : x % (d * t) / d < t := Nat.div_lt_of_lt_mul (Nat.mod_lt _ hg)
    have e2 := Nat.div_add_mod (x % (d * t)) d
    by_cases hx : x % d = c
    · rw [if_pos (by simpa using hx), sum_congr (g := fun j => if x % (d * t) / d = j then 1 else 0), sum_ind _ _ ht]
      intro j hj
      rw [e1, hx] at e2
      by_cases q : x % (d * t) / d = j
      · have z : x % (d * t) = c + j * d := by
          rw [q, Nat.mul_comm d j] at e2
          omega
        rw [if_pos q, if_pos (by simpa using z)]
      · rw [if_neg q, if_neg]
        simp
        intro z
        apply q
        have : d * (x % (d * t) / d) = d * j := by rw [Nat.mul_comm d j]; omega
        exact Nat.eq_of_mul_eq_mul_left hd this
    · rw [if_neg (by simpa using hx), sum_zero]
      intro j hj
      rw [if_neg]
      simp
      intro z
      apply hx
      rw [← e1, z, Nat.add_mul_mod_self_right, Nat.mod_eq_of_lt hc]
/-- as many in each class -/
def evenN (g : Nat) (xs : List Nat) : Bool := decide (minN (cntN g xs) = maxN (cntN g xs))
theorem cntN_ne {g : Nat} (hg : 0 < g) (xs : List Nat) : cntN g xs ≠ [] := by
  intro e
  have := cntN_len g xs
  rw [e] at this
  simp at this
  omega
theorem mem_cntN {g v : Nat} {xs : List Nat} : v ∈ cntN g xs ↔ ∃ c, c < g ∧ xs.countP (fun x => x % g == c) = v := by
  unfold cntN
  simp only [List.mem_map, List.mem_range]
theorem even_iff {g : Nat} (hg : 0 < g) (xs : List Nat) : evenN g xs = true ↔ ∃ v, ∀ c, c < g → xs.countP (fun x => x % g == c) = v := by
  unfold evenN
  rw [decide_eq_true_eq]
  constructor
  · intro e
    refine ⟨minN (cntN g xs), fun c hc => ?_⟩
    have h1 := minN_le (mem_cntN.mpr ⟨c, hc, rfl⟩ : xs.countP (fun x => x % g == c) ∈ cntN g xs)
    have h2 := le_maxN (mem_cntN.mpr ⟨c, hc, rfl⟩ : xs.countP (fun x => x % g == c) ∈ cntN g xs)
    omega
  · rintro ⟨v, h⟩
    obtain ⟨c, hc, e1⟩ := mem_cntN.mp (minN_mem (cntN_ne hg xs))
    obtain ⟨c', hc', e2⟩ := mem_cntN.mp (maxN_mem (cntN_ne hg xs))
    rw [← e1, ← e2, h c hc, h c' hc']
theorem even_dvd {d g : Nat} {xs : List Nat} (hg : 0 < g) (h : d ∣ g) (e : evenN g xs = true) : evenN d xs = true := by
  have hd := Nat.pos_of_dvd_of_pos h hg
  obtain ⟨v, hv⟩ := (even_iff hg xs).mp e
  refine (even_iff hd xs).mpr ⟨g / d * v, fun c hc => ?_⟩
  rw [cls_split hd hg h hc, sum_congr (g := fun _ => v), sum_const, List.length_range]
  intro j hj
  refine hv _ ?_
  have hj := List.mem_range.mp hj
  have h1 : (j + 1) * d ≤ g / d * d := Nat.mul_le_mul_right d hj
  rw [Nat.div_mul_cancel h, Nat.succ_mul] at h1
  omega
theorem even_total {d v : Nat} {xs : List Nat} (hd : 0 < d) (h : ∀ c, c < d → xs.countP (fun x => x % d == c) = v) : xs.length = d * v := by
  have e := cls_split (d := 1) (g := d) (c := 0) (by omega) hd (Nat.one_dvd d) (by omega) xs
  have e1 : xs.countP (fun x => x % 1 == 0) = xs.length := by
    rw [List.countP_eq_length]
    intro x _
    simp [Nat.mod_one]
  rw [e1, Nat.div_one, sum_congr (g := fun _ => v), sum_const, List.length_range] at e
  · exact e
  · intro j hj
    simp only [Nat.zero_add, Nat.mul_one]
    exact h j (List.mem_range.mp hj)
/-- one round of numbers that follow one another -/
theorem round_one {d c f : Nat} (hc : c < d) : (List.range d).countP (fun k => (f + k) % d == c) = 1 := by
  have h1 : (List.range d).countP (fun k => (f + k) % d == c) = ((List.range d).map fun k => (f + k) % d).countP (fun x => x == c) := by rw [List.countP_map]; rfl
  have nd := shift_nodup (m := d) (f := f) (q := d) (Nat.le_refl d)
  have hp := nsort_perm ((List.range d).map fun k => (f + k) % d)
  have hs : nsort ((List.range d).map fun k => (f + k) % d) = List.range d := by
    have sub : ∀ x ∈ nsort ((List.range d).map fun k => (f + k) % d), x ∈ List.range d := fun x hx => by
      obtain ⟨k, _, rfl⟩ := List.mem_map.mp (hp.mem_iff.mp hx)
      exact List.mem_range.mpr (Nat.mod_lt _ (by omega))
    refine (asc_sublist (sort_asc _ nd) List.pairwise_lt_range sub).eq_of_length ?_
    rw [hp.length_eq]
    simp
  rw [h1, ← hp.countP_eq, hs, range_one hc]
theorem rounds {d c f : Nat} (hc : c < d) : ∀ t, (List.range (d * t)).countP (fun k => (f + k) % d == c) = t
  | 0 => by simp
  | t + 1 => by
    rw [Nat.mul_succ, List.range_add, List.countP_append, rounds hc t, List.countP_map]
    have : ((fun k => (f + k) % d == c) ∘ fun x => d * t + x) = fun x => (f + x) % d == c := by
      funext x
      have : f + (d * t + x) = f + x + d * t := by omega
      simp only [Function.comp, this, Nat.add_mul_mod_self_left]
    rw [this, round_one hc]
/-- a stretch -/
def rowN (m f q : Nat) : List Nat := nsort ((List.range q).map fun k => (f + k) % m)
theorem rowN_ok {M m f q : Nat} (hm : 0 < m) (hM : m ≤ M) (hq : q ≤ m) : LotOk M m (rowN m f q) := ⟨hm, hM, sort_asc _ (shift_nodup hq), fun x hx => by
  obtain ⟨k, _, rfl⟩ := List.mem_map.mp ((nsort_perm _).mem_iff.mp hx)
  exact Nat.mod_lt _ hm⟩
theorem row_even {m f q d : Nat} (hm : 0 < m) (hd : d ∣ m) : evenN d (rowN m f q) = decide (q % d = 0) := by
  have d0 := Nat.pos_of_dvd_of_pos hd hm
  have cnt : ∀ c, (rowN m f q).countP (fun x => x % d == c) = (List.range q).countP (fun k => (f + k) % d == c) := fun c => by
    unfold rowN
    rw [(nsort_perm _).countP_eq, List.countP_map]
    refine List.countP_congr fun k _ => ?_
    simp only [Function.comp, Nat.mod_mod_of_dvd _ hd]
  rw [Bool.eq_iff_iff, even_iff d0, decide_eq_true_eq]
  constructor
  · rintro ⟨v, h⟩
    have := even_total d0 h
    unfold rowN at this
    rw [(nsort_perm _).length_eq, List.length_map, List.length_range] at this
    rw [this]
    exact Nat.mul_mod_right d v
  · intro h
    obtain ⟨t, rfl⟩ := Nat.dvd_of_mod_eq_zero h
    exact ⟨t, fun c hc => by rw [cnt, rounds hc]⟩
theorem divs_fold (m : Nat) : ((List.range (m + 1 - 1)).filter fun x => decide (m % (1 + x) = 0)).map (fun i => vn (1 + i)) = (divs m).map vn := by
  unfold divs
  rw [List.filter_map, List.map_map]
  rfl
theorem add_tup (S : Store) {xs ys : List Val} (h : LenOk (xs ++ ys)) : binop .add (.tup xs) (.tup ys) S = .ok (.tup (xs ++ ys)) S := by
  unfold LenOk at h
  rw [List.length_append] at h
  simp only [binop, opAdd]
  exact if_pos h
theorem q_neg (S : Store) (n : Nat) : opNeg (vn n) S = .ok (.int (-(n : Int))) S := rfl
/-- from a down to 1 -/
theorem rng3V_down (S : Store) {a : Nat} (h : a < 16777216) : rng3V (vn a) (vn 0) (.int (-((1 : Nat) : Int))) S = .ok ((List.range a).map fun i => vn (a - i)) S := by
  unfold rng3V vn rngIts3
  simp only
  have e0 : rngN (a : Int) ((0 : Nat) : Int) (-((1 : Nat) : Int)) = a := by
    unfold rngN PySem.Builtin.Range.rangeSize
    rw [if_neg (by decide)]
    by_cases h0 : 0 < a
    · rw [if_pos (by omega)]
      simp
    · have : a = 0 := by omega
      subst this
      rfl
  have e2 : PySem.Builtin.Range.rangeSize (a : Int) ((0 : Nat) : Int) (-((1 : Nat) : Int)) = a := by
    unfold PySem.Builtin.Range.rangeSize
    rw [if_neg (by decide)]
    by_cases h0 : 0 < a
    · rw [if_pos (by omega)]
      simp
    · have : a = 0 := by omega
      subst this
      rfl
  have hsm : PySem.Builtin.Range.small (a : Int) ((0 : Nat) : Int) (-((1 : Nat) : Int)) = true := by
    unfold PySem.Builtin.Range.small
    rw [e2]
    rw [if_neg (by decide)]
    have f : ∀ x : Int, -9000000000 ≤ x → x ≤ 9000000000 → PySem.Builtin.Range.rangeFitsLong x = true := fun x h1 h2 => by
      unfold PySem.Builtin.Range.rangeFitsLong
      simp
      omega
    rw [f _ (by omega) (by omega), f _ (by omega) (by omega), f _ (by omega) (by omega), f _ (by omega) (by omega)]
    simp
  have hn : a ≤ 16777216 := by omega
  rw [if_pos ⟨by omega, by omega, hsm, by rw [e0]; exact Nat.le_trans hn (by decide)⟩, e0]
  unfold numsUp
  refine congrArg (fun l => Out.ok l S) (List.map_congr_left fun i hi => ?_)
  have := List.mem_range.mp hi
  exact congrArg Val.int (by omega)
/-- the first common divisor from above -/
theorem gcd_first {m n : Nat} (hm : 0 < m) (hn : 0 < n) : ((List.range (min m n)).map fun i => min m n - i).find? (fun k => decide (m % k = 0) && decide (n % k = 0)) = some (Nat.gcd m n) := by
  have g0 : 0 < Nat.gcd m n := Nat.gcd_pos_of_pos_left _ hm
  have g1 : Nat.gcd m n ≤ min m n := by
    have := Nat.gcd_le_left n hm
    have := Nat.gcd_le_right m hn
    omega
  generalize hM : min m n = M at g1
  have key : ∀ j, j ≤ M → Nat.gcd m n ≤ j → ((List.range j).map fun i => j - i).find? (fun k => decide (m % k = 0) && decide (n % k = 0)) = some (Nat.gcd m n) := by
    intro j
    induction j with
    | zero => intro _ h; omega
    | succ j ih =>
      intro h1 h2
      rw [List.range_succ_eq_map, List.map_cons, List.find?_cons]
      simp only [Nat.sub_zero]
      by_cases e : Nat.gcd m n = j + 1
      · have d1 := Nat.gcd_dvd_left m n
        have d2 := Nat.gcd_dvd_right m n
        rw [e] at d1 d2
        have : (decide (m % (j + 1) = 0) && decide (n % (j + 1) = 0)) = true := by
          rw [Bool.and_eq_true, decide_eq_true_eq, decide_eq_true_eq]
          exact ⟨Nat.mod_eq_zero_of_dvd d1, Nat.mod_eq_zero_of_dvd d2⟩
        rw [this, e]
      · have : (decide (m % (j + 1) = 0) && decide (n % (j + 1) = 0)) = false := by
          rw [Bool.and_eq_false_iff, decide_eq_false_iff_not, decide_eq_false_iff_not]
          by_cases q : m % (j + 1) = 0
          · right
            intro q2
            have := Nat.le_of_dvd g0 (Nat.dvd_gcd (Nat.dvd_of_mod_eq_zero q) (Nat.dvd_of_mod_eq_zero q2))
            omega
          · exact .inl q
        have e5 : ((fun i => j + 1 - i) ∘ Nat.succ) = fun i => j - i := by
          funext i
          simp only [Function.comp]
          omega
        rw [this]
        simp only []
        rw [List.map_map, e5]
        exact ih (by omega) (by omega)
  exact key M (Nat.le_refl M) g1
theorem divs_len (m : Nat) : (divs m).length ≤ m := by
  unfold divs
  exact Nat.le_trans (List.length_filter_le _ _) (by simp)
theorem divs_dvd {m x : Nat} (h : x ∈ divs m) : x ∣ m := by
  unfold divs at h
  exact Nat.dvd_of_mod_eq_zero (by simpa using (List.mem_filter.mp h).2)
/-- those that divide no other -/
def greatN (l : List Nat) : List Nat := l.filter fun d => !(l.any fun o => !decide (o = d) && decide (o % d = 0))
theorem and_b (S : Store) (a b : Bool) : (if a = true then Out.ok (Val.bl b) S else Out.ok (Val.bl a) S) = .ok (.bl (a && b)) S := by cases a <;> rfl
theorem add12 (S : Store) (a b c : Val) : binop .add (.tup [a]) (.tup [b, c]) S = .ok (.tup [a, b, c]) S := add_tup S (xs := [a]) (ys := [b, c]) (by unfold LenOk; simp only [List.length_append, List.length_cons, List.length_nil]; decide)
theorem q_min2 (S : Store) (a b : Nat) : biop .min2 [vn a, vn b] S = .ok (vn (min a b)) S := by
  have e : biop .min2 [vn a, vn b] S = .ok (.int (if (b : Int) < (a : Int) then (b : Int) else (a : Int))) S := rfl
  rw [e]
  refine congrArg (fun i => Out.ok (Val.int i) S) ?_
  omega
theorem empty_any {α : Type} (p : α → Bool) (l : List α) : (l.filter p).isEmpty = !(l.any p) := by
  induction l with
  | nil => rfl
  | cons x l ih =>
    rw [List.filter_cons, List.any_cons]
    cases h : p x <;> simp_all
end DI
/-! DI28: numbers in two classes at once (plain). -/
namespace DI
theorem cop_nodup {a d s : Nat} (h : Nat.Coprime a d) : ((List.range d).map fun k => (s + a * k) % d).Nodup := by
  have key : ∀ i j, i < j → j < d → (s + a * i) % d ≠ (s + a * j) % d := fun i j hij hj e => by
    have h1 : d ∣ (s + a * j) - (s + a * i) := Nat.dvd_of_mod_eq_zero (Nat.sub_mod_eq_zero_of_mod_eq e.symm)
    have h2 : (s + a * j) - (s + a * i) = a * (j - i) := by
      rw [Nat.mul_sub]
      omega
    rw [h2] at h1
    have h3 := Nat.le_of_dvd (by omega) (Nat.Coprime.dvd_of_dvd_mul_left h.symm h1)
    omega
  rw [List.nodup_iff_pairwise_ne, List.pairwise_map]
  have : (List.range d).Pairwise fun i j => i < j ∧ j < d := by
    have h1 : (List.range d).Pairwise (· < ·) := List.pairwise_lt_range
    exact List.Pairwise.imp_of_mem (fun hi hj q => ⟨q, List.mem_range.mp hj⟩) h1
  exact this.imp fun {i j} q => key i j q.1 q.2
theorem cop_round {a d s c : Nat} (h : Nat.Coprime a d) (hc : c < d) : (List.range d).countP (fun k => (s + a * k) % d == c) = 1 := by
  have h1 : (List.range d).countP (fun k => (s + a * k) % d == c) = ((List.range d).map fun k => (s + a * k) % d).countP (fun x => x == c) := by rw [List.countP_map]; rfl
  have nd := cop_nodup (s := s) h
  have hp := nsort_perm ((List.range d).map fun k => (s + a * k) % d)
  have hs : nsort ((List.range d).map fun k => (s + a * k) % d) = List.range d := by
    have sub : ∀ x ∈ nsort ((List.range d).map fun k => (s + a * k) % d), x ∈ List.range d := fun x hx => by
      obtain ⟨k, _, rfl⟩ := List.mem_map.mp (hp.mem_iff.mp hx)
      exact List.mem_range.mpr (Nat.mod_lt _ (by omega))
    refine (asc_sublist (sort_asc _ nd) List.pairwise_lt_range sub).eq_of_length ?_
    rw [hp.length_eq]
    simp
  rw [h1, ← hp.countP_eq, hs, range_one hc]
theorem cop_rounds {a d s c : Nat} (h : Nat.Coprime a d) (hc : c < d) : ∀ t, (List.range (d * t)).countP (fun k => (s + a * k) % d == c) = t
  | 0 => by simp
  | t + 1 => by
    rw [Nat.mul_succ, List.range_add, List.countP_append, cop_rounds h hc t, List.countP_map]
    have : ((fun k => (s + a * k) % d == c) ∘ fun x => d * t + x) = fun x => (s + a * x) % d == c := by
      funext x
      have : s + a * (d * t + x) = s + a * x + d * (a * t) := by rw [Nat.mul_add, Nat.mul_left_comm a d t]; omega
      simp only [Function.comp, this, Nat.add_mul_mod_self_left]
    rw [this, cop_round h hc]
theorem two_row {m x : Nat} (hx : x < m) (p : Nat → Bool) : ∀ n, (List.range (m * n)).countP (fun k => k % m == x && p k) = (List.range n).countP fun j => p (x + m * j)
  | 0 => by simp
  | n + 1 => by
    rw [Nat.mul_succ, List.range_add, List.countP_append, two_row hx p n, List.range_succ, List.countP_append, List.countP_map]
    congr 1
    have h1 : ((fun k => k % m == x && p k) ∘ fun i => m * n + i) = fun i => (m * n + i) % m == x && p (m * n + i) := rfl
    rw [h1]
    have h2 : (List.range m).countP (fun i => (m * n + i) % m == x && p (m * n + i)) = (List.range m).countP (fun i => i == x && p (m * n + x)) := by
      refine List.countP_congr fun i hi => ?_
      have hi := List.mem_range.mp hi
      rw [Nat.mul_add_mod, Nat.mod_eq_of_lt hi]
      by_cases e : i = x
      · subst e; rfl
      · simp [e]
    rw [h2]
    have h3 := range_one hx
    cases hp : p (m * n + x) with
    | true =>
      have : x + m * n = m * n + x := Nat.add_comm ..
      simp only [Bool.and_true, List.countP_cons, List.countP_nil, this, hp, if_true]
      exact h3
    | false =>
      have : x + m * n = m * n + x := Nat.add_comm ..
      simp [List.countP_cons, this, hp]
/-- how many numbers below the product are in a class by each of two moduli -/
theorem two_count {m q x y : Nat} (hm : 0 < m) (hq : 0 < q) (hx : x < m) (hy : y < q) : (List.range (m * q)).countP (fun k => k % m == x && k % q == y) = if x % Nat.gcd m q = y % Nat.gcd m q then Nat.gcd m q else 0 := by
  rw [two_row hx (fun k => k % q == y) q]
  have g0 : 0 < Nat.gcd m q := Nat.gcd_pos_of_pos_left _ hm
  obtain ⟨a, ha⟩ := Nat.gcd_dvd_left m q
  obtain ⟨d, hd⟩ := Nat.gcd_dvd_right m q
  have hc : Nat.Coprime a d := by
    have h := Nat.coprime_div_gcd_div_gcd (m := m) (n := q) g0
    have e1 : m / Nat.gcd m q = a := Nat.div_eq_of_eq_mul_right g0 ha
    have e2 : q / Nat.gcd m q = d := Nat.div_eq_of_eq_mul_right g0 hd
    rwa [e1, e2] at h
  generalize Nat.gcd m q = g at g0 ha hd ⊢
  subst ha hd
  have hyd : y / g < d := Nat.div_lt_of_lt_mul hy
  have hyy := Nat.mod_add_div y g
  have hk : ∀ j, ((x + g * a * j) % (g * d) == y) = (decide (x % g = y % g) && ((x / g + a * j) % d == y / g)) := fun j => by
    have h1 : (x + g * a * j) % g = x % g := by rw [Nat.mul_assoc, Nat.add_mul_mod_self_left]
    have h2 : (x + g * a * j) / g = x / g + a * j := by rw [Nat.mul_assoc, Nat.add_mul_div_left _ _ g0]
    rw [Nat.mod_mul, h1, h2, Bool.eq_iff_iff, Bool.and_eq_true, beq_iff_eq, beq_iff_eq, decide_eq_true_eq]
    constructor
    · intro e
      have hxg : x % g < g := Nat.mod_lt _ g0
      have e1 : y % g = x % g := by rw [← e, Nat.add_mul_mod_self_left, Nat.mod_mod]
      refine ⟨e1.symm, ?_⟩
      rw [← e, Nat.add_mul_div_left _ _ g0, Nat.div_eq_of_lt hxg, Nat.zero_add]
    · rintro ⟨e1, e2⟩
      rw [e1, e2, hyy]
  simp only [hk]
  by_cases e : x % g = y % g
  · rw [if_pos e]
    simp only [e, decide_true, Bool.true_and]
    rw [Nat.mul_comm g d]
    exact cop_rounds hc hyd g
  · rw [if_neg e]
    simp [e]
/-- a list without doubles taken apart -/
theorem apart {α : Type} (f : α → Nat) (p : α → Bool) (l : List α) : ∀ {xs : List Nat}, xs.Nodup → l.countP (fun k => decide (f k ∈ xs) && p k) = (xs.map fun x => l.countP fun k => f k == x && p k).sum
  | [], _ => by simp
  | x :: xs, h => by
    obtain ⟨h1, h2⟩ := List.nodup_cons.mp h
    rw [List.map_cons, List.sum_cons, ← apart f p l h2]
    induction l with
    | nil => rfl
    | cons k l ih =>
      simp only [List.countP_cons, ih]
      by_cases e : f k = x
      · subst e
        simp [h1]
        omega
      · simp [e]
        omega
/-- how many of a list are in a class -/
def inN (g : Nat) (xs : List Nat) (c : Nat) : Nat := xs.countP fun x => x % g == c
theorem two_lots {m q : Nat} {xs ys : List Nat} (hm : 0 < m) (hq : 0 < q) (hx : xs.Nodup) (hy : ys.Nodup) (lx : ∀ x ∈ xs, x < m) (ly : ∀ y ∈ ys, y < q) :
    (List.range (m * q)).countP (fun k => decide (k % m ∈ xs) && decide (k % q ∈ ys)) = Nat.gcd m q * (ys.map fun y => inN (Nat.gcd m q) xs (y % Nat.gcd m q)).sum := by
  have h1 : ∀ x ∈ xs, (List.range (m * q)).countP (fun k => k % m == x && decide (k % q ∈ ys)) = (ys.map fun y => if x % Nat.gcd m q = y % Nat.gcd m q then Nat.gcd m q else 0).sum := fun x hxx => by
    have e : (List.range (m * q)).countP (fun k => k % m == x && decide (k % q ∈ ys)) = (List.range (m * q)).countP (fun k => decide (k % q ∈ ys) && k % m == x) := List.countP_congr fun k _ => by rw [Bool.and_comm]
    rw [e, apart (fun k => k % q) (fun k => k % m == x) _ hy]
    refine sum_congr fun y hyy => ?_
    rw [← two_count hm hq (lx x hxx) (ly y hyy)]
    exact List.countP_congr fun k _ => by rw [Bool.and_comm]
  rw [apart (fun k => k % m) (fun k => decide (k % q ∈ ys)) _ hx, sum_congr h1]
  generalize Nat.gcd m q = g
  clear h1 hx lx
  induction xs with
  | nil =>
    simp only [List.map_nil, List.sum_nil, inN, List.countP_nil]
    rw [sum_zero fun _ _ => rfl, Nat.mul_zero]
  | cons x xs ih =>
    rw [List.map_cons, List.sum_cons, ih]
    have h2 : ∀ ys : List Nat, (ys.map fun y => if x % g = y % g then g else 0).sum + g * (ys.map fun y => inN g xs (y % g)).sum = g * (ys.map fun y => inN g (x :: xs) (y % g)).sum := by
      intro ys
      induction ys with
      | nil => rfl
      | cons y ys ih =>
        simp only [List.map_cons, List.sum_cons, Nat.mul_add] at ih ⊢
        rw [← ih]
        have : g * inN g (x :: xs) (y % g) = (if x % g = y % g then g else 0) + g * inN g xs (y % g) := by
          unfold inN
          rw [List.countP_cons]
          by_cases e : x % g = y % g
          · simp [e, Nat.mul_add]
            omega
          · simp [e]
        omega
    exact h2 ys
end DI
/-! DI29: blindness by sets and by counts (plain). -/
namespace DI
theorem cnt_sum {g : Nat} (hg : 0 < g) (xs : List Nat) : (cntN g xs).sum = xs.length := by
  have e := cls_split (d := 1) (g := g) (c := 0) (by omega) hg (Nat.one_dvd g) (by omega) xs
  have e1 : xs.countP (fun x => x % 1 == 0) = xs.length := by
    rw [List.countP_eq_length]
    intro x _
    simp [Nat.mod_one]
  rw [e1, Nat.div_one] at e
  rw [e]
  unfold cntN
  refine sum_congr fun j _ => ?_
  rw [Nat.zero_add, Nat.mul_one]
theorem sum_le {f : Nat → Nat} {b : Nat} : ∀ {l : List Nat}, (∀ j ∈ l, f j ≤ b) → (l.map f).sum ≤ l.length * b
  | [], _ => by simp
  | x :: l, h => by
    rw [List.map_cons, List.sum_cons, List.length_cons, Nat.succ_mul]
    have h1 := h x (by simp)
    have h2 := sum_le (l := l) fun j hj => h j (by simp [hj])
    omega
theorem sum_lt {f : Nat → Nat} {b : Nat} : ∀ {l : List Nat}, (∀ j ∈ l, f j ≤ b) → (∃ j ∈ l, f j < b) → (l.map f).sum < l.length * b
  | [], _, ⟨j, hj, _⟩ => by simp at hj
  | x :: l, h, ⟨j, hj, hb⟩ => by
    rw [List.map_cons, List.sum_cons, List.length_cons, Nat.succ_mul]
    have h1 := h x (by simp)
    rcases List.mem_cons.mp hj with rfl | hj
    · have h2 := sum_le (l := l) fun j hj => h j (by simp [hj])
      omega
    · have h2 := sum_lt (l := l) (fun j hj => h j (by simp [hj])) ⟨j, hj, hb⟩
      omega
theorem sum_mulr (f : Nat → Nat) (g : Nat) : ∀ l : List Nat, (l.map fun j => f j * g).sum = (l.map f).sum * g
  | [] => by simp
  | x :: l => by simp only [List.map_cons, List.sum_cons, sum_mulr f g l, Nat.add_mul]
/-- more than a class's part -/
def overB (g : Nat) (xs : List Nat) (c : Nat) : Bool := decide (xs.length < inN g xs c * g)
theorem even_over {g : Nat} (hg : 0 < g) (xs : List Nat) : ((List.range g).filter (overB g xs)).isEmpty = evenN g xs := by
  rw [Bool.eq_iff_iff, even_iff hg, List.isEmpty_iff, List.filter_eq_nil_iff]
  unfold overB
  simp only [List.mem_range, decide_eq_true_eq, Nat.not_lt]
  have hs := cnt_sum hg xs
  constructor
  · intro h
    have key : ∀ c, c < g → inN g xs c * g = xs.length := fun c hc => by
      by_cases e : inN g xs c * g < xs.length
      · exfalso
        have h2 := sum_lt (f := fun c => inN g xs c * g) (b := xs.length) (l := List.range g) (fun j hj => h j (List.mem_range.mp hj)) ⟨c, List.mem_range.mpr hc, e⟩
        rw [sum_mulr, List.length_range] at h2
        have h3 : ((List.range g).map (inN g xs)).sum = xs.length := hs
        rw [h3, Nat.mul_comm] at h2
        omega
      · have := h c hc
        omega
    refine ⟨inN g xs 0, fun c hc => ?_⟩
    have h1 := key c hc
    have h2 := key 0 hg
    exact Nat.eq_of_mul_eq_mul_right hg (h1.trans h2.symm)
  · rintro ⟨v, h⟩ c hc
    have h1 := even_total hg h
    have h2 : inN g xs c = v := h c hc
    rw [h2, h1, Nat.mul_comm]
    exact Nat.le_refl _
/-- the numbers in both of two lots -/
def bothN (m : Nat) (xs : List Nat) (q : Nat) (ys : List Nat) : Nat := ((List.range (m * q)).filter fun k => decide (k % m ∈ xs) && decide (k % q ∈ ys)).length
theorem both_eq {M m q : Nat} {xs ys : List Nat} (lo : LotOk M m xs) (hq : 0 < q) (hy : ys.Nodup) (ly : ∀ y ∈ ys, y < q) : bothN m xs q ys = Nat.gcd m q * (ys.map fun y => inN (Nat.gcd m q) xs (y % Nat.gcd m q)).sum := by
  unfold bothN
  rw [← List.countP_eq_length_filter]
  exact two_lots lo.m0 hq (asc_nodup lo.asc) hy lo.lt ly
theorem even_both {M m q : Nat} {xs ys : List Nat} (lo : LotOk M m xs) (hq : 0 < q) (hy : ys.Nodup) (ly : ∀ y ∈ ys, y < q) (e : evenN (Nat.gcd m q) xs = true) : bothN m xs q ys = xs.length * ys.length := by
  have g0 : 0 < Nat.gcd m q := Nat.gcd_pos_of_pos_left _ lo.m0
  rw [both_eq lo hq hy ly]
  generalize Nat.gcd m q = g at g0 e
  obtain ⟨v, hv⟩ := (even_iff g0 xs).mp e
  have hv2 : ∀ y ∈ ys, inN g xs (y % g) = v := fun y _ => hv _ (Nat.mod_lt _ g0)
  rw [sum_congr (g := fun _ => v) hv2, sum_const, even_total g0 hv, Nat.mul_assoc, Nat.mul_comm v]
theorem both_even {M m q : Nat} {xs : List Nat} (lo : LotOk M m xs) (hq : 0 < q) (h : ∀ k, k < q → bothN m xs q [k] = xs.length) : evenN (Nat.gcd m q) xs = true := by
  have g0 : 0 < Nat.gcd m q := Nat.gcd_pos_of_pos_left _ lo.m0
  have g1 : Nat.gcd m q ≤ q := Nat.gcd_le_right m hq
  have h2 : ∀ c, c < Nat.gcd m q → Nat.gcd m q * inN (Nat.gcd m q) xs c = xs.length := fun c hc => by
    have e := h c (by omega)
    rw [both_eq lo hq (by simp) (by intro y hy; rw [List.mem_singleton] at hy; omega)] at e
    simp only [List.map_cons, List.map_nil, List.sum_cons, List.sum_nil, Nat.add_zero, Nat.mod_eq_of_lt hc] at e
    exact e
  generalize Nat.gcd m q = g at g0 h2 ⊢
  refine (even_iff g0 xs).mpr ⟨inN g xs 0, fun c hc => ?_⟩
  exact Nat.eq_of_mul_eq_mul_left g0 ((h2 c hc).trans (h2 0 g0).symm)
theorem sets_even {M m q : Nat} {xs : List Nat} (lo : LotOk M m xs) (hq : 0 < q) (L : List (List Nat)) (hL : ∀ ys ∈ L, ys.Nodup ∧ ∀ y ∈ ys, y < q) (h1 : ∀ k, k < q → [k] ∈ L) : (L.filter fun ys => !decide (bothN m xs q ys = xs.length * ys.length)).isEmpty = evenN (Nat.gcd m q) xs := by
  rw [Bool.eq_iff_iff, List.isEmpty_iff, List.filter_eq_nil_iff]
  constructor
  · intro h
    refine both_even lo hq fun k hk => ?_
    have := h _ (h1 k hk)
    simpa using this
  · intro e ys hys
    obtain ⟨a, b⟩ := hL ys hys
    simp [even_both lo hq a b e]
/-- the sets of buckets, as they grow -/
def growN : Nat → List (List Nat)
  | 0 => [[]]
  | n + 1 => growN n ++ (growN n).map fun ys => ys ++ [n]
theorem grow_ok : ∀ n, ∀ ys ∈ growN n, ys.Nodup ∧ ∀ y ∈ ys, y < n
  | 0, ys, h => by
    simp only [growN, List.mem_singleton] at h
    subst h
    simp
  | n + 1, ys, h => by
    simp only [growN, List.mem_append, List.mem_map] at h
    rcases h with h | ⟨zs, h, rfl⟩
    · obtain ⟨a, b⟩ := grow_ok n ys h
      exact ⟨a, fun y hy => by have := b y hy; omega⟩
    · obtain ⟨a, b⟩ := grow_ok n zs h
      refine ⟨?_, fun y hy => ?_⟩
      · rw [List.nodup_append]
        refine ⟨a, by simp, fun x hx z hz => ?_⟩
        rw [List.mem_singleton] at hz
        have := b x hx
        omega
      · rcases List.mem_append.mp hy with hy | hy
        · have := b y hy
          omega
        · rw [List.mem_singleton] at hy
          omega
theorem grow_len : ∀ n, (growN n).length = 2 ^ n
  | 0 => rfl
  | n + 1 => by
    simp only [growN, List.length_append, List.length_map, grow_len n, Nat.pow_succ]
    omega
end DI
/-! DI30: some rules: sums, first of a rising list, sets of buckets. -/
namespace DI
theorem sum_cast : ∀ l : List Nat, (l.map fun n : Nat => (n : Int)).sum = ((l.sum : Nat) : Int)
  | [] => rfl
  | x :: l => by simp only [List.map_cons, List.sum_cons, sum_cast l, Int.natCast_add]
theorem sum_sq (S : Store) (b : Bool) (l : List Nat) : biop .sum [sq b (l.map vn)] S = .ok (vn l.sum) S := by
  unfold biop
  simp only [items_sq]
  rw [vn_cast, intsOf_ints]
  simp only [sum_cast]
  rfl
/-- the first, or None -/
def firstV : List Nat → Val
  | [] => .non
  | x :: _ => vn x
theorem minD_asc (S : Store) {l : List Nat} (h : l.Pairwise (· < ·)) : minDV (.lst (l.map vn)) S = .ok (firstV l) S := by
  have e := minD_sq S true l
  rw [sq_t] at e
  rw [e]
  cases l with
  | nil => rfl
  | cons x r =>
    rw [if_neg (by simp)]
    have h1 := minN_mem (l := x :: r) (by simp)
    have h2 := minN_le (l := x :: r) (x := x) (by simp)
    have h3 : minN (x :: r) = x := by
      rcases List.mem_cons.mp h1 with q | q
      · exact q
      · have := (List.pairwise_cons.mp h).1 _ q
        omega
    rw [h3]
    rfl
theorem grow_sz : ∀ n, ∀ ys ∈ growN n, ys.length ≤ n
  | 0, ys, h => by
    simp only [growN, List.mem_singleton] at h
    subst h
    simp
  | n + 1, ys, h => by
    simp only [growN, List.mem_append, List.mem_map] at h
    rcases h with h | ⟨zs, h, rfl⟩
    · have := grow_sz n ys h
      omega
    · have := grow_sz n zs h
      simp only [List.length_append, List.length_cons, List.length_nil]
      omega
theorem add_snoc (S : Store) (ys : List Nat) (k : Nat) (h : ys.length + 1 ≤ 16777216) : binop .add (.tup (ys.map vn)) (.tup [vn k]) S = .ok (.tup ((ys ++ [k]).map vn)) S := by
  rw [add_tup S (xs := ys.map vn) (ys := [vn k]) (by unfold LenOk; simp only [List.length_append, List.length_map, List.length_cons, List.length_nil]; exact Nat.le_trans h (by decide)), List.map_append]
  rfl
end DI
/-! DI31: evenness by the number of unlike counts. -/
namespace DI
theorem one_even {g : Nat} (hg : 0 < g) (xs : List Nat) : decide ((nusort (cntN g xs)).length = 1) = evenN g xs := by
  unfold evenN
  have h1 := minN_mem (cntN_ne hg xs)
  have h2 := maxN_mem (cntN_ne hg xs)
  have ha := nusort_asc (cntN g xs)
  have hm1 := nusort_mem.mpr h1
  have hm2 := nusort_mem.mpr h2
  have hle : ∀ v ∈ nusort (cntN g xs), minN (cntN g xs) ≤ v ∧ v ≤ maxN (cntN g xs) := fun v hv => ⟨minN_le (nusort_mem.mp hv), le_maxN (nusort_mem.mp hv)⟩
  generalize minN (cntN g xs) = a at *
  generalize maxN (cntN g xs) = b at *
  generalize nusort (cntN g xs) = l at *
  rw [Bool.eq_iff_iff, decide_eq_true_eq, decide_eq_true_eq]
  constructor
  · intro e
    obtain ⟨c, rfl⟩ := List.length_eq_one_iff.mp e
    rw [List.mem_singleton] at hm1 hm2
    omega
  · intro e
    subst e
    match l, ha, hm1, hle with
    | [x], _, _, _ => rfl
    | x :: y :: r, ha, _, hle =>
      have := (List.pairwise_cons.mp ha).1 y (by simp)
      have := hle x (by simp)
      have := hle y (by simp)
      omega
end DI
/-! DI32: fractions in lowest terms. -/
namespace DI
theorem low_eq {a b c d : Nat} (hb : 0 < b) (hd : 0 < d) : (a / Nat.gcd a b = c / Nat.gcd c d ∧ b / Nat.gcd a b = d / Nat.gcd c d) ↔ a * d = c * b := by
  have g0 : 0 < Nat.gcd a b := Nat.gcd_pos_of_pos_right _ hb
  have h0 : 0 < Nat.gcd c d := Nat.gcd_pos_of_pos_right _ hd
  have cop1 := Nat.coprime_div_gcd_div_gcd (m := a) (n := b) g0
  have cop2 := Nat.coprime_div_gcd_div_gcd (m := c) (n := d) h0
  have ea := Nat.div_mul_cancel (Nat.gcd_dvd_left a b)
  have eb := Nat.div_mul_cancel (Nat.gcd_dvd_right a b)
  have ec := Nat.div_mul_cancel (Nat.gcd_dvd_left c d)
  have ed := Nat.div_mul_cancel (Nat.gcd_dvd_right c d)
  have b0 : 0 < b / Nat.gcd a b := Nat.div_pos (Nat.gcd_le_right a hb) g0
  have d0 : 0 < d / Nat.gcd c d := Nat.div_pos (Nat.gcd_le_right c hd) h0
  generalize a / Nat.gcd a b = A at *
  generalize b / Nat.gcd a b = B at *
  generalize c / Nat.gcd c d = C at *
  generalize d / Nat.gcd c d = D at *
  generalize Nat.gcd a b = g at *
  generalize Nat.gcd c d = h at *
  subst ea eb ec ed
  constructor
  · rintro ⟨rfl, rfl⟩
    simp only [Nat.mul_assoc, Nat.mul_comm, Nat.mul_left_comm]
  · intro e
    have e2 : A * D = C * B := by
      have h1 : (A * D) * (g * h) = (C * B) * (g * h) := by
        calc (A * D) * (g * h) = A * g * (D * h) := by simp only [Nat.mul_assoc, Nat.mul_comm, Nat.mul_left_comm]
          _ = C * h * (B * g) := e
          _ = (C * B) * (g * h) := by simp only [Nat.mul_assoc, Nat.mul_comm, Nat.mul_left_comm]
      exact Nat.eq_of_mul_eq_mul_right (Nat.mul_pos g0 h0) h1
    have h1 : B ∣ D := by
      have : B ∣ A * D := ⟨C, by rw [e2, Nat.mul_comm]⟩
      exact Nat.Coprime.dvd_of_dvd_mul_left cop1.symm this
    have h2 : D ∣ B := by
      have : D ∣ C * B := ⟨A, by rw [← e2, Nat.mul_comm]⟩
      exact Nat.Coprime.dvd_of_dvd_mul_left cop2.symm this
    have h3 := Nat.dvd_antisymm h1 h2
    subst h3
    exact ⟨Nat.eq_of_mul_eq_mul_right b0 e2, rfl⟩
end DI
/-! DI33: blindness by shares below the least common multiple. -/
namespace DI
theorem count_period {p : Nat → Bool} {W : Nat} (h : ∀ n, p (W + n) = p n) : ∀ t, (List.range (W * t)).countP p = t * (List.range W).countP p
  | 0 => by simp
  | t + 1 => by
    rw [Nat.mul_succ, List.range_add, List.countP_append, count_period h t, List.countP_map, Nat.succ_mul]
    have : ∀ t n, p (W * t + n) = p n := fun t n => by
      induction t with
      | zero => simp
      | succ t ih =>
        have e : W * (t + 1) + n = W + (W * t + n) := by rw [Nat.mul_succ]; omega
        rw [e, h, ih]
    have e : (p ∘ fun x => W * t + x) = p := by
      funext n
      exact this t n
    rw [e]
/-- the numbers in both lots below the least common multiple -/
def bothL (m : Nat) (xs : List Nat) (q : Nat) (ys : List Nat) : Nat := ((List.range (Nat.lcm m q)).filter fun k => decide (k % m ∈ xs) && decide (k % q ∈ ys)).length
theorem bothL_mul (m : Nat) (xs : List Nat) (q : Nat) (ys : List Nat) : Nat.gcd m q * bothL m xs q ys = bothN m xs q ys := by
  unfold bothL bothN
  rw [← List.countP_eq_length_filter, ← List.countP_eq_length_filter]
  have e : m * q = Nat.lcm m q * Nat.gcd m q := by rw [Nat.mul_comm (Nat.lcm m q), Nat.gcd_mul_lcm]
  have hm := Nat.dvd_lcm_left m q
  have hq := Nat.dvd_lcm_right m q
  rw [e]
  generalize Nat.lcm m q = W at *
  rw [count_period fun n => ?_]
  obtain ⟨s, hs⟩ := hm
  obtain ⟨t, ht⟩ := hq
  have e1 : (W + n) % m = n % m := by rw [hs, Nat.mul_add_mod]
  have e2 : (W + n) % q = n % q := by rw [ht, Nat.mul_add_mod]
  simp only [e1, e2]
/-- the share of both is the product of the shares -/
theorem fair_iff {m q l c : Nat} (hm : 0 < m) (hq : 0 < q) : c * (m * q) = l * Nat.lcm m q ↔ Nat.gcd m q * c = l := by
  have e : m * q = Nat.gcd m q * Nat.lcm m q := (Nat.gcd_mul_lcm m q).symm
  have w0 : 0 < Nat.lcm m q := Nat.lcm_pos hm hq
  rw [e]
  generalize Nat.lcm m q = W at *
  generalize Nat.gcd m q = g at *
  rw [← Nat.mul_assoc, Nat.mul_comm c g]
  exact ⟨fun h => Nat.eq_of_mul_eq_mul_right w0 h, fun h => by rw [h]⟩
end DI
/-! DI34: comprehensions of two clauses by simp; drawn rows; pairs of numbers; lots as pairs. -/
namespace DI
def keepL (k : Bool) (o : Out (List Val)) (S : Store) : Out (List Val) := if k = true then o else .ok [] S
theorem evn_lc2 (P : Pg) (C : Cf) (r : Sl) (S : Store) (own t it c own2 t2 it2 c2 e) : evn P C (.lc2 own t it c own2 t2 it2 c2 e) r S =
    bd (evi P C it r S) (fun xs S1 => bd (compLL (fun x S2 => tgV (setT t x (wipeS r own) S2) (fun r2 => bd (evc P C c r2 S2) (fun k S3 => keepL k (bd (evi P C it2 r2 S3) (fun ys S4 => compL (fun y S5 => tgV (setT t2 y (wipeS r2 own2) S5) (fun r3 => bd (evc P C c2 r3 S5) (fun k2 S6 => keepC k2 (bd (ev P C e r3 S6) (fun z S7 => .ok (some z) S7) .mk) S6) .mk) .mk) ys S4) .mk) S3) .mk) .mk) xs S1).nox (fun ys S8 => lenV ys S8) .mk) .mk := rfl
theorem keepL_t (o S) : keepL true o S = o := rfl
theorem keepL_b (b : Bool) (o S) : keepL b o S = if b = true then o else .ok [] S := rfl
def cmpLM {α : Type} : (l : List α) → (f : (x : α) → x ∈ l → Store → Out (List Val)) → Store → Out (List Val)
  | [], _, S => .ok [] S
  | x :: xs, f, S => (f x (List.mem_cons_self ..) S).bind fun zs S1 => (cmpLM xs (fun y h => f y (List.mem_cons_of_mem _ h)) S1).bind fun ys S2 => .ok (zs ++ ys) S2
theorem compLL_G {α : Type} (f : Val → Store → Out (List Val)) (h : α → Val) : ∀ (l : List α) (S : Store), compLL f (l.map h) S = cmpLM l (fun x _ S => f (h x) S) S
  | [], S => rfl
  | x :: xs, S => by
    rw [List.map_cons, compLL, cmpLM]
    refine congrArg _ (funext fun o => funext fun S1 => ?_)
    rw [compLL_G f h xs S1]
    all_goals rfl
def cmpLR (n : Nat) (f : (x : Nat) → x < n → Store → Out (List Val)) (S : Store) : Out (List Val) := cmpLM (List.range n) (fun x h => f x (List.mem_range.mp h)) S
theorem cmpLM_range (n : Nat) (f : (x : Nat) → x ∈ List.range n → Store → Out (List Val)) (S : Store) : cmpLM (List.range n) f S = cmpLR n (fun x h => f x (List.mem_range.mpr h)) S := rfl
theorem cmpLM_all {α : Type} (g : α → List Val) : ∀ (l : List α) (S : Store), cmpLM l (fun x _ S => .ok (g x) S) S = .ok (l.flatMap g) S
  | [], S => rfl
  | x :: xs, S => by rw [cmpLM, Out.bind_ok, cmpLM_all g xs, Out.bind_ok, List.flatMap_cons]
theorem cmpLR_all (g : Nat → List Val) (n : Nat) (S : Store) : cmpLR n (fun x _ S => .ok (g x) S) S = .ok ((List.range n).flatMap g) S := cmpLM_all g _ S
/-- drawn items, each kept, as things -/
theorem Dw.mapR {α : Type} {S T : Store} {h : α → Val} {c : Nat} {top n : Nat} {q : α → Prop} {f : (i : Nat) → i < n → Store → Out (Option Val)} {β : Box} (ht : β.lim + c * n ≤ top) (hf : ∀ i (hi : i < n) β, β.lim + c ≤ top → Dw S T β c (f i hi (S ++ boxV β :: T)) fun o => ∃ a, o = some (h a) ∧ q a) :
    Dw S T β (c * n) (cmpR n f (S ++ boxV β :: T)) (fun ys => ∃ L : List α, L.length = n ∧ ys = L.map h ∧ ∀ a ∈ L, q a) := by
  have key : ∀ (l : List Nat) (f : (i : Nat) → i ∈ l → Store → Out (Option Val)) (β : Box), β.lim + c * l.length ≤ top → (∀ i (hi : i ∈ l) β, β.lim + c ≤ top → Dw S T β c (f i hi (S ++ boxV β :: T)) fun o => ∃ a, o = some (h a) ∧ q a) →
      Dw S T β (c * l.length) (cmpM l f (S ++ boxV β :: T)) (fun ys => ∃ L : List α, L.length = l.length ∧ ys = L.map h ∧ ∀ a ∈ L, q a) := by
    intro l
    induction l with
    | nil => exact fun f β _ _ => ⟨[], β, rfl, by simp, [], rfl, rfl, by simp⟩
    | cons x l ih =>
      intro f β ht hf
      have e : c * (x :: l).length = c + c * l.length := by rw [List.length_cons, Nat.mul_succ]; omega
      rw [e] at ht ⊢
      obtain ⟨o, β1, e1, l1, a, rfl, ha⟩ := hf x (by simp) β (by omega)
      obtain ⟨ys, β2, e2, l2, L, hL, rfl, hq⟩ := ih (fun y h => f y (List.mem_cons_of_mem _ h)) β1 (by omega) fun i hi => hf i _
      simp only [cmpM, e1, Out.bind_ok, e2]
      exact ⟨_, β2, rfl, by omega, a :: L, by simp [hL], rfl, fun b hb => by
        rcases List.mem_cons.mp hb with rfl | hb
        · exact ha
        · exact hq b hb⟩
  have := key (List.range n) (fun x h => f x (List.mem_range.mp h)) β (by simpa using ht) fun i hi => hf i _
  rw [List.length_range] at this
  exact this
/-- pairs of numbers -/
abbrev pv (p : Nat × Nat) : Val := .tup [vn p.1, vn p.2]
theorem eqv_pv (p q : Nat × Nat) : Val.eqv (pv p) (pv q) = decide (p = q) := by
  obtain ⟨a, b⟩ := p
  obtain ⟨c, d⟩ := q
  simp only [pv, Val.eqv, Val.eqvs, vn, beq_nat, Bool.and_true, Prod.mk.injEq, Bool.decide_and]
theorem mem_pv (S : Store) (p : Nat × Nat) (l : List (Nat × Nat)) : cmpop .mem (pv p) (.lst (l.map pv)) S = .ok (.bl (decide (p ∈ l))) S := by
  have h1 : Val.dats (l.map pv) = true := by rw [dats_map]; simp [Val.dat, Val.dats, vn]
  have : memOf S (pv p) (.lst (l.map pv)) = some (decide (p ∈ l)) := by
    simp only [memOf, items_lst, h1, top, pv, Val.dat, Val.dats, vn, Val.dep, Val.deps]
    simp only [Bool.and_true, Bool.true_and, Nat.max_self, Nat.zero_add, decide_true, if_true, Nat.reduceLeDiff]
    congr 1
    rw [Bool.eq_iff_iff, List.any_eq_true, decide_eq_true_eq]
    constructor
    · rintro ⟨y, hy, e⟩
      obtain ⟨z, hz, rfl⟩ := List.mem_map.mp hy
      have e2 := (eqv_pv z p).symm.trans e
      rw [decide_eq_true_eq] at e2
      rwa [← e2]
    · intro h
      exact ⟨pv p, List.mem_map.mpr ⟨p, h, rfl⟩, (eqv_pv p p).trans (by simp)⟩
  simp [cmpop, this, ofB]
theorem nmem_pv (S : Store) (p : Nat × Nat) (l : List (Nat × Nat)) : cmpop .nmem (pv p) (.lst (l.map pv)) S = .ok (.bl (!decide (p ∈ l))) S := nmem_of (mem_pv S p l)
/-- lots as pairs, as tuples or lists -/
abbrev lotS (b c : Bool) (p : Nat × List Nat) : Val := sq b [vn p.1, sq c (p.2.map vn)]
theorem toL_lots (L : List (Nat × List Nat)) : toL (.tup (L.map (lotS false false))) = .lst (L.map (lotS true true)) := by
  simp only [toL, toLs_map, List.map_map]
  congr 1
  refine List.map_congr_left fun p _ => ?_
  simp only [Function.comp, lotS, sq_f, sq_t]
  exact toL_lot p.1 p.2
/-- how two lots do not get along -/
def alongN (p q : Nat × List Nat) : Bool := evenN (Nat.gcd p.1 q.1) p.2 && evenN (Nat.gcd q.1 p.1) q.2
theorem alongN_comm (p q : Nat × List Nat) : alongN p q = alongN q p := by
  unfold alongN
  rw [Bool.and_comm]
abbrev atN (L : List (Nat × List Nat)) (i : Nat) : Nat × List Nat := L.getD i (1, [])
def clashN (L : List (Nat × List Nat)) : List (Nat × Nat) := (List.range L.length).flatMap fun far => ((List.range far).filter fun near => !alongN (atN L near) (atN L far)).map fun near => (near, far)
theorem atN_mem {L : List (Nat × List Nat)} {i : Nat} (h : i < L.length) : atN L i ∈ L := by
  rw [atN, List.getD_eq_getElem?_getD, List.getElem?_eq_getElem h]
  exact List.getElem_mem h
theorem mem_clash {L : List (Nat × List Nat)} {a b : Nat} : (a, b) ∈ clashN L ↔ b < L.length ∧ a < b ∧ alongN (atN L a) (atN L b) = false := by
  unfold clashN
  simp only [List.mem_flatMap, List.mem_range, List.mem_map, List.mem_filter, Prod.mk.injEq, Bool.not_eq_true']
  constructor
  · rintro ⟨far, h1, near, ⟨h2, h3⟩, rfl, rfl⟩
    exact ⟨h1, h2, h3⟩
  · rintro ⟨h1, h2, h3⟩
    exact ⟨b, h1, a, ⟨h2, h3⟩, rfl, rfl⟩
end DI
namespace DI
theorem eq_pv (S : Store) (a b c d : Nat) : cmpop .eq (.tup [vn a, vn b]) (.tup [vn c, vn d]) S = .ok (.bl (decide (a = c ∧ b = d))) S := by
  rw [eq_data S (by simp [Val.dat, Val.dats, vn]) (by simp [Val.dat, Val.dats, vn]) (by simp [Val.dep, Val.deps, vn]) (by simp [Val.dep, Val.deps, vn])]
  congr 2
  simp only [Val.eqv, Val.eqvs, vn, beq_nat, Bool.and_true]
  by_cases h : a = c <;> by_cases h2 : b = d <;> simp [h, h2]
theorem ne_pv (S : Store) (a b c d : Nat) : cmpop .ne (.tup [vn a, vn b]) (.tup [vn c, vn d]) S = .ok (.bl (!decide (a = c ∧ b = d))) S := ne_of_eq (eq_pv S a b c d)
theorem frzV_last {S : Store} {xs : List Val} : frzV (.loc S.length) (S ++ [.lst xs]) = .ok (.lst xs) (S ++ [.dead]) := by
  unfold frzV
  simp only [get_last, set_last]
theorem fin_loc {S : Store} {xs : List Val} : fin S (.loc S.length) (S ++ [.lst xs]) = .ok (.loc S.length) (S ++ [.lst xs]) := by
  simp [fin, Val.bel]
/-- a loop whose turns draw and leave dead places -/
theorem Dw.forLD {α : Type} {S : Store} {body : Val → Sl → Store → Out (Fl × Sl)} {h : α → Val} {c top : Nat} {I : Sl → Prop} (step : ∀ x r β T, β.lim + c ≤ top → I r → ∃ r1 β1 U, body (h x) r (S ++ boxV β :: T) = .ok (.nx, r1) (S ++ boxV β1 :: (T ++ U)) ∧ β1.lim ≤ β.lim + c ∧ I r1) :
    ∀ (l : List α) (r : Sl) (β : Box) (T : Store), β.lim + c * l.length ≤ top → I r → ∃ r1 β1 U, DI.forL body (l.map h) r (S ++ boxV β :: T) = .ok (.nx, r1) (S ++ boxV β1 :: (T ++ U)) ∧ β1.lim ≤ β.lim + c * l.length ∧ I r1
  | [], r, β, T, _, i => ⟨r, β, [], by rw [List.append_nil]; rfl, by simp, i⟩
  | x :: l, r, β, T, ht, i => by
    have e : c * (x :: l).length = c + c * l.length := by rw [List.length_cons, Nat.mul_succ]; omega
    rw [e] at ht ⊢
    obtain ⟨r1, β1, U1, e1, l1, i1⟩ := step x r β T (by omega) i
    obtain ⟨r2, β2, U2, e2, l2, i2⟩ := Dw.forLD step l r1 β1 (T ++ U1) (by omega) i1
    refine ⟨r2, β2, U1 ++ U2, ?_, by omega, i2⟩
    rw [List.map_cons, DI.forL, e1, Out.bind_ok, ← List.append_assoc]
    exact e2
end DI
/-! DI35: sums of so many of some numbers; fractions as values. -/
namespace DI
/-! the greatest and the least sum of so many -/
theorem take_desc {d k : Nat} : ∀ {D : List Nat}, (∀ x ∈ D, x ≤ d) → (D.take k).sum ≤ ((d :: D).take k).sum := by
  induction k with
  | zero => intro D _; simp
  | succ k ih =>
    intro D h
    cases D with
    | nil => simp
    | cons x D =>
      have h1 := h x (by simp)
      have h2 : (D.take k).sum ≤ ((x :: D).take k).sum ∨ True := .inr trivial
      simp only [List.take_succ_cons, List.sum_cons]
      -- x + (D.take k).sum ≤ d + ((x :: D).take k).sum
      have h3 : (D.take k).sum ≤ ((d :: D).take k).sum := ih fun y hy => h y (by simp [hy])
      cases k with
      | zero => simp; omega
      | succ k =>
        simp only [List.take_succ_cons, List.sum_cons] at h3 ⊢
        have h4 : (D.take (k+1)).sum ≤ d + (D.take k).sum := h3
        omega
theorem take_asc {d k : Nat} : ∀ {D : List Nat}, (∀ x ∈ D, d ≤ x) → k ≤ D.length → ((d :: D).take k).sum ≤ (D.take k).sum := by
  induction k with
  | zero => intro D _ _; simp
  | succ k ih =>
    intro D h hk
    cases D with
    | nil => simp at hk
    | cons x D =>
      have h1 := h x (by simp)
      have hk2 : k ≤ D.length := by simpa using hk
      have h3 : ((d :: D).take k).sum ≤ (D.take k).sum := ih (fun y hy => h y (by simp [hy])) hk2
      simp only [List.take_succ_cons, List.sum_cons]
      cases k with
      | zero => simp; omega
      | succ k =>
        simp only [List.take_succ_cons, List.sum_cons] at h3 ⊢
        omega
theorem sub_desc : ∀ {u D : List Nat}, u.Sublist D → D.Pairwise (fun a b => b ≤ a) → u.sum ≤ (D.take u.length).sum := by
  intro u D h
  induction h with
  | slnil => simp
  | @cons u D d h ih =>
    intro hp
    obtain ⟨h1, h2⟩ := List.pairwise_cons.mp hp
    exact Nat.le_trans (ih h2) (take_desc h1)
  | @cons_cons u D d h ih =>
    intro hp
    obtain ⟨h1, h2⟩ := List.pairwise_cons.mp hp
    have := ih h2
    simp only [List.length_cons, List.take_succ_cons, List.sum_cons]
    omega
theorem sub_asc : ∀ {u D : List Nat}, u.Sublist D → D.Pairwise (fun a b => a ≤ b) → (D.take u.length).sum ≤ u.sum := by
  intro u D h
  induction h with
  | slnil => simp
  | @cons u D d h ih =>
    intro hp
    obtain ⟨h1, h2⟩ := List.pairwise_cons.mp hp
    exact Nat.le_trans (take_asc h1 h.length_le) (ih h2)
  | @cons_cons u D d h ih =>
    intro hp
    obtain ⟨h1, h2⟩ := List.pairwise_cons.mp hp
    have := ih h2
    simp only [List.length_cons, List.take_succ_cons, List.sum_cons]
    omega
theorem top_le {w : Nat → Nat} {q : Nat} {ys D : List Nat} (h : ys.Sublist (List.range q)) (hp : D.Perm ((List.range q).map w)) (hs : D.Pairwise (fun a b => b ≤ a)) : (ys.map w).sum ≤ (D.take ys.length).sum := by
  obtain ⟨u, h1, h2⟩ := List.exists_perm_sublist (h.map w) hp.symm
  have := sub_desc h2 hs
  rw [h1.sum_nat, h1.length_eq, List.length_map] at this
  exact this
theorem low_le {w : Nat → Nat} {q : Nat} {ys D : List Nat} (h : ys.Sublist (List.range q)) (hp : D.Perm ((List.range q).map w)) (hs : D.Pairwise (fun a b => a ≤ b)) : (D.take ys.length).sum ≤ (ys.map w).sum := by
  obtain ⟨u, h1, h2⟩ := List.exists_perm_sublist (h.map w) hp.symm
  have := sub_asc h2 hs
  rw [h1.sum_nat, h1.length_eq, List.length_map] at this
  exact this
theorem top_met {w : Nat → Nat} {q k : Nat} {D : List Nat} (hp : D.Perm ((List.range q).map w)) (hk : k ≤ q) : ∃ ys : List Nat, ys.Sublist (List.range q) ∧ ys.length = k ∧ (ys.map w).sum = (D.take k).sum := by
  obtain ⟨u, h1, h2⟩ := List.exists_perm_sublist (List.take_sublist k D) hp
  obtain ⟨ys, h3, rfl⟩ := List.sublist_map_iff.mp h2
  refine ⟨ys, h3, ?_, h1.sum_nat⟩
  have h4 := h1.length_eq
  have h5 := hp.length_eq
  rw [List.length_map, List.length_take] at h4
  rw [List.length_map, List.length_range] at h5
  omega
/-- the sets of at most so many, as they grow -/
def growL (many : Nat) : Nat → List (List Nat)
  | 0 => [[]]
  | n + 1 => growL many n ++ ((growL many n).filter fun ys => decide (ys.length < many)).map fun ys => ys ++ [n]
theorem growL_mem {many : Nat} : ∀ {n : Nat} {ys : List Nat}, ys ∈ growL many n ↔ ys.Sublist (List.range n) ∧ ys.length ≤ many
  | 0, ys => by
    simp only [growL, List.mem_singleton, List.range_zero, List.sublist_nil]
    constructor
    · rintro rfl; simp
    · exact fun h => h.1
  | n + 1, ys => by
    simp only [growL, List.mem_append, List.mem_map, List.mem_filter, decide_eq_true_eq]
    rw [growL_mem, List.range_succ]
    constructor
    · rintro (⟨h1, h2⟩ | ⟨zs, ⟨h1, h2⟩, rfl⟩)
      · exact ⟨h1.trans (List.sublist_append_left _ _), h2⟩
      · have h3 := (growL_mem.mp h1).1
        exact ⟨h3.append (List.Sublist.refl _), by simp; omega⟩
    · rintro ⟨h1, h2⟩
      obtain ⟨a, b, rfl, h3, h4⟩ := List.sublist_append_iff.mp h1
      cases b with
      | nil => left; rw [List.append_nil] at h2 ⊢; exact ⟨h3, h2⟩
      | cons x b =>
        right
        have h5 := h4.length_le
        have hb : b = [] := by cases b with
          | nil => rfl
          | cons y b => simp at h5
        subst hb
        have hx : x = n := by
          have := h4.subset (List.mem_cons_self (a := x) (l := []))
          simpa using this
        subst hx
        rw [List.length_append, List.length_singleton] at h2
        exact ⟨a, ⟨growL_mem.mpr ⟨h3, by omega⟩, by omega⟩, rfl⟩
theorem growL_len (many : Nat) : ∀ n, (growL many n).length ≤ 2 ^ n
  | 0 => by simp [growL]
  | n + 1 => by
    have := growL_len many n
    have h2 := List.length_filter_le (fun ys : List Nat => decide (ys.length < many)) (growL many n)
    simp only [growL, List.length_append, List.length_map, Nat.pow_succ]
    omega
/-- those of just so many -/
def setsN (n many : Nat) : List (List Nat) := (growL many n).filter fun ys => decide (ys.length = many)
theorem setsN_mem {n many : Nat} {ys : List Nat} : ys ∈ setsN n many ↔ ys.Sublist (List.range n) ∧ ys.length = many := by
  unfold setsN
  rw [List.mem_filter, growL_mem, decide_eq_true_eq]
  constructor
  · rintro ⟨⟨h1, _⟩, h2⟩; exact ⟨h1, h2⟩
  · rintro ⟨h1, h2⟩; exact ⟨⟨h1, by omega⟩, h2⟩
/-- the greatest of some numbers by going through them -/
theorem fold_max : ∀ (l : List Nat) (a : Nat), (∀ x ∈ l, x ≤ l.foldl (fun b s => if b < s then s else b) a) ∧ a ≤ l.foldl (fun b s => if b < s then s else b) a ∧ (l.foldl (fun b s => if b < s then s else b) a = a ∨ l.foldl (fun b s => if b < s then s else b) a ∈ l)
  | [], a => by simp
  | x :: l, a => by
    obtain ⟨h1, h2, h3⟩ := fold_max l (if a < x then x else a)
    rw [List.foldl_cons]
    refine ⟨fun y hy => ?_, ?_, ?_⟩
    · rcases List.mem_cons.mp hy with rfl | hy
      · split at h2 <;> split <;> omega
      · exact h1 y hy
    · split at h2 <;> split <;> omega
    · rcases h3 with h3 | h3
      · rw [h3]
        split
        · right; simp
        · left; rfl
      · right; exact List.mem_cons_of_mem _ h3
theorem fold_min : ∀ (l : List Nat) (a : Nat), (∀ x ∈ l, l.foldl (fun b s => if s < b then s else b) a ≤ x) ∧ l.foldl (fun b s => if s < b then s else b) a ≤ a ∧ (l.foldl (fun b s => if s < b then s else b) a = a ∨ l.foldl (fun b s => if s < b then s else b) a ∈ l)
  | [], a => by simp
  | x :: l, a => by
    obtain ⟨h1, h2, h3⟩ := fold_min l (if x < a then x else a)
    rw [List.foldl_cons]
    refine ⟨fun y hy => ?_, ?_, ?_⟩
    · rcases List.mem_cons.mp hy with rfl | hy
      · split at h2 <;> split <;> omega
      · exact h1 y hy
    · split at h2 <;> split <;> omega
    · rcases h3 with h3 | h3
      · rw [h3]
        split
        · right; simp
        · left; rfl
      · right; exact List.mem_cons_of_mem _ h3
end DI
namespace DI
/-- a fraction in lowest terms -/
def frV (a b : Nat) : Val := .tup [vn (a / Nat.gcd a b), vn (b / Nat.gcd a b)]
theorem frV_eq {a b c d : Nat} (hb : 0 < b) (hd : 0 < d) : frV a b = frV c d ↔ a * d = c * b := by
  rw [← low_eq hb hd]
  unfold frV vn
  simp only [Val.tup.injEq, List.cons.injEq, Val.int.injEq, and_true, Int.ofNat_inj]
theorem frV_pure (a b : Nat) : (frV a b).pure = true := by simp [frV, Val.pure, Val.pures, vn]
theorem Fit.fr {d a b : Nat} : Fit (d + 1) (frV a b) := .tup (by unfold LenOk; simp) (.cons (.n _) (.cons (.n _) .nil))
theorem low_lt {a b c d : Nat} (hb : 0 < b) (hd : 0 < d) : (a / Nat.gcd a b) * (d / Nat.gcd c d) < (c / Nat.gcd c d) * (b / Nat.gcd a b) ↔ a * d < c * b := by
  have g0 : 0 < Nat.gcd a b := Nat.gcd_pos_of_pos_right _ hb
  have h0 : 0 < Nat.gcd c d := Nat.gcd_pos_of_pos_right _ hd
  have ea := Nat.div_mul_cancel (Nat.gcd_dvd_left a b)
  have eb := Nat.div_mul_cancel (Nat.gcd_dvd_right a b)
  have ec := Nat.div_mul_cancel (Nat.gcd_dvd_left c d)
  have ed := Nat.div_mul_cancel (Nat.gcd_dvd_right c d)
  generalize a / Nat.gcd a b = A at *
  generalize b / Nat.gcd a b = B at *
  generalize c / Nat.gcd c d = C at *
  generalize d / Nat.gcd c d = D at *
  generalize Nat.gcd a b = g at *
  generalize Nat.gcd c d = h at *
  subst ea eb ec ed
  have e1 : A * g * (D * h) = (A * D) * (g * h) := by simp only [Nat.mul_assoc, Nat.mul_comm, Nat.mul_left_comm]
  have e2 : C * h * (B * g) = (C * B) * (g * h) := by simp only [Nat.mul_assoc, Nat.mul_comm, Nat.mul_left_comm]
  rw [e1, e2]
  exact (Nat.mul_lt_mul_right (Nat.mul_pos g0 h0)).symm
/-- the share among: of shares of both and of one -/
theorem among_eq {B L n q g s m : Nat} (hL : 0 < L) (hq : 0 < q) (hn : 0 < n) (hm : 0 < m) (hB : B = s) (hl : g * L = m * q) :
    frV (B / Nat.gcd B L * (q / Nat.gcd n q)) (L / Nat.gcd B L * (n / Nat.gcd n q)) = frV (g * s) (m * n) := by
  have g0 : 0 < Nat.gcd B L := Nat.gcd_pos_of_pos_right _ hL
  have h0 : 0 < Nat.gcd n q := Nat.gcd_pos_of_pos_right _ hq
  have l0 : 0 < L / Nat.gcd B L := Nat.div_pos (Nat.gcd_le_right _ hL) g0
  have n0 : 0 < n / Nat.gcd n q := Nat.div_pos (Nat.gcd_le_left _ hn) h0
  rw [frV_eq (Nat.mul_pos l0 n0) (Nat.mul_pos hm hn)]
  have ea := Nat.div_mul_cancel (Nat.gcd_dvd_left B L)
  have eb := Nat.div_mul_cancel (Nat.gcd_dvd_right B L)
  have ec := Nat.div_mul_cancel (Nat.gcd_dvd_left n q)
  have ed := Nat.div_mul_cancel (Nat.gcd_dvd_right n q)
  generalize B / Nat.gcd B L = B0 at *
  generalize L / Nat.gcd B L = L0 at *
  generalize n / Nat.gcd n q = N0 at *
  generalize q / Nat.gcd n q = Q0 at *
  generalize Nat.gcd B L = u at *
  generalize Nat.gcd n q = v at *
  refine Nat.eq_of_mul_eq_mul_right (Nat.mul_pos g0 h0) ?_
  have e1 : B0 * Q0 * (m * n) * (u * v) = (B0 * u) * (m * (Q0 * v)) * n := by simp only [Nat.mul_assoc, Nat.mul_comm, Nat.mul_left_comm]
  have e2 : g * s * (L0 * N0) * (u * v) = s * (g * (L0 * u)) * (N0 * v) := by simp only [Nat.mul_assoc, Nat.mul_comm, Nat.mul_left_comm]
  rw [e1, e2, ea, eb, ec, ed, hl, hB]
/-- how many buckets are in the class of each remainder -/
def wN (m : Nat) (xs : List Nat) (q : Nat) : List Nat := (List.range q).map fun k => inN (Nat.gcd m q) xs (k % Nat.gcd m q)
theorem wN_len (m : Nat) (xs : List Nat) (q : Nat) : (wN m xs q).length = q := by simp [wN]
theorem nsort_desc (l : List Nat) : (nsort l).reverse.Pairwise (fun a b => b ≤ a) := List.pairwise_reverse.mpr (nsort_sorted l)
/-- the greatest of the sums over sets of so many -/
theorem sets_top {w : Nat → Nat} {q k : Nat} (hk : k ≤ q) : ∀ a ∈ (setsN q k).map fun ys => (ys.map w).sum, ((setsN q k).map fun ys => (ys.map w).sum).foldl (fun b s => if b < s then s else b) a = ((nsort ((List.range q).map w)).reverse.take k).sum := by
  intro a ha
  have hp : ((nsort ((List.range q).map w)).reverse).Perm ((List.range q).map w) := (List.reverse_perm _).trans (nsort_perm _)
  have hs := nsort_desc ((List.range q).map w)
  generalize (nsort ((List.range q).map w)).reverse = D at *
  obtain ⟨h1, h2, h3⟩ := fold_max ((setsN q k).map fun ys => (ys.map w).sum) a
  have hle : ∀ x ∈ (setsN q k).map fun ys => (ys.map w).sum, x ≤ (D.take k).sum := fun x hx => by
    obtain ⟨ys, hy, rfl⟩ := List.mem_map.mp hx
    obtain ⟨y1, y2⟩ := setsN_mem.mp hy
    have := top_le y1 hp hs
    rwa [y2] at this
  obtain ⟨ys, y1, y2, y3⟩ := top_met hp hk
  have h4 := h1 _ (List.mem_map.mpr ⟨ys, setsN_mem.mpr ⟨y1, y2⟩, rfl⟩)
  rw [y3] at h4
  have h5 : ((setsN q k).map fun ys => (ys.map w).sum).foldl (fun b s => if b < s then s else b) a ≤ (D.take k).sum := by
    rcases h3 with h3 | h3
    · rw [h3]; exact hle a ha
    · exact hle _ h3
  omega
theorem sets_low {w : Nat → Nat} {q k : Nat} (hk : k ≤ q) : ∀ a ∈ (setsN q k).map fun ys => (ys.map w).sum, ((setsN q k).map fun ys => (ys.map w).sum).foldl (fun b s => if s < b then s else b) a = ((nsort ((List.range q).map w)).take k).sum := by
  intro a ha
  have hp : (nsort ((List.range q).map w)).Perm ((List.range q).map w) := nsort_perm _
  have hs := nsort_sorted ((List.range q).map w)
  generalize nsort ((List.range q).map w) = D at *
  obtain ⟨h1, h2, h3⟩ := fold_min ((setsN q k).map fun ys => (ys.map w).sum) a
  have hle : ∀ x ∈ (setsN q k).map fun ys => (ys.map w).sum, (D.take k).sum ≤ x := fun x hx => by
    obtain ⟨ys, hy, rfl⟩ := List.mem_map.mp hx
    obtain ⟨y1, y2⟩ := setsN_mem.mp hy
    have := low_le y1 hp hs
    rwa [y2] at this
  obtain ⟨ys, y1, y2, y3⟩ := top_met hp hk
  have h4 := h1 _ (List.mem_map.mpr ⟨ys, setsN_mem.mpr ⟨y1, y2⟩, rfl⟩)
  rw [y3] at h4
  have h5 : (D.take k).sum ≤ ((setsN q k).map fun ys => (ys.map w).sum).foldl (fun b s => if s < b then s else b) a := by
    rcases h3 with h3 | h3
    · rw [h3]; exact hle a ha
    · exact hle _ h3
  omega
theorem setsN_ne {n k : Nat} (h : k ≤ n) : setsN n k ≠ [] := by
  have hp : (nsort ((List.range n).map fun x => x)).Perm ((List.range n).map fun x => x) := nsort_perm _
  obtain ⟨ys, y1, y2, _⟩ := top_met hp h
  exact List.ne_nil_of_mem (setsN_mem.mpr ⟨y1, y2⟩)
theorem sum_setsN_le {n k : Nat} {ys : List Nat} (h : ys ∈ setsN n k) : ys.Nodup ∧ ys.length = k ∧ ∀ y ∈ ys, y < n := by
  obtain ⟨h1, h2⟩ := setsN_mem.mp h
  exact ⟨List.nodup_range.sublist h1, h2, fun y hy => List.mem_range.mp (h1.subset hy)⟩
end DI
namespace DI
theorem clash_part_len (L : List (Nat × List Nat)) : ∀ n, n ≤ 100 → ((List.range n).flatMap fun far => ((List.range far).filter fun near => !alongN (atN L near) (atN L far)).map fun near => (near, far)).length ≤ 100 * n := by
  intro n
  induction n with
  | zero => simp
  | succ n ih =>
    intro hn
    rw [List.range_succ, List.flatMap_append, List.length_append]
    have := ih (by omega)
    have h2 : (((List.range n).filter fun near => !alongN (atN L near) (atN L n)).map fun near => (near, n)).length ≤ n := by
      rw [List.length_map]
      exact Nat.le_trans (List.length_filter_le _ _) (by simp)
    simp only [List.flatMap_cons, List.flatMap_nil, List.append_nil]
    omega
theorem clashN_len {L : List (Nat × List Nat)} (h : L.length ≤ 100) : (clashN L).length ≤ 10000 := by
  have := clash_part_len L L.length h
  unfold clashN
  omega
theorem clashN_map (L : List (Nat × List Nat)) : ((List.range L.length).flatMap fun x => ((List.range x).filter fun y => !alongN (atN L y) (atN L x)).map fun y => Val.tup [vn y, vn x]) = (clashN L).map pv := by
  unfold clashN
  rw [List.map_flatMap]
  simp only [List.map_map]
  rfl
end DI
namespace DI
theorem FitL.lots {d M : Nat} {L : List (Nat × List Nat)} (b c : Bool) (hM : M ≤ 16777216) (h : ∀ p ∈ L, LotOk M p.1 p.2) : FitL (d + 2) (L.map (lotS b c)) := FitL.of fun y hy => by
  obtain ⟨p, hp, rfl⟩ := List.mem_map.mp hy
  have lo := h p hp
  have hl := lo.len
  have hm := lo.m1
  have h1 : LenOk (p.2.map vn) := by unfold LenOk; rw [List.length_map]; omega
  have h2 : LenOk [vn p.1, sq c (p.2.map vn)] := by unfold LenOk; simp
  have h3 : Fit (d + 1) (sq c (p.2.map vn)) := by
    cases c
    · exact .tup h1 (.map fun _ => .n _)
    · exact .lst h1 (.map fun _ => .n _)
  cases b
  · exact .tup h2 (.cons (.n _) (.cons h3 .nil))
  · exact .lst h2 (.cons (.n _) (.cons h3 .nil))
end DI
/-! DI36: things that may be lots. -/
namespace DI
def natV : Val → Option Nat
  | .int i => if 0 ≤ i then some i.toNat else none
  | _ => none
def natsV : List Val → Option (List Nat)
  | [] => some []
  | x :: xs => match natV x with
    | some n => (natsV xs).map (n :: ·)
    | none => none
def ascB (l : List Nat) : Bool := (l.zip (l.drop 1)).all fun p => decide (p.1 < p.2)
theorem ascB_iff : ∀ {l : List Nat}, ascB l = true ↔ l.Pairwise (· < ·)
  | [] => by simp [ascB]
  | [x] => by simp [ascB]
  | x :: y :: l => by
    have ih := ascB_iff (l := y :: l)
    unfold ascB at ih ⊢
    simp only [List.drop_succ_cons, List.drop_zero, List.zip_cons_cons, List.all_cons, Bool.and_eq_true, decide_eq_true_eq] at ih ⊢
    rw [ih, List.pairwise_cons (a := x)]
    constructor
    · rintro ⟨h1, h2⟩
      refine ⟨fun z hz => ?_, h2⟩
      rcases List.mem_cons.mp hz with rfl | hz
      · exact h1
      · have := (List.pairwise_cons.mp h2).1 z hz
        omega
    · rintro ⟨h1, h2⟩
      exact ⟨h1 y (by simp), h2⟩
/-- a lot, if the thing is one -/
def lotT : Val → Option (Nat × List Nat)
  | .tup [.int m, .tup ys] => if 1 ≤ m then (match natsV ys with
    | some l => if ascB l && l.all (fun x => decide (x < m.toNat)) then some (m.toNat, l) else none
    | none => none) else none
  | _ => none
theorem natV_vn (n : Nat) : natV (vn n) = some n := by simp [natV, vn]
theorem natsV_vn : ∀ l : List Nat, natsV (l.map vn) = some l
  | [] => rfl
  | x :: l => by simp [natsV, natV_vn, natsV_vn l]
theorem natV_some {v : Val} {n : Nat} (h : natV v = some n) : v = vn n := by
  cases v with
  | int i =>
    simp only [natV] at h
    split at h
    · have : i.toNat = n := by simpa using h
      subst this
      unfold vn
      rw [Int.toNat_of_nonneg ‹_›]
    · cases h
  | _ => simp [natV] at h
theorem natsV_some : ∀ {ys : List Val} {l : List Nat}, natsV ys = some l → ys = l.map vn
  | [], l, h => by
    have : l = [] := by simpa [natsV] using h.symm
    subst this; rfl
  | y :: ys, l, h => by
    simp only [natsV] at h
    cases e : natV y with
    | none => rw [e] at h; cases h
    | some n =>
      rw [e] at h
      cases e2 : natsV ys with
      | none => rw [e2] at h; cases h
      | some k =>
        rw [e2] at h
        have : n :: k = l := by simpa using h
        subst this
        rw [natV_some e, natsV_some e2]
        rfl
theorem lotT_some {v : Val} {m : Nat} {l : List Nat} (h : lotT v = some (m, l)) : v = .tup [vn m, .tup (l.map vn)] ∧ LotOk m m l := by
  unfold lotT at h
  split at h
  · rename_i i ys
    split at h
    · rename_i hi
      split at h
      · rename_i k e
        split at h
        · rename_i q
          rw [Bool.and_eq_true, ascB_iff, List.all_eq_true] at q
          simp only [Option.some.injEq, Prod.mk.injEq] at h
          obtain ⟨h1, h2⟩ := h
          subst h2
          have hm : i = (m : Int) := by omega
          subst hm
          refine ⟨by rw [natsV_some e]; rfl, ⟨by omega, Nat.le_refl _, q.1, fun x hx => ?_⟩⟩
          have := q.2 x hx
          rw [decide_eq_true_eq] at this
          omega
        · cases h
      · cases h
    · cases h
  · cases h
theorem lotT_lot {M m : Nat} {l : List Nat} (lo : LotOk M m l) : lotT (.tup [vn m, .tup (l.map vn)]) = some (m, l) := by
  have m0 := lo.m0
  have h1 : (1 : Int) ≤ (m : Int) := by omega
  have h2 : ascB l = true := ascB_iff.mpr lo.asc
  have h3 : (l.all fun x => decide (x < m)) = true := by
    rw [List.all_eq_true]
    intro x hx
    simpa using lo.lt x hx
  simp [lotT, vn, natsV_vn, h1, h2, h3]
/-- below a number, from 0 on -/
def belowV (i : Int) : Val → Bool
  | .int j => decide (0 ≤ j) && decide (j < i)
  | _ => false
def numB : Val → Bool
  | .int _ => true
  | _ => false
def cntV : Val → Bool
  | .int j => decide (0 ≤ j)
  | _ => false
theorem below_nats {i : Int} : ∀ {ys : List Val}, ys.all (belowV i) = true → ∃ l, natsV ys = some l ∧ ∀ x ∈ l, (x : Int) < i
  | [], _ => ⟨[], rfl, by simp⟩
  | y :: ys, h => by
    rw [List.all_cons, Bool.and_eq_true] at h
    obtain ⟨l, h1, h2⟩ := below_nats h.2
    cases y with
    | int j =>
      have hb := h.1
      simp only [belowV, Bool.and_eq_true, decide_eq_true_eq] at hb
      refine ⟨j.toNat :: l, by simp [natsV, natV, h1, hb.1], fun x hx => ?_⟩
      rcases List.mem_cons.mp hx with rfl | hx
      · omega
      · exact h2 x hx
    | _ => simp [belowV] at h
theorem nats_below {i : Int} {l : List Nat} (h : ∀ x ∈ l, (x : Int) < i) : (l.map vn).all (belowV i) = true := by
  rw [List.all_map, List.all_eq_true]
  intro x hx
  have := h x hx
  simp [belowV, vn]
  exact this
def pairB (i : Int) (ys : List Val) : Bool := match natsV ys with
  | some l => ys.all (belowV i) && ascB l
  | none => false
theorem pairB_some {i : Int} {ys : List Val} {l : List Nat} (h : natsV ys = some l) : pairB i ys = (ys.all (belowV i) && ascB l) := by
  unfold pairB
  rw [h]
theorem pairB_false {i : Int} {ys : List Val} (h : ys.all (belowV i) = false) : pairB i ys = false := by
  unfold pairB
  cases natsV ys <;> simp [h]
/-- a pair of a number and a tuple: when it is a lot -/
theorem lotT_pair {i : Int} {ys : List Val} (hi : 1 ≤ i) : (lotT (.tup [.int i, .tup ys])).isSome = pairB i ys := by
  unfold pairB
  have e : lotT (.tup [.int i, .tup ys]) = (match natsV ys with
    | some l => if ascB l && l.all (fun x => decide (x < i.toNat)) then some (i.toNat, l) else none
    | none => none) := by simp only [lotT, if_pos hi]
  rw [e]
  cases h : natsV ys with
  | none => rfl
  | some l =>
    have hy := natsV_some h
    subst hy
    have hb : (l.map vn).all (belowV i) = l.all fun x => decide (x < i.toNat) := by
      rw [List.all_map]
      congr 1
      funext x
      simp only [Function.comp, belowV, vn]
      rw [Bool.eq_iff_iff, Bool.and_eq_true, decide_eq_true_eq, decide_eq_true_eq, decide_eq_true_eq]
      omega
    rw [hb]
    show (if (ascB l && l.all fun x => decide (x < i.toNat)) = true then some (i.toNat, l) else none).isSome = ((l.all fun x => decide (x < i.toNat)) && ascB l)
    cases ascB l <;> cases (l.all fun x => decide (x < i.toNat)) <;> rfl
theorem nats_none_below {i : Int} {ys : List Val} (h : natsV ys = none) : ys.all (belowV i) = false := by
  cases e : ys.all (belowV i) with
  | false => rfl
  | true =>
    obtain ⟨l, h1, _⟩ := below_nats e
    rw [h] at h1
    cases h1
/-- how long the second part of a pair is -/
def len2 : Val → Nat
  | .tup [_, .tup ys] => ys.length
  | _ => 0
/-- things that a law asks about -/
structure Thing (v : Val) : Prop where
  fit : v.fit = true
  dep : v.dep ≤ 6
  len : len2 v < 60
mutual
theorem fit_dat : ∀ {v : Val}, v.fit = true → v.dat = true
  | .non, _ => by simp [Val.dat]
  | .bl _, _ => by simp [Val.dat]
  | .int _, _ => by simp [Val.dat]
  | .str _, h => by simpa [Val.dat, Val.fit] using h
  | .loc _, h => by simp [Val.fit] at h
  | .scr _, h => by simp [Val.fit] at h
  | .tup xs, h => by
    have h2 : xs.length ≤ mx ∧ Val.fits xs = true := by simpa [Val.fit] using h
    simpa [Val.dat] using fits_dats h2.2
  | .lst xs, h => by
    have h2 : xs.length ≤ mx ∧ Val.fits xs = true := by simpa [Val.fit] using h
    simpa [Val.dat] using fits_dats h2.2
theorem fits_dats : ∀ {xs : List Val}, Val.fits xs = true → Val.dats xs = true
  | [], _ => by simp [Val.dats]
  | x :: xs, h => by
    have h2 : x.fit = true ∧ Val.fits xs = true := by simpa [Val.fits] using h
    simp [Val.dats, fit_dat h2.1, fits_dats h2.2]
end
mutual
theorem fit_pure : ∀ {v : Val}, v.fit = true → v.pure = true
  | .non, _ => by simp [Val.pure]
  | .bl _, _ => by simp [Val.pure]
  | .int _, _ => by simp [Val.pure]
  | .str _, h => by simp [Val.pure]
  | .loc _, h => by simp [Val.fit] at h
  | .scr _, h => by simp [Val.fit] at h
  | .tup xs, h => by
    have h2 : xs.length ≤ mx ∧ Val.fits xs = true := by simpa [Val.fit] using h
    simpa [Val.pure] using fits_pures h2.2
  | .lst xs, h => by
    have h2 : xs.length ≤ mx ∧ Val.fits xs = true := by simpa [Val.fit] using h
    simpa [Val.pure] using fits_pures h2.2
theorem fits_pures : ∀ {xs : List Val}, Val.fits xs = true → Val.pures xs = true
  | [], _ => by simp [Val.pures]
  | x :: xs, h => by
    have h2 : x.fit = true ∧ Val.fits xs = true := by simpa [Val.fits] using h
    simp [Val.pures, fit_pure h2.1, fits_pures h2.2]
end
mutual
theorem eqv_self : ∀ {v : Val}, v.dat = true → Val.eqv v v = true
  | .non, _ => by simp [Val.eqv]
  | .bl _, _ => by simp [Val.eqv]
  | .int _, _ => by simp [Val.eqv]
  | .str _, _ => by simp [Val.eqv]
  | .loc _, h => by simp [Val.dat] at h
  | .scr _, h => by simp [Val.dat] at h
  | .tup xs, h => by simpa [Val.eqv] using eqvs_self (xs := xs) (by simpa [Val.dat] using h)
  | .lst xs, h => by simpa [Val.eqv] using eqvs_self (xs := xs) (by simpa [Val.dat] using h)
theorem eqvs_self : ∀ {xs : List Val}, Val.dats xs = true → Val.eqvs xs xs = true
  | [], _ => by simp [Val.eqvs]
  | x :: xs, h => by
    have h2 : x.dat = true ∧ Val.dats xs = true := by simpa [Val.dats] using h
    simp [Val.eqvs, eqv_self h2.1, eqvs_self h2.2]
end
theorem eq_self (S : Store) {v : Val} (h : v.dat = true) (hd : v.dep ≤ 64) : cmpop .eq v v S = .ok (.bl true) S := by
  rw [eq_data S h h hd hd, eqv_self h]
/-- sorted(set(..)) of ints -/
theorem sstV_i (S : Store) (b : Bool) {l : List Int} (h : (usort l).length < 64) (h2 : l.length < 4000) : sstV (sq b (l.map Val.int)) S = .ok ((usort l).map Val.int) S := by
  unfold sstV
  rw [items_sq]
  simp only [intsOf_ints]
  rw [if_pos ⟨h, h2⟩]
theorem eqvs_int : ∀ l k : List Int, Val.eqvs (l.map Val.int) (k.map Val.int) = decide (l = k)
  | [], [] => by simp [Val.eqvs]
  | [], _ :: _ => by simp [Val.eqvs]
  | _ :: _, [] => by simp [Val.eqvs]
  | x :: l, y :: k => by
    rw [List.map_cons, List.map_cons, Val.eqvs, eqvs_int l k, Bool.eq_iff_iff]
    simp [Val.eqv]
theorem dats_int (l : List Int) : Val.dats (l.map Val.int) = true := by rw [dats_map]; simp [Val.dat]
theorem deps_int (l : List Int) : Val.deps (l.map Val.int) = 0 := by
  induction l with
  | nil => rfl
  | cons x l ih => simp [Val.deps, Val.dep, ih]
theorem eq_li (S : Store) (l k : List Int) : cmpop .eq (.lst (l.map Val.int)) (.lst (k.map Val.int)) S = .ok (.bl (decide (l = k))) S := by
  rw [eq_data S (by simp [Val.dat, dats_int]) (by simp [Val.dat, dats_int]) (by simp [Val.dep, deps_int]) (by simp [Val.dep, deps_int]), Val.eqv, eqvs_int]
theorem usort_len_le (l : List Int) : (usort l).length ≤ l.length := by
  have h : ∀ (x : Int) (m : List Int), (insU x m).length ≤ m.length + 1 := by
    intro x m
    induction m with
    | nil => simp [insU]
    | cons y ys ih =>
      unfold insU
      split
      · simp
      · split
        · simp
        · simpa using ih
  induction l with
  | nil => simp [usort]
  | cons x xs ih =>
    have := h x (usort xs)
    rw [usort, List.length_cons]
    omega
theorem usort_id {l : List Int} : l = usort l ↔ l.Pairwise (· < ·) := by
  constructor
  · intro h
    rw [h]
    exact usort_sorted l
  · intro h
    exact lt_ext h (usort_sorted l) fun z => (usort_mem z l).symm
theorem nums_ints : ∀ {ys : List Val}, ys.filter (fun y => !numB y) = [] → ∃ js : List Int, ys = js.map Val.int
  | [], _ => ⟨[], rfl⟩
  | y :: ys, h => by
    cases y with
    | int j =>
      rw [List.filter_cons] at h
      simp only [numB, Bool.not_true, Bool.false_eq_true, if_false] at h
      obtain ⟨js, rfl⟩ := nums_ints h
      exact ⟨j :: js, rfl⟩
    | _ => simp [List.filter_cons, numB] at h
theorem natsV_ints : ∀ (js : List Int), natsV (js.map Val.int) = if js.all (fun j => decide (0 ≤ j)) then some (js.map Int.toNat) else none
  | [] => rfl
  | j :: js => by
    simp only [List.map_cons, natsV, natV, natsV_ints js, List.all_cons]
    by_cases h : 0 ≤ j
    · rw [if_pos h]
      by_cases h2 : js.all (fun j => decide (0 ≤ j)) = true
      · simp [h, h2]
      · simp [h, h2]
    · rw [if_neg h]
      simp [h]
theorem natsV_nonnum {ys : List Val} (h : ys.filter (fun y => !numB y) ≠ []) : natsV ys = none := by
  cases e : natsV ys with
  | none => rfl
  | some l =>
    rw [natsV_some e] at h
    refine absurd ?_ h
    rw [List.filter_eq_nil_iff]
    intro y hy
    obtain ⟨n, _, rfl⟩ := List.mem_map.mp hy
    simp [numB, vn]
/-- the law's way to see a lot -/
theorem lotT_law {i : Int} {js : List Int} (hi : 1 ≤ i) : (lotT (.tup [.int i, .tup (js.map Val.int)])).isSome = (decide (js = usort js) && (js.filter fun j => !(decide (0 ≤ j) && decide (j < i))).isEmpty) := by
  rw [lotT_pair hi]
  unfold pairB
  rw [natsV_ints]
  have hb : (js.map Val.int).all (belowV i) = (js.filter fun j => !(decide (0 ≤ j) && decide (j < i))).isEmpty := by
    rw [List.all_map, Bool.eq_iff_iff, List.isEmpty_iff, List.filter_eq_nil_iff, List.all_eq_true]
    simp [belowV]
  by_cases h : js.all (fun j => decide (0 ≤ j)) = true
  · simp only [h, if_true]
    rw [hb, Bool.and_comm]
    congr 1
    rw [Bool.eq_iff_iff, ascB_iff, decide_eq_true_eq, usort_id, List.pairwise_map]
    rw [List.all_eq_true] at h
    constructor
    · intro q
      exact List.Pairwise.imp_of_mem (fun {a b} ha hb q => by
        have h1 := h a ha
        have h2 := h b hb
        rw [decide_eq_true_eq] at h1 h2
        omega) q
    · intro q
      exact List.Pairwise.imp_of_mem (fun {a b} ha hb q => by
        have h1 := h a ha
        have h2 := h b hb
        rw [decide_eq_true_eq] at h1 h2
        omega) q
  · simp only [h, Bool.false_eq_true, if_false]
    have : (js.filter fun j => !(decide (0 ≤ j) && decide (j < i))).isEmpty = false := by
      cases e : (js.filter fun j => !(decide (0 ≤ j) && decide (j < i))).isEmpty with
      | false => rfl
      | true =>
        exfalso
        refine h ?_
        rw [List.isEmpty_iff, List.filter_eq_nil_iff] at e
        rw [List.all_eq_true]
        intro j hj
        have := e j hj
        simp at this
        simpa using this.1
    rw [this, Bool.and_false]
/-! ### numbers of a class below the least common multiple -/
def clsL (m w far : Nat) : List Nat := (List.range (Nat.lcm m w)).filter fun k => decide (k % w = far)
theorem mark_any {M m w far : Nat} {xs : List Nat} (lo : LotOk M m xs) (hf : far < w) : ((clsL m w far).any fun k => decide (k % m ∈ xs) == true) = decide (far ∈ aroundN m xs w) := by
  have m0 := lo.m0
  have w0 : 0 < w := by omega
  have g0 : 0 < Nat.gcd m w := Nat.gcd_pos_of_pos_left _ m0
  have l0 : 0 < Nat.lcm m w := Nat.lcm_pos m0 w0
  have hm := Nat.dvd_lcm_left m w
  have hw := Nat.dvd_lcm_right m w
  rw [Bool.eq_iff_iff, decide_eq_true_eq]
  unfold aroundN
  rw [List.mem_filter, List.mem_range, decide_eq_true_eq, List.countP_pos_iff]
  simp only [clsL, List.any_eq_true, List.mem_filter, List.mem_range, beq_iff_eq, decide_eq_true_eq]
  constructor
  · rintro ⟨k, ⟨h1, h2⟩, h3⟩
    refine ⟨hf, k % m, h3, ?_⟩
    rw [Nat.mod_mod_of_dvd _ (Nat.gcd_dvd_left m w), ← h2, Nat.mod_mod_of_dvd _ (Nat.gcd_dvd_right m w)]
  · rintro ⟨_, x, hx, hc⟩
    obtain ⟨j, hj, e⟩ := steps_all (q := w) (k := far) m0 (lo.lt x hx) hc
    refine ⟨(far + j * w) % Nat.lcm m w, ⟨Nat.mod_lt _ l0, ?_⟩, ?_⟩
    · rw [Nat.mod_mod_of_dvd _ hw, Nat.add_mul_mod_self_right, Nat.mod_eq_of_lt hf]
    · rw [Nat.mod_mod_of_dvd _ hm, e]
      exact hx
theorem mark_all {M m w far : Nat} {xs : List Nat} (lo : LotOk M m xs) (hf : far < w) : (!(clsL m w far).any fun k => decide (k % m ∈ xs) == false) = decide (far ∈ withinN m xs w) := by
  have m0 := lo.m0
  have w0 : 0 < w := by omega
  have g0 : 0 < Nat.gcd m w := Nat.gcd_pos_of_pos_left _ m0
  have l0 : 0 < Nat.lcm m w := Nat.lcm_pos m0 w0
  have hm := Nat.dvd_lcm_left m w
  have hw := Nat.dvd_lcm_right m w
  rw [Bool.eq_iff_iff, decide_eq_true_eq]
  unfold withinN
  rw [List.mem_filter, List.mem_range, decide_eq_true_eq, cls_full (Nat.mod_lt _ g0) (Nat.gcd_dvd_left m w) lo.asc lo.lt]
  simp only [clsL, Bool.not_eq_true', List.any_eq_false, List.mem_filter, List.mem_range, beq_iff_eq, decide_eq_true_eq, decide_eq_false_iff_not, Decidable.not_not]
  constructor
  · intro h
    refine ⟨hf, fun r hr hc => ?_⟩
    obtain ⟨j, hj, e⟩ := steps_all (q := w) (k := far) m0 hr hc
    have := h ((far + j * w) % Nat.lcm m w) ⟨Nat.mod_lt _ l0, by rw [Nat.mod_mod_of_dvd _ hw, Nat.add_mul_mod_self_right, Nat.mod_eq_of_lt hf]⟩
    rwa [Nat.mod_mod_of_dvd _ hm, e] at this
  · rintro ⟨_, h⟩ k ⟨h1, h2⟩
    refine h _ (Nat.mod_lt _ m0) ?_
    rw [Nat.mod_mod_of_dvd _ (Nat.gcd_dvd_left m w), ← h2, Nat.mod_mod_of_dvd _ (Nat.gcd_dvd_right m w)]
theorem around_filter (m : Nat) (xs : List Nat) (w : Nat) : ((List.range w).filter fun far => decide (far ∈ aroundN m xs w)) = aroundN m xs w := by
  refine asc_ext (List.pairwise_lt_range.filter _) (List.pairwise_lt_range.filter _) fun x => ?_
  rw [List.mem_filter, decide_eq_true_eq, List.mem_range]
  exact ⟨fun h => h.2, fun h => ⟨List.mem_range.mp (List.mem_filter.mp h).1, h⟩⟩
theorem within_filter (m : Nat) (xs : List Nat) (w : Nat) : ((List.range w).filter fun far => decide (far ∈ withinN m xs w)) = withinN m xs w := by
  refine asc_ext (List.pairwise_lt_range.filter _) (List.pairwise_lt_range.filter _) fun x => ?_
  rw [List.mem_filter, decide_eq_true_eq, List.mem_range]
  exact ⟨fun h => h.2, fun h => ⟨List.mem_range.mp (List.mem_filter.mp h).1, h⟩⟩
theorem cut_last {α : Type} (l : List α) : cut l (some (-((1 : Nat) : Int))) none = l.drop (l.length - 1) := by
  unfold cut cutIx
  simp only
  rw [if_pos (by omega)]
  have e : (-((1 : Nat) : Int) + (l.length : Int)).toNat = l.length - 1 := by omega
  rw [e, List.take_of_length_le (by rw [List.length_drop]; omega)]
end DI
namespace DI
theorem or_b (S : Store) (a b : Bool) : (if a = true then Out.ok (Val.bl a) S else Out.ok (Val.bl b) S) = .ok (.bl (a || b)) S := by cases a <;> rfl
theorem chn_b (S : Store) (a b : Bool) : (if a = true then Out.ok (Val.bl b) S else Out.ok (Val.bl false) S) = .ok (.bl (a && b)) S := by cases a <;> rfl
def intB : Val → Bool
  | .int _ => true
  | .bl _ => true
  | _ => false
def blB : Val → Bool
  | .bl _ => true
  | _ => false
theorem isi_intB (S : Store) {v : Val} (h : v.fit = true) : biop (.isi [.int]) [v] S = .ok (.bl (intB v)) S := by
  cases v <;> first | rfl | (simp [Val.fit] at h)
theorem isi_blB (S : Store) {v : Val} (h : v.fit = true) : biop (.isi [.bool]) [v] S = .ok (.bl (blB v)) S := by
  cases v <;> first | rfl | (simp [Val.fit] at h)
theorem not_num (v : Val) : (!intB v || blB v) = !numB v := by cases v <;> rfl
theorem dats_sub : ∀ {xs ys : List Val}, (∀ y ∈ ys, y ∈ xs) → Val.dats xs = true → Val.dats ys = true
  | xs, [], _, _ => by simp [Val.dats]
  | xs, y :: ys, h, hd => by
    have key : ∀ (l : List Val), Val.dats l = true → y ∈ l → y.dat = true := by
      intro l
      induction l with
      | nil => intro _ h; simp at h
      | cons z l ih =>
        intro h1 h2
        have h3 : z.dat = true ∧ Val.dats l = true := by simpa [Val.dats] using h1
        rcases List.mem_cons.mp h2 with rfl | h2
        · exact h3.1
        · exact ih h3.2 h2
    have h1 := key xs hd (h y (by simp))
    have h2 := dats_sub (xs := xs) (ys := ys) (fun z hz => h z (List.mem_cons_of_mem _ hz)) hd
    simp only [Val.dats, h1, h2, Bool.and_self]
theorem deps_sub : ∀ {xs ys : List Val}, (∀ y ∈ ys, y ∈ xs) → Val.deps ys ≤ Val.deps xs
  | xs, [], _ => by simp [Val.deps]
  | xs, y :: ys, h => by
    have h1 := Val.dep_mem (h y (by simp))
    have h2 := deps_sub (ys := ys) fun z hz => h z (by simp [hz])
    simp only [Val.deps]
    omega
theorem ne_filter_nil (S : Store) {ys : List Val} (p : Val → Bool) (h : Val.dats ys = true) (hd : Val.deps ys ≤ 60) : cmpop .ne (.lst (ys.filter p)) (.lst []) S = .ok (.bl (!(ys.filter p).isEmpty)) S := by
  have hs : ∀ y ∈ ys.filter p, y ∈ ys := fun y hy => (List.mem_filter.mp hy).1
  exact ne_of_eq (eq_lnil S (dats_sub hs h) (Nat.le_trans (deps_sub hs) hd))
theorem eq_int_nil (S : Store) (l : List Int) : cmpop .eq (.lst (l.map Val.int)) (.lst []) S = .ok (.bl l.isEmpty) S := by
  rw [eq_lnil S (dats_int l) (by rw [deps_int]; omega)]
  cases l <;> rfl
end DI
namespace DI
/-- a loop whose turns leave more places behind -/
theorem forT_more {α : Type} {body : Val → Sl → Store → Out (Fl × Sl)} {t} {h : α → Val} (I : Sl → Prop) {l : List α}
    (step : ∀ x r S, x ∈ l → I r → ∃ r' U, body (h x) r S = .ok (.nx, r') (S ++ U) ∧ I r')
    (r : Sl) (S : Store) (i0 : I r) : ∃ r' U, forT body t (l.map h) r S = .ok (.nx, r') (S ++ U) ∧ I r' := by
  induction l generalizing r S with
  | nil => exact ⟨r, [], by rw [List.append_nil]; rfl, i0⟩
  | cons x l ih =>
    obtain ⟨r1, U1, e1, i1⟩ := step x r S (by simp) i0
    obtain ⟨r2, U2, e2, i2⟩ := ih (fun y r S hy => step y r S (by simp [hy])) r1 (S ++ U1) i1
    have e0 : forT body t ((x :: l).map h) r S = (body (h x) r S).bind fun p S1 => (match p with
      | (.nx, r1) => forL body (l.map h) r1 S1
      | (.ct, r1) => forL body (l.map h) r1 S1
      | (.bk, r1) => .ok (.nx, r1) S1
      | (.rt v, r1) => .ok (.rt v, r1) S1) := rfl
    refine ⟨r2, U1 ++ U2, ?_, i2⟩
    rw [e0, e1, Out.bind_ok, ← List.append_assoc]
    exact e2
theorem Thing.tup {a : Val} {ys : List Val} (ha : a.fit = true) (hd : a.dep ≤ 5) (h : Val.fits ys = true) (hy : Val.deps ys ≤ 4) (hl : ys.length < 60) : Thing (.tup [a, .tup ys]) := ⟨by
  have : ys.length ≤ mx := Nat.le_trans (Nat.le_of_lt hl) (by decide)
  simp [Val.fit, Val.fits, ha, h, this], by simp only [Val.dep, Val.deps]; omega, hl⟩
theorem fits_vn (l : List Nat) : Val.fits (l.map vn) = true := by
  induction l with
  | nil => rfl
  | cons x l ih => simp [Val.fits, vn, Val.fit]; exact ih
theorem Thing.lot {M m : Nat} {l : List Nat} (lo : LotOk M m l) (hm : m < 60) : Thing (.tup [vn m, .tup (l.map vn)]) := .tup (by simp [vn, Val.fit]) (by simp [vn, Val.dep]) (fits_vn l) (by rw [deps_vn]; omega) (by
  have := lo.len
  rw [List.length_map]
  omega)
end DI
namespace DI
/-- a drawn filter and what comes behind -/
theorem compR_then {γ : Type} {S T : Store} {g : Nat → Val} {c top n : Nat} {f : (i : Nat) → i < n → Store → Out (Option Val)} {β : Box} {K : List Val → Store → Out γ} {t} (G : Out γ → Prop) (ht : β.lim + c * n ≤ top) (hf : ∀ i (hi : i < n) β, β.lim + c ≤ top → Dw S T β c (f i hi (S ++ boxV β :: T)) fun o => o = none ∨ o = some (g i))
    (hk : ∀ (l2 : List Nat) β', List.Sublist l2 (List.range n) → β'.lim ≤ β.lim + c * n → G (K (l2.map g) (S ++ boxV β' :: T))) : G (bd (cmpR n f (S ++ boxV β :: T)).nox K t) := by
  obtain ⟨ys, β1, e, l1, l2, sl, rfl⟩ := Dw.compR (S := S) (T := T) (g := g) (c := c) (top := top) (n := n) (f := f) (β := β) ht hf
  rw [e, Out.nox_ok, bd_ok]
  exact hk l2 β1 sl l1
end DI
/-! DI37: runs of buckets; pairs put in order. -/
namespace DI
/-! runs of buckets round the circle -/
def startB (m : Nat) (xs : List Nat) (s : Nat) : Bool := !decide ((s + m - 1) % m ∈ xs)
def runL (m : Nat) (xs : List Nat) (s : Nat) : Nat := 1 + (List.range m).findIdx fun j => !decide ((s + 1 + j) % m ∈ xs)
theorem run_spec {m : Nat} {xs : List Nat} {s : Nat} (hs : s < m) (hx : s ∈ xs) (hb : startB m xs s = true) :
    (s + runL m xs s) % m ∉ xs ∧ (∀ j, j < runL m xs s → (s + j) % m ∈ xs) ∧ 0 < runL m xs s ∧ runL m xs s < m := by
  have hb2 : (s + m - 1) % m ∉ xs := by simpa [startB] using hb
  have hm : 2 ≤ m := by
    rcases Nat.lt_or_ge m 2 with h | h
    · exfalso
      have h1 : m = 1 := by omega
      subst h1
      have h2 : s = 0 := by omega
      subst h2
      exact hb2 (by simpa using hx)
    · exact h
  have hw : (m - 2) < (List.range m).length ∧ (!decide ((s + 1 + (m - 2)) % m ∈ xs)) = true := by
    refine ⟨by simp; omega, ?_⟩
    have : s + 1 + (m - 2) = s + m - 1 := by omega
    rw [this]
    simp [hb2]
  have hlt : (List.range m).findIdx (fun j => !decide ((s + 1 + j) % m ∈ xs)) ≤ m - 2 := by
    rcases Nat.lt_or_ge (m - 2) ((List.range m).findIdx fun j => !decide ((s + 1 + j) % m ∈ xs)) with h | h
    · have := List.not_of_lt_findIdx h
      rw [List.getElem_range] at this
      rw [hw.2] at this
      simp at this
    · exact h
  have hin : (List.range m).findIdx (fun j => !decide ((s + 1 + j) % m ∈ xs)) < (List.range m).length := by simp; omega
  have h1 := List.findIdx_getElem (w := hin)
  rw [List.getElem_range] at h1
  refine ⟨?_, fun j hj => ?_, by unfold runL; omega, by unfold runL; omega⟩
  · unfold runL
    rw [← Nat.add_assoc]
    simpa using h1
  · unfold runL at hj
    cases j with
    | zero => rw [Nat.add_zero, Nat.mod_eq_of_lt hs]; exact hx
    | succ j =>
      have h2 : j < (List.range m).findIdx fun j => !decide ((s + 1 + j) % m ∈ xs) := by omega
      have h3 := List.not_of_lt_findIdx h2
      rw [List.getElem_range] at h3
      have e : s + (j + 1) = s + 1 + j := by omega
      rw [e]
      simpa using h3
def rowsP (m : Nat) (xs : List Nat) : List (Nat × Nat) := (xs.filter (startB m xs)).map fun s => (s, runL m xs s)
/-- the numbers of rows -/
def seenN (m : Nat) (rows : List (Nat × Nat)) : List Nat := rows.flatMap fun p => (List.range p.2).map fun k => (p.1 + k) % m
theorem mod_add_inj {m a b c : Nat} (h : (c + a) % m = (c + b) % m) (hab : a ≤ b) (hb : b - a < m) : a = b := by
  have h1 : m ∣ (c + b) - (c + a) := Nat.dvd_of_mod_eq_zero (Nat.sub_mod_eq_zero_of_mod_eq h.symm)
  have h2 : (c + b) - (c + a) = b - a := by omega
  rw [h2] at h1
  rcases Nat.eq_zero_or_pos (b - a) with h3 | h3
  · omega
  · have := Nat.le_of_dvd h3 h1
    omega
theorem seen_sub {m : Nat} {xs : List Nat} (hl : ∀ x ∈ xs, x < m) : ∀ z ∈ seenN m (rowsP m xs), z ∈ xs := by
  intro z hz
  simp only [seenN, rowsP, List.mem_flatMap, List.mem_map, List.mem_filter, List.mem_range] at hz
  obtain ⟨_, ⟨s, ⟨h1, h2⟩, rfl⟩, k, hk, rfl⟩ := hz
  exact (run_spec (hl s h1) h1 h2).2.1 k hk
theorem seen_all {m : Nat} {xs : List Nat} (hl : ∀ x ∈ xs, x < m) {r : Nat} (hr : r < m) (hrx : r ∉ xs) : ∀ z ∈ xs, z ∈ seenN m (rowsP m xs) := by
  intro z hz
  have hzm := hl z hz
  -- back to the start
  have key : ∀ d, (∀ i, i ≤ d → (z + (m - i % m)) % m ∈ xs ∨ d < i) → True := fun _ _ => trivial
  have main : ∀ n, ∀ d, d + n = m → (∀ i, i ≤ d → (z + m * 1 - i) % m ∈ xs) → ∃ s j, s ∈ xs ∧ startB m xs s = true ∧ j < m ∧ (s + j) % m = z ∧ ∀ i, i ≤ j → (s + i) % m ∈ xs := by
    intro n
    induction n with
    | zero =>
      intro d hd h
      exfalso
      have e : d = m := by omega
      subst e
      -- r is met
      refine hrx ?_
      rcases Nat.lt_or_ge z r with h1 | h1
      · have := h (z + d - r) (by omega)
        have e2 : z + d * 1 - (z + d - r) = r := by omega
        rw [e2, Nat.mod_eq_of_lt hr] at this
        exact this
      · have := h (z - r) (by omega)
        have e2 : z + d * 1 - (z - r) = r + d := by omega
        rw [e2, Nat.add_mod_right, Nat.mod_eq_of_lt hr] at this
        exact this
    | succ n ih =>
      intro d hd h
      by_cases hq : (z + m * 1 - (d + 1)) % m ∈ xs
      · refine ih (d + 1) (by omega) fun i hi => ?_
        rcases Nat.lt_or_ge i (d + 1) with h1 | h1
        · exact h i (by omega)
        · have : i = d + 1 := by omega
          rw [this]
          exact hq
      · refine ⟨(z + m * 1 - d) % m, d, h d (Nat.le_refl _), ?_, by omega, ?_, fun i hi => ?_⟩
        · unfold startB
          have e : ((z + m * 1 - d) % m + m - 1) % m = (z + m * 1 - (d + 1)) % m := by
            have h3 : (z + m * 1 - d) % m < m := Nat.mod_lt _ (by omega)
            have h4 : (z + m * 1 - d) % m + m - 1 = (z + m * 1 - d) % m + (m - 1) := by omega
            have h5 : (z + m * 1 - (d + 1)) % m = ((z + m * 1 - d) + (m - 1)) % m := by
              have : (z + m * 1 - d) + (m - 1) = (z + m * 1 - (d + 1)) + m := by omega
              rw [this, Nat.add_mod_right]
            rw [h4, h5, Nat.mod_add_mod]
          rw [e]
          rw [decide_eq_false hq]; rfl
        · have : (z + m * 1 - d) + d = z + m := by omega
          rw [Nat.mod_add_mod, this, Nat.add_mod_right, Nat.mod_eq_of_lt hzm]
        · have : (z + m * 1 - d) + i = z + m * 1 - (d - i) := by omega
          rw [Nat.mod_add_mod, this]
          exact h (d - i) (by omega)
  obtain ⟨s, j, h1, h2, h3, h4, h5⟩ := main m 0 (by omega) fun i hi => by
    have : i = 0 := by omega
    subst this
    rw [Nat.mul_one, Nat.sub_zero, Nat.add_mod_right, Nat.mod_eq_of_lt hzm]
    exact hz
  obtain ⟨q1, q2, q3, q4⟩ := run_spec (hl s h1) h1 h2
  simp only [seenN, rowsP, List.mem_flatMap, List.mem_map, List.mem_filter, List.mem_range]
  refine ⟨_, ⟨s, ⟨h1, h2⟩, rfl⟩, j, ?_, h4⟩
  rcases Nat.lt_or_ge j (runL m xs s) with h6 | h6
  · exact h6
  · exact absurd (h5 _ h6) q1
theorem seen_nodup {m : Nat} {xs : List Nat} (hl : ∀ x ∈ xs, x < m) (nd : xs.Nodup) : (seenN m (rowsP m xs)).Nodup := by
  have one : ∀ s ∈ xs, startB m xs s = true → ∀ t ∈ xs, startB m xs t = true → ∀ k l, k < runL m xs s → l < runL m xs t → k ≤ l → (s + k) % m = (t + l) % m → s = t ∧ k = l := by
    intro s hs bs t ht bt k l hk hl2 hkl e
    obtain ⟨_, a2, _, a4⟩ := run_spec (hl s hs) hs bs
    obtain ⟨_, c2, _, c4⟩ := run_spec (hl t ht) ht bt
    have hsm := hl s hs
    have htm := hl t ht
    -- s is t moved by l - k
    have e2 : s % m = (t + (l - k)) % m := by
      have h1 : (s + k + (m * (k + 1) - k)) % m = (t + l + (m * (k + 1) - k)) % m := by rw [Nat.add_mod, e, ← Nat.add_mod]
      have hmk : k ≤ m * (k + 1) := Nat.le_trans (by omega) (Nat.le_mul_of_pos_left (k + 1) (by omega))
      have h2 : s + k + (m * (k + 1) - k) = s + m * (k + 1) := by omega
      have h3 : t + l + (m * (k + 1) - k) = t + (l - k) + m * (k + 1) := by omega
      rw [h2, h3, Nat.add_mul_mod_self_left, Nat.add_mul_mod_self_left] at h1
      exact h1
    rw [Nat.mod_eq_of_lt hsm] at e2
    rcases Nat.eq_zero_or_pos (l - k) with h | h
    · rw [h, Nat.add_zero, Nat.mod_eq_of_lt htm] at e2
      exact ⟨e2, by omega⟩
    · exfalso
      have h1 := c2 (l - k - 1) (by omega)
      have h2 : (s + m - 1) % m = (t + (l - k - 1)) % m := by
        have h3 : (t + (l - k - 1)) % m = ((t + (l - k)) + (m - 1)) % m := by
          have : (t + (l - k)) + (m - 1) = (t + (l - k - 1)) + m := by omega
          rw [this, Nat.add_mod_right]
        have h4 : s + m - 1 = s + (m - 1) := by omega
        rw [h4, h3, e2, Nat.mod_add_mod]
      have h5 : (s + m - 1) % m ∉ xs := by simpa [startB] using bs
      rw [h2] at h5
      exact h5 h1
  have both : ∀ s ∈ xs, startB m xs s = true → ∀ t ∈ xs, startB m xs t = true → ∀ k l, k < runL m xs s → l < runL m xs t → (s + k) % m = (t + l) % m → s = t ∧ k = l := by
    intro s hs bs t ht bt k l hk hl2 e
    rcases Nat.le_total k l with h | h
    · exact one s hs bs t ht bt k l hk hl2 h e
    · obtain ⟨a, b⟩ := one t ht bt s hs bs l k hl2 hk h e.symm
      exact ⟨a.symm, b.symm⟩
  unfold seenN rowsP
  rw [List.flatMap_map, List.nodup_iff_pairwise_ne, List.flatMap, List.pairwise_flatten]
  constructor
  · intro l hl3
    obtain ⟨s, hs, rfl⟩ := List.mem_map.mp hl3
    obtain ⟨h1, h2⟩ := List.mem_filter.mp hs
    rw [List.pairwise_map]
    refine List.Pairwise.imp_of_mem (R := fun a b => a < b) (fun {a b} ha hb hab e => ?_) List.pairwise_lt_range
    have := (both s h1 h2 s h1 h2 a b (List.mem_range.mp ha) (List.mem_range.mp hb) e).2
    omega
  · rw [List.pairwise_map]
    have nd2 : (xs.filter (startB m xs)).Nodup := nd.sublist List.filter_sublist
    rw [List.nodup_iff_pairwise_ne] at nd2
    refine List.Pairwise.imp_of_mem (fun {s t} hs ht hst x hx y hy e => ?_) nd2
    obtain ⟨h1, h2⟩ := List.mem_filter.mp hs
    obtain ⟨h3, h4⟩ := List.mem_filter.mp ht
    obtain ⟨k, hk, rfl⟩ := List.mem_map.mp hx
    obtain ⟨l, hl4, rfl⟩ := List.mem_map.mp hy
    exact hst (both s h1 h2 t h3 h4 k l (List.mem_range.mp hk) (List.mem_range.mp hl4) e).1
end DI
namespace DI
open PySem.W in
theorem dlt_pv (p q : Nat × Nat) : dlt (pv p) (pv q) = decide (p.1 < q.1 ∨ (p.1 = q.1 ∧ p.2 < q.2)) := by
  unfold dlt pv
  simp only [toD, toDs, vn]
  rw [dataLt_ii]
  congr 1
  simp only [Int.ofNat_lt, Int.ofNat_inj]
theorem pairsOk_pv : ∀ l : List (Nat × Nat), pairsOk (l.map pv) = true
  | [] => rfl
  | p :: l => by
    simp only [List.map_cons, pairsOk, Bool.and_eq_true, List.all_map, List.all_eq_true, Function.comp]
    refine ⟨by simp [pv, toD, toDs, vn, PySem.W.alike, PySem.W.alikeAll], fun q _ => ?_, pairsOk_pv l⟩
    simp only [pairOk, Bool.and_eq_true, Bool.or_eq_true, dlt_pv, decide_eq_true_eq]
    refine ⟨by simp [pv, toD, toDs, vn, PySem.W.alike, PySem.W.alikeAll], by simp [pv, toD, toDs, vn, PySem.W.alike, PySem.W.alikeAll], ?_⟩
    by_cases h : p = q
    · left
      rw [h]
      exact Val.beq_self _
    · right
      obtain ⟨a, b⟩ := p
      obtain ⟨c, d⟩ := q
      have : ¬ (a = c ∧ b = d) := fun z => h (by rw [z.1, z.2])
      show (a < c ∨ (a = c ∧ b < d)) ∨ (c < a ∨ (c = a ∧ d < b))
      omega
theorem dats_pv (l : List (Nat × Nat)) : Val.dats (l.map pv) = true := by rw [dats_map]; simp [Val.dat, Val.dats, vn]
theorem deps_pv (l : List (Nat × Nat)) : Val.deps (l.map pv) ≤ 1 := by
  induction l with
  | nil => simp [Val.deps]
  | cons p l ih => simp only [List.map_cons, Val.deps, pv, Val.dep, vn] at ih ⊢; omega
theorem sortOk_pv {l : List (Nat × Nat)} (h : l.length ≤ 16777216) : sortOk (l.map pv) = true := by
  unfold sortOk
  have h1 := deps_pv l
  simp only [dats_pv, pairsOk_pv, Bool.true_and, Bool.and_eq_true, decide_eq_true_eq, Bool.or_eq_true, List.length_map]
  refine ⟨by omega, .inl ?_, h⟩
  rw [List.all_map, List.all_eq_true]
  intro p _
  rfl
/-- sorted(..) of pairs that stand in order -/
theorem srtV_pv (S : Store) (b : Bool) {l : List (Nat × Nat)} (h : l.length ≤ 16777216) (hs : l.Pairwise fun p q => p.1 < q.1) : srtV (sq b (l.map pv)) S = .ok (l.map pv) S := by
  unfold srtV
  rw [items_sq]
  cases l with
  | nil => rfl
  | cons p l =>
    have e : srtL ((p :: l).map pv) = some (dsort ((p :: l).map pv)) := by
      have h1 : intsOf ((p :: l).map pv) = none := rfl
      unfold srtL
      rw [h1, sortOk_pv h]
      rfl
    simp only [e]
    congr 1
    refine List.Perm.eq_of_pairwise (le := fun a b => dlt b a = false) (fun a b ha hb h1 h2 => ?_) (dsort_sorted _) ?_ (dsort_perm _)
    · exact (pairsOk_mem (pairsOk_pv (p :: l)) a ((dsort_perm _).mem_iff.mp ha) b hb).2 h2 h1
    · rw [List.pairwise_map]
      refine hs.imp fun {a b} q => ?_
      rw [dlt_pv]
      simp only [decide_eq_false_iff_not]
      omega
theorem eqvs_pv : ∀ l k : List (Nat × Nat), Val.eqvs (l.map pv) (k.map pv) = decide (l = k)
  | [], [] => by simp [Val.eqvs]
  | [], _ :: _ => by simp [Val.eqvs]
  | _ :: _, [] => by simp [Val.eqvs]
  | x :: l, y :: k => by
    rw [List.map_cons, List.map_cons, Val.eqvs, eqvs_pv l k, eqv_pv, Bool.eq_iff_iff]
    simp
theorem eq_tp (S : Store) (l k : List (Nat × Nat)) : cmpop .eq (.tup (l.map pv)) (.tup (k.map pv)) S = .ok (.bl (decide (l = k))) S := by
  have h1 := deps_pv l
  have h2 := deps_pv k
  rw [eq_data S (by simp [Val.dat, dats_pv]) (by simp [Val.dat, dats_pv]) (by simp only [Val.dep]; omega) (by simp only [Val.dep]; omega), Val.eqv, eqvs_pv]
theorem eq_lp (S : Store) (l k : List (Nat × Nat)) : cmpop .eq (.lst (l.map pv)) (.lst (k.map pv)) S = .ok (.bl (decide (l = k))) S := by
  have h1 := deps_pv l
  have h2 := deps_pv k
  rw [eq_data S (by simp [Val.dat, dats_pv]) (by simp [Val.dat, dats_pv]) (by simp only [Val.dep]; omega) (by simp only [Val.dep]; omega), Val.eqv, eqvs_pv]
theorem compL2 (f : Val → Store → Out (Option Val)) (a b : Nat) (S : Store) : compL f [vn a, vn b] S = cmpM [a, b] (fun x _ S => f (vn x) S) S := compL_G f vn [a, b] S
/-- sorted with and without set, of unlike numbers -/
theorem nusort_nsort {l : List Nat} (nd : l.Nodup) : nusort l = nsort l := asc_ext (nusort_asc l) (sort_asc l nd) fun x => by rw [nusort_mem, (nsort_perm l).mem_iff]
theorem nsort_of {l xs : List Nat} (nd : l.Nodup) (asc : xs.Pairwise (· < ·)) (h : ∀ x, x ∈ l ↔ x ∈ xs) : nsort l = xs := asc_ext (sort_asc l nd) asc fun x => by rw [(nsort_perm l).mem_iff, h]
theorem moved_nodup {M m p : Nat} {xs : List Nat} (lo : LotOk M m xs) : (xs.map fun x => (x + p) % m).Nodup := by
  rw [List.nodup_iff_pairwise_ne, List.pairwise_map]
  refine List.Pairwise.imp_of_mem (fun {a b} ha hb hab e => ?_) lo.asc
  have h1 := lo.lt a ha
  have h2 := lo.lt b hb
  have e2 : (p + a) % m = (p + b) % m := by rw [Nat.add_comm p a, Nat.add_comm p b]; exact e
  have := mod_add_inj e2 (by omega) (by omega)
  omega
def strN (m : Nat) (xs : List Nat) : List (Nat × Nat) := if xs.length = m then [(0, m)] else rowsP m xs
theorem full_range {M m : Nat} {xs : List Nat} (lo : LotOk M m xs) (h : xs.length = m) : xs = List.range m := by
  refine (asc_sublist lo.asc List.pairwise_lt_range fun x hx => List.mem_range.mpr (lo.lt x hx)).eq_of_length ?_
  rw [h, List.length_range]
theorem free_bucket {M m : Nat} {xs : List Nat} (lo : LotOk M m xs) (h : xs.length ≠ m) : ∃ r, r < m ∧ r ∉ xs := by
  refine Classical.byContradiction fun hn => h ?_
  have h2 := (asc_full lo.asc List.pairwise_lt_range fun x hx => List.mem_range.mpr (lo.lt x hx)).mpr fun x hx => Classical.byContradiction fun q => hn ⟨x, List.mem_range.mp hx, q⟩
  rwa [List.length_range] at h2
theorem str_seen {M m : Nat} {xs : List Nat} (lo : LotOk M m xs) : (seenN m (strN m xs)).Nodup ∧ ∀ x, x ∈ seenN m (strN m xs) ↔ x ∈ xs := by
  unfold strN
  by_cases h : xs.length = m
  · rw [if_pos h, full_range lo h]
    have e : seenN m [(0, m)] = List.range m := by
      simp only [seenN, List.flatMap_cons, List.flatMap_nil, List.append_nil, Nat.zero_add]
      refine (List.map_congr_left fun x hx => ?_).trans (List.map_id _)
      exact Nat.mod_eq_of_lt (List.mem_range.mp hx)
    rw [e]
    exact ⟨List.nodup_range, fun x => Iff.rfl⟩
  · rw [if_neg h]
    obtain ⟨r, h1, h2⟩ := free_bucket lo h
    exact ⟨seen_nodup lo.lt (asc_nodup lo.asc), fun x => ⟨seen_sub lo.lt x, seen_all lo.lt h1 h2 x⟩⟩
theorem str_sorted {M m : Nat} {xs : List Nat} (lo : LotOk M m xs) : (strN m xs).Pairwise fun p q => p.1 < q.1 := by
  unfold strN
  split
  · simp
  · unfold rowsP
    rw [List.pairwise_map]
    exact lo.asc.sublist List.filter_sublist
theorem str_len {M m : Nat} {xs : List Nat} (lo : LotOk M m xs) : (strN m xs).length ≤ m := by
  unfold strN
  have m0 := lo.m0
  split
  · simp; omega
  · unfold rowsP
    rw [List.length_map]
    exact Nat.le_trans (List.length_filter_le _ _) lo.len
theorem str_ends {M m : Nat} {xs : List Nat} (lo : LotOk M m xs) {p : Nat × Nat} (hp : p ∈ strN m xs) : p.1 < m ∧ p.2 ≤ m ∧ (xs.length < m → (p.1 + m - 1) % m ∉ xs ∧ (p.1 + p.2) % m ∉ xs) := by
  have m0 := lo.m0
  unfold strN at hp
  split at hp
  · rename_i h
    rw [List.mem_singleton] at hp
    subst hp
    exact ⟨m0, Nat.le_refl _, fun q => by omega⟩
  · simp only [rowsP, List.mem_map, List.mem_filter] at hp
    obtain ⟨s, ⟨h1, h2⟩, rfl⟩ := hp
    obtain ⟨q1, q2, q3, q4⟩ := run_spec (lo.lt s h1) h1 h2
    exact ⟨lo.lt s h1, by omega, fun _ => ⟨by simpa [startB] using h2, q1⟩⟩
theorem str_whole {M m : Nat} {xs : List Nat} (lo : LotOk M m xs) : decide (strN m xs = [(0, m)]) = decide (xs.length = m) := by
  by_cases h : xs.length = m
  · simp [strN, h]
  · have : strN m xs ≠ [(0, m)] := fun e => by
      have h1 : (0, m) ∈ strN m xs := by rw [e]; simp
      unfold strN at h1
      rw [if_neg h] at h1
      simp only [rowsP, List.mem_map, List.mem_filter, Prod.mk.injEq] at h1
      obtain ⟨s, ⟨h2, h3⟩, rfl, h4⟩ := h1
      have := (run_spec (lo.lt 0 h2) h2 h3).2.2.2
      omega
    simp [h, this]
end DI
namespace K10
/-! ### the functions in the language -/
def N0 : List PySem.Str := ["some"]
/-- set_of -/
def d0 : DI.Fn := ⟨["some"], 1, (.cons (.ret (.bi .tuple (.cons (.nl false (.sst (.var 0))) .nil))) .nil)⟩
def N1 : List PySem.Str := ["lot", "by", "modulus", "some", "number"]
/-- turned -/
def d1 : DI.Fn := ⟨["lot", "by"], 5, (.cons (.set (.t [(.n 2), (.n 3)]) (.var 0)) (.cons (.ret (.tup (.cons (.var 2) (.cons (.cal 0 (.cons (.nl false (.lc [4] (.n 4) (.ex (.var 3)) .no (.bin .mod (.bin .add (.var 4) (.var 1)) (.var 2)))) .nil)) .nil)))) .nil))⟩
def N2 : List PySem.Str := ["lot", "modulus", "some", "found", "number", "many"]
def b2_0 : DI.Sms := (.cons (.aug 5 .add (.int 1)) .nil)
def b2_1 : DI.Sms := (.cons (.ite (.cmp .nmem (.bin .mod (.bin .sub (.var 4) (.int 1)) (.var 1)) (.var 2)) (.cons (.set (.n 5) (.int 1)) (.cons (.whl (.cmp .mem (.bin .mod (.bin .add (.var 4) (.var 5)) (.var 1)) (.var 2)) b2_0) (.cons (.ex (.mth .append (.var 3) (.cons (.tup (.cons (.var 4) (.cons (.var 5) .nil))) .nil))) .nil))) .nil) .nil)
/-- stretches -/
def d2 : DI.Fn := ⟨["lot"], 6, (.cons (.set (.t [(.n 1), (.n 2)]) (.var 0)) (.cons (.ite (.cmp .eq (.bi .len (.cons (.var 2) .nil)) (.var 1)) (.cons (.ret (.tup (.cons (.tup (.cons (.int 0) (.cons (.var 1) .nil))) .nil))) .nil) .nil) (.cons (.set (.n 3) (.nl true (.disp .nil))) (.cons (.fr (.n 4) (.ex (.var 2)) b2_1) (.cons (.fz 3) (.cons (.ret (.bi .tuple (.cons (.var 3) .nil))) .nil))))))⟩
def N3 : List PySem.Str := ["modulus", "rows", "first", "many", "place"]
/-- lot_of -/
def d3 : DI.Fn := ⟨["modulus", "rows"], 5, (.cons (.ret (.tup (.cons (.var 0) (.cons (.cal 0 (.cons (.nl false (.lc2 [2, 3, 4] (.t [(.n 2), (.n 3)]) (.ex (.var 1)) .no [4] (.n 4) (.r1 (.var 3)) .no (.bin .mod (.bin .add (.var 2) (.var 4)) (.var 0)))) .nil)) .nil)))) .nil)⟩
def N4 : List PySem.Str := ["one", "other", "by"]
def b4_0 : DI.Sms := (.cons (.ite (.cmp .eq (.cal 1 (.cons (.var 0) (.cons (.var 2) .nil))) (.tup (.cons (.idx (.var 1) (.int 0)) (.cons (.bi .tuple (.cons (.idx (.var 1) (.int 1)) .nil)) .nil)))) (.cons (.ret (.var 2)) .nil) .nil) .nil)
/-- turn_to -/
def d4 : DI.Fn := ⟨["one", "other"], 3, (.cons (.fr (.n 2) (.r1 (.idx (.var 0) (.int 0))) b4_0) (.cons (.ret .non) .nil))⟩
def N5 : List PySem.Str := ["_law_script", "_law_k", "_law_cell"]
/-- _law_box -/
def d5 : DI.Fn := ⟨["_law_script", "_law_k"], 3, (.cons (.set (.n 2) (.ite (.cmp .lt (.var 1) (.bi .len (.cons (.var 0) .nil))) (.idx (.var 0) (.var 1)) (.int 0))) (.cons (.ret (.nl true (.disp (.cons (.bin .mul (.bi .abs (.cons (.var 2) .nil)) (.bi .int (.cons (.cmp .ge (.bi .abs (.cons (.var 2) .nil)) (.bin .pow (.int 10) (.int 18))) .nil))) (.cons (.bin .add (.bin .add (.bin .mod (.bi .int (.cons (.var 2) .nil)) (.int 2305843009213693951)) (.bin .mul (.int 39373) (.var 1))) (.int 92510)) (.cons (.int 0) .nil)))))) .nil))⟩
def N6 : List PySem.Str := ["_law_box_here", "_law_size_so", "_law_drawn_so", "_law_once", "_law_far", "_law_again"]
/-- _law_take -/
def d6 : DI.Fn := ⟨["_law_box_here", "_law_size_so"], 6, (.cons (.ite (.cmp .gt (.idx (.var 0) (.int 0)) (.int 0)) (.cons (.set (.n 2) (.bin .mod (.bi .int (.cons (.idx (.var 0) (.int 0)) .nil)) (.var 1))) (.cons (.setS (.var 0) (.int 0) (.bin .fdiv (.idx (.var 0) (.int 0)) (.var 1))) (.cons (.ret (.var 2)) .nil))) .nil) (.cons (.setS (.var 0) (.int 2) (.bin .add (.idx (.var 0) (.int 2)) (.int 1))) (.cons (.set (.n 3) (.bin .mod (.bi .int (.cons (.bin .mul (.bin .add (.idx (.var 0) (.int 1)) (.bin .mul (.int 48271) (.idx (.var 0) (.int 2)))) (.bin .add (.int 39373) (.idx (.var 0) (.int 2)))) .nil)) (.int 2147483647))) (.cons (.set (.n 4) (.bin .add (.bin .mod (.bi .int (.cons (.var 3) .nil)) (.int 40009)) (.int 7))) (.cons (.set (.n 5) (.bin .mod (.bi .int (.cons (.bin .mul (.bin .add (.bin .add (.var 3) (.idx (.var 0) (.int 2))) (.bin .fdiv (.idx (.var 0) (.int 1)) (.int 1000003))) (.var 4)) .nil)) (.int 2147483629))) (.cons (.ret (.bin .mod (.bi .int (.cons (.bin .fdiv (.bin .mod (.bi .int (.cons (.bin .add (.bin .mul (.var 5) (.int 48271)) (.var 3)) .nil)) (.int 2147483587)) (.int 64)) .nil)) (.var 1))) .nil))))))⟩
def N7 : List PySem.Str := ["_law_script", "_law_top_so", "_law_cells_so", "_law_k", "_law_cell", "_law_at_so"]
def b7_0 : DI.Sms := (.cons (.set (.n 5) (.bin .mod (.bi .int (.cons (.var 3) .nil)) (.var 1))) (.cons (.setS (.var 2) (.var 5) (.bin .add (.idx (.var 2) (.var 5)) (.bin .mul (.var 4) (.bin .add (.var 3) (.int 2))))) .nil))
/-- _law_cells -/
def d7 : DI.Fn := ⟨["_law_script", "_law_top_so"], 6, (.cons (.set (.n 2) (.or (.nl true (.ofs (.slc (.var 0) .no (.yes (.var 1))))) (.nl true (.disp (.cons (.int 0) .nil))))) (.cons (.fr (.t [(.n 3), (.n 4)]) (.en (.slc (.var 0) (.yes (.var 1)) (.yes (.int 63)))) b7_0) (.cons (.fz 2) (.cons (.ret (.var 2)) .nil))))⟩
def N8 : List PySem.Str := ["_law_box_here", "_law_goods_so"]
/-- _law_of -/
def d8 : DI.Fn := ⟨["_law_box_here", "_law_goods_so"], 2, (.cons (.ret (.idx (.var 1) (.cal 6 (.cons (.var 0) (.cons (.bi .len (.cons (.var 1) .nil)) .nil))))) .nil)⟩
def N9 : List PySem.Str := ["_law_got", "_law_due", "_law_a_so", "_law_b_so"]
/-- _law_same -/
def d9 : DI.Fn := ⟨["_law_got", "_law_due"], 4, (.cons (.ite (.bi (.isi [.list, .tuple]) (.cons (.var 1) .nil)) (.cons (.ite (.cmp .ne (.bi (.isi [.list]) (.cons (.var 0) .nil)) (.bi (.isi [.list]) (.cons (.var 1) .nil))) (.cons (.ret (.bl false)) .nil) .nil) (.cons (.ite (.cmp .ne (.bi (.isi [.tuple]) (.cons (.var 0) .nil)) (.bi (.isi [.tuple]) (.cons (.var 1) .nil))) (.cons (.ret (.bl false)) .nil) .nil) (.cons (.ret (.and (.cmp .eq (.bi .len (.cons (.var 0) .nil)) (.bi .len (.cons (.var 1) .nil))) (.bi .all (.cons (.nl false (.lc [2, 3] (.t [(.n 2), (.n 3)]) (.zp (.var 0) (.var 1)) .no (.cal 9 (.cons (.var 2) (.cons (.var 3) .nil))))) .nil)))) .nil))) .nil) (.cons (.ite (.or (.cmp .isn (.var 1) .non) (.bi (.isi [.bool, .str]) (.cons (.var 1) .nil))) (.cons (.ret (.and (.cmp .eq (.var 0) (.var 1)) (.and (.cmp .eq (.bi (.isi [.bool]) (.cons (.var 0) .nil)) (.bi (.isi [.bool]) (.cons (.var 1) .nil))) (.cmp .eq (.cmp .isn (.var 0) .non) (.cmp .isn (.var 1) .non))))) .nil) .nil) (.cons (.ret (.and (.bi (.isi [.int]) (.cons (.var 0) .nil)) (.and (.nt (.bi (.isi [.bool]) (.cons (.var 0) .nil))) (.cmp .eq (.var 0) (.var 1))))) .nil)))⟩
def N10 : List PySem.Str := ["_law_box_here", "_law_modulus_so", "_law_way_so", "_law_first_so", "_law_many_so", "_law_k", "_law_parts_so", "_law_part_so", "_law_here", "_law_thick_so"]
/-- _law_buckets -/
def d10 : DI.Fn := ⟨["_law_box_here", "_law_modulus_so"], 10, (.cons (.set (.n 2) (.cal 6 (.cons (.var 0) (.cons (.int 6) .nil)))) (.cons (.ite (.cmp .eq (.var 2) (.int 0)) (.cons (.set (.t [(.n 3), (.n 4)]) (.tup (.cons (.cal 6 (.cons (.var 0) (.cons (.var 1) .nil))) (.cons (.cal 6 (.cons (.var 0) (.cons (.bin .add (.var 1) (.int 1)) .nil))) .nil)))) (.cons (.ret (.bi .tuple (.cons (.nl false (.srt (.nl false (.lc [5] (.n 5) (.r1 (.var 4)) .no (.bin .mod (.bin .add (.var 3) (.var 5)) (.var 1)))))) .nil))) .nil)) .nil) (.cons (.ite (.cmp .eq (.var 2) (.int 1)) (.cons (.set (.n 6) (.nl false (.lc [5] (.n 5) (.r2 (.int 1) (.bin .add (.var 1) (.int 1))) (.yes (.cmp .eq (.bin .mod (.var 1) (.var 5)) (.int 0))) (.var 5)))) (.cons (.set (.n 7) (.cal 8 (.cons (.var 0) (.cons (.var 6) .nil)))) (.cons (.set (.n 8) (.nl false (.lc [5] (.n 5) (.r1 (.var 7)) (.yes (.cmp .eq (.cal 6 (.cons (.var 0) (.cons (.int 2) .nil))) (.int 0))) (.var 5)))) (.cons (.ret (.bi .tuple (.cons (.nl false (.lc [5] (.n 5) (.r1 (.var 1)) (.yes (.cmp .mem (.bin .mod (.var 5) (.var 7)) (.var 8))) (.var 5))) .nil))) .nil)))) .nil) (.cons (.set (.n 9) (.cal 6 (.cons (.var 0) (.cons (.int 5) .nil)))) (.cons (.ret (.bi .tuple (.cons (.nl false (.lc [5] (.n 5) (.r1 (.var 1)) (.yes (.cmp .lt (.cal 6 (.cons (.var 0) (.cons (.int 4) .nil))) (.var 9))) (.var 5))) .nil))) .nil)))))⟩
def N11 : List PySem.Str := ["_law_box_here", "_law_most_so", "_law_modulus_so"]
/-- _law_lot -/
def d11 : DI.Fn := ⟨["_law_box_here", "_law_most_so"], 3, (.cons (.set (.n 2) (.bin .add (.int 1) (.cal 6 (.cons (.var 0) (.cons (.var 1) .nil))))) (.cons (.ret (.tup (.cons (.var 2) (.cons (.cal 10 (.cons (.var 0) (.cons (.var 2) .nil))) .nil)))) .nil))⟩
def N12 : List PySem.Str := ["_law_cases_so", "_law_got", "_law_own", "_law_due", "_law_rows_so", "_law_its", "_law_lot_so", "_law_k", "_law_pairs_so"]
/-- _law_by_hand_right -/
def d12 : DI.Fn := ⟨[], 9, (.cons (.set (.n 0) (.nl false (.disp (.cons (.tup (.cons (.int 10) (.cons (.tup (.cons (.int 0) (.cons (.int 1) (.cons (.int 5) (.cons (.int 8) (.cons (.int 9) .nil)))))) .nil))) (.cons (.tup (.cons (.int 3) (.cons (.tup (.cons (.int 0) (.cons (.int 1) (.cons (.int 2) .nil)))) .nil))) (.cons (.tup (.cons (.int 5) (.cons (.tup .nil) .nil))) (.cons (.tup (.cons (.int 1) (.cons (.tup (.cons (.int 0) .nil)) .nil))) (.cons (.tup (.cons (.int 1) (.cons (.tup .nil) .nil))) (.cons (.tup (.cons (.int 6) (.cons (.tup (.cons (.int 0) .nil)) .nil))) .nil))))))))) (.cons (.set (.n 0) (.bin .add (.var 0) (.nl false (.disp (.cons (.tup (.cons (.int 6) (.cons (.tup (.cons (.int 5) .nil)) .nil))) (.cons (.tup (.cons (.int 6) (.cons (.tup (.cons (.int 0) (.cons (.int 5) .nil))) .nil))) (.cons (.tup (.cons (.int 6) (.cons (.tup (.cons (.int 0) (.cons (.int 2) (.cons (.int 4) .nil)))) .nil))) (.cons (.tup (.cons (.int 4) (.cons (.tup (.cons (.int 1) (.cons (.int 2) (.cons (.int 3) .nil)))) .nil))) .nil)))))))) (.cons (.set (.n 1) (.nl false (.lc [2] (.n 2) (.ex (.var 0)) .no (.cal 2 (.cons (.var 2) .nil))))) (.cons (.set (.n 3) (.nl false (.disp (.cons (.tup (.cons (.tup (.cons (.int 5) (.cons (.int 1) .nil))) (.cons (.tup (.cons (.int 8) (.cons (.int 4) .nil))) .nil))) (.cons (.tup (.cons (.tup (.cons (.int 0) (.cons (.int 3) .nil))) .nil)) (.cons (.tup .nil) (.cons (.tup (.cons (.tup (.cons (.int 0) (.cons (.int 1) .nil))) .nil)) (.cons (.tup .nil) (.cons (.tup (.cons (.tup (.cons (.int 0) (.cons (.int 1) .nil))) .nil)) (.cons (.tup (.cons (.tup (.cons (.int 5) (.cons (.int 1) .nil))) .nil)) (.cons (.tup (.cons (.tup (.cons (.int 5) (.cons (.int 2) .nil))) .nil)) .nil))))))))))) (.cons (.set (.n 3) (.bin .add (.var 3) (.nl false (.disp (.cons (.tup (.cons (.tup (.cons (.int 0) (.cons (.int 1) .nil))) (.cons (.tup (.cons (.int 2) (.cons (.int 1) .nil))) (.cons (.tup (.cons (.int 4) (.cons (.int 1) .nil))) .nil)))) (.cons (.tup (.cons (.tup (.cons (.int 1) (.cons (.int 3) .nil))) .nil)) .nil)))))) (.cons (.set (.n 4) (.nl false (.disp (.cons (.tup (.cons (.int 10) (.cons (.tup (.cons (.tup (.cons (.int 8) (.cons (.int 4) .nil))) (.cons (.tup (.cons (.int 5) (.cons (.int 1) .nil))) .nil))) .nil))) (.cons (.tup (.cons (.int 7) (.cons (.tup .nil) .nil))) (.cons (.tup (.cons (.int 5) (.cons (.tup (.cons (.tup (.cons (.int 3) (.cons (.int 5) .nil))) .nil)) .nil))) (.cons (.tup (.cons (.int 6) (.cons (.tup (.cons (.tup (.cons (.int 0) (.cons (.int 2) .nil))) (.cons (.tup (.cons (.int 1) (.cons (.int 3) .nil))) .nil))) .nil))) .nil))))))) (.cons (.set (.n 4) (.bin .add (.var 4) (.nl false (.disp (.cons (.tup (.cons (.int 60) (.cons (.tup (.cons (.tup (.cons (.int 59) (.cons (.int 2) .nil))) .nil)) .nil))) (.cons (.tup (.cons (.int 4) (.cons (.tup (.cons (.tup (.cons (.int 1) (.cons (.int 1) .nil))) (.cons (.tup (.cons (.int 1) (.cons (.int 1) .nil))) .nil))) .nil))) .nil)))))) (.cons (.set (.n 1) (.bin .add (.var 1) (.nl false (.lc [2, 5] (.t [(.n 2), (.n 5)]) (.ex (.var 4)) .no (.cal 3 (.cons (.var 2) (.cons (.var 5) .nil))))))) (.cons (.set (.n 3) (.bin .add (.var 3) (.nl false (.disp (.cons (.tup (.cons (.int 10) (.cons (.tup (.cons (.int 0) (.cons (.int 1) (.cons (.int 5) (.cons (.int 8) (.cons (.int 9) .nil)))))) .nil))) (.cons (.tup (.cons (.int 7) (.cons (.tup .nil) .nil))) (.cons (.tup (.cons (.int 5) (.cons (.tup (.cons (.int 0) (.cons (.int 1) (.cons (.int 2) (.cons (.int 3) (.cons (.int 4) .nil)))))) .nil))) (.cons (.tup (.cons (.int 6) (.cons (.tup (.cons (.int 0) (.cons (.int 1) (.cons (.int 2) (.cons (.int 3) .nil))))) .nil))) (.cons (.tup (.cons (.int 60) (.cons (.tup (.cons (.int 0) (.cons (.int 59) .nil))) .nil))) .nil))))))))) (.cons (.set (.n 3) (.bin .add (.var 3) (.nl false (.disp (.cons (.tup (.cons (.int 4) (.cons (.tup (.cons (.int 1) .nil)) .nil))) .nil))))) (.cons (.set (.n 6) (.tup (.cons (.int 10) (.cons (.tup (.cons (.int 0) (.cons (.int 1) (.cons (.int 5) (.cons (.int 8) (.cons (.int 9) .nil)))))) .nil)))) (.cons (.set (.n 1) (.bin .add (.var 1) (.nl false (.lc [7] (.n 7) (.ex (.tup (.cons (.int 0) (.cons (.int 2) (.cons (.int 10) (.cons (.bin .sub (.bin .pow (.int 10) (.int 30)) (.int 7)) .nil)))))) .no (.cal 1 (.cons (.var 6) (.cons (.var 7) .nil))))))) (.cons (.set (.n 3) (.bin .add (.var 3) (.nl false (.disp (.cons (.var 6) (.cons (.tup (.cons (.int 10) (.cons (.tup (.cons (.int 0) (.cons (.int 1) (.cons (.int 2) (.cons (.int 3) (.cons (.int 7) .nil)))))) .nil))) (.cons (.var 6) (.cons (.tup (.cons (.int 10) (.cons (.tup (.cons (.int 1) (.cons (.int 2) (.cons (.int 3) (.cons (.int 4) (.cons (.int 8) .nil)))))) .nil))) .nil)))))))) (.cons (.set (.n 8) (.nl false (.disp (.cons (.tup (.cons (.tup (.cons (.int 10) (.cons (.tup (.cons (.int 0) (.cons (.int 1) (.cons (.int 5) .nil)))) .nil))) (.cons (.tup (.cons (.int 10) (.cons (.tup (.cons (.int 3) (.cons (.int 8) (.cons (.int 9) .nil)))) .nil))) .nil))) (.cons (.tup (.cons (.tup (.cons (.int 10) (.cons (.tup (.cons (.int 0) (.cons (.int 1) .nil))) .nil))) (.cons (.tup (.cons (.int 10) (.cons (.tup (.cons (.int 0) (.cons (.int 2) .nil))) .nil))) .nil))) (.cons (.tup (.cons (.var 6) (.cons (.var 6) .nil))) .nil)))))) (.cons (.set (.n 8) (.bin .add (.var 8) (.nl false (.disp (.cons (.tup (.cons (.tup (.cons (.int 4) (.cons (.tup .nil) .nil))) (.cons (.tup (.cons (.int 4) (.cons (.tup .nil) .nil))) .nil))) (.cons (.tup (.cons (.tup (.cons (.int 6) (.cons (.tup (.cons (.int 0) (.cons (.int 3) .nil))) .nil))) (.cons (.tup (.cons (.int 6) (.cons (.tup (.cons (.int 1) (.cons (.int 4) .nil))) .nil))) .nil))) .nil)))))) (.cons (.set (.n 8) (.bin .add (.var 8) (.nl false (.disp (.cons (.tup (.cons (.tup (.cons (.int 6) (.cons (.tup (.cons (.int 0) .nil)) .nil))) (.cons (.tup (.cons (.int 6) (.cons (.tup (.cons (.int 5) .nil)) .nil))) .nil))) (.cons (.tup (.cons (.tup (.cons (.int 6) (.cons (.tup (.cons (.int 0) (.cons (.int 1) (.cons (.int 3) .nil)))) .nil))) (.cons (.tup (.cons (.int 6) (.cons (.tup (.cons (.int 0) (.cons (.int 2) (.cons (.int 3) .nil)))) .nil))) .nil))) .nil)))))) (.cons (.set (.n 1) (.bin .add (.var 1) (.nl false (.lc [2, 5] (.t [(.n 2), (.n 5)]) (.ex (.var 8)) .no (.cal 4 (.cons (.var 2) (.cons (.var 5) .nil))))))) (.cons (.set (.n 3) (.bin .add (.var 3) (.nl false (.disp (.cons (.int 8) (.cons .non (.cons (.int 0) (.cons (.int 0) (.cons (.int 1) (.cons (.int 5) (.cons .non .nil))))))))))) (.cons (.set (.n 1) (.bin .add (.var 1) (.nl false (.disp (.cons (.calk 2 .nil (.cons 0 (.nl false (.disp (.cons (.int 6) (.cons (.nl false (.disp (.cons (.int 0) (.cons (.int 5) .nil)))) .nil)))) .nil)) (.cons (.calk 3 .nil (.cons 1 (.nl false (.disp (.cons (.nl false (.disp (.cons (.int 5) (.cons (.int 2) .nil)))) .nil))) (.cons 0 (.int 6) .nil))) (.cons (.calk 1 .nil (.cons 1 (.int 1) (.cons 0 (.nl false (.disp (.cons (.int 3) (.cons (.nl false (.disp (.cons (.int 2) .nil))) .nil)))) .nil))) .nil))))))) (.cons (.set (.n 1) (.bin .add (.var 1) (.nl false (.disp (.cons (.calk 4 .nil (.cons 1 (.nl false (.disp (.cons (.int 3) (.cons (.nl false (.disp (.cons (.int 1) .nil))) .nil)))) (.cons 0 (.nl false (.disp (.cons (.int 3) (.cons (.nl false (.disp (.cons (.int 0) .nil))) .nil)))) .nil))) .nil))))) (.cons (.ret (.cal 9 (.cons (.var 1) (.cons (.bin .add (.var 3) (.nl false (.disp (.cons (.tup (.cons (.tup (.cons (.int 5) (.cons (.int 2) .nil))) .nil)) (.cons (.tup (.cons (.int 6) (.cons (.tup (.cons (.int 0) (.cons (.int 5) .nil))) .nil))) (.cons (.tup (.cons (.int 3) (.cons (.tup (.cons (.int 0) .nil)) .nil))) (.cons (.int 1) .nil))))))) .nil)))) .nil)))))))))))))))))))))⟩
def N13 : List PySem.Str := ["_law_lot_so", "_law_by_so", "_law_own"]
/-- _law_moved -/
def d13 : DI.Fn := ⟨["_law_lot_so", "_law_by_so"], 3, (.cons (.ret (.tup (.cons (.idx (.var 0) (.int 0)) (.cons (.bi .tuple (.cons (.nl false (.srt (.nl false (.lc [2] (.n 2) (.ex (.idx (.var 0) (.int 1))) .no (.bin .mod (.bin .add (.var 2) (.var 1)) (.idx (.var 0) (.int 0))))))) .nil)) .nil)))) .nil)⟩
def N14 : List PySem.Str := ["_law_box_here", "_law_turn", "_law_lot_so", "_law_by_so", "_law_modulus_so", "_law_some_so", "_law_far", "_law_rows_so", "_law_seen", "_law_first_so", "_law_many_so", "_law_k", "_law_ends_so", "_law_own", "_law_fine", "_law_got", "_law_other_so"]
def b14_0 : DI.Sms := (.cons (.set (.n 8) (.bin .add (.var 8) (.nl false (.lc [11] (.n 11) (.r1 (.var 10)) .no (.bin .mod (.bin .add (.var 9) (.var 11)) (.var 4)))))) (.cons (.set (.n 12) (.nl false (.disp (.cons (.bin .mod (.bin .sub (.var 9) (.int 1)) (.var 4)) (.cons (.bin .mod (.bin .add (.var 9) (.var 10)) (.var 4)) .nil))))) (.cons (.ite (.and (.cmp .lt (.bi .len (.cons (.var 5) .nil)) (.var 4)) (.cmp .ne (.nl false (.lc [13] (.n 13) (.ex (.var 12)) (.yes (.cmp .mem (.var 13) (.var 5))) (.var 13))) (.nl false (.disp .nil)))) (.cons (.ret (.bl false)) .nil) .nil) .nil)))
def b14_1 : DI.Sms := (.cons (.set (.t [(.n 2), (.n 3)]) (.tup (.cons (.cal 11 (.cons (.var 0) (.cons (.int 40) .nil))) (.cons (.cal 6 (.cons (.var 0) (.cons (.int 90) .nil))) .nil)))) (.cons (.set (.t [(.n 4), (.n 5)]) (.var 2)) (.cons (.set (.n 6) (.cal 13 (.cons (.var 2) (.cons (.var 3) .nil)))) (.cons (.set (.n 7) (.cal 2 (.cons (.var 2) .nil))) (.cons (.set (.n 8) (.nl false (.disp .nil))) (.cons (.fr (.t [(.n 9), (.n 10)]) (.ex (.ite (.bi (.isi [.tuple]) (.cons (.var 7) .nil)) (.var 7) (.tup .nil))) b14_0) (.cons (.ite (.or (.cmp .ne (.nl false (.srt (.var 8))) (.nl false (.ofs (.var 5)))) (.cmp .ne (.nl false (.ofs (.var 7))) (.nl false (.srt (.var 7))))) (.cons (.ret (.bl false)) .nil) .nil) (.cons (.ite (.cmp .ne (.cmp .eq (.bi .len (.cons (.var 5) .nil)) (.var 4)) (.cmp .eq (.var 7) (.tup (.cons (.tup (.cons (.int 0) (.cons (.var 4) .nil))) .nil)))) (.cons (.ret (.bl false)) .nil) .nil) (.cons (.set (.n 14) (.nl false (.lc [11] (.n 11) (.r1 (.var 4)) (.yes (.cmp .eq (.cal 13 (.cons (.var 2) (.cons (.var 11) .nil))) (.var 6))) (.var 11)))) (.cons (.set (.n 15) (.nl false (.disp (.cons (.cal 3 (.cons (.var 4) (.cons (.var 7) .nil))) (.cons (.cal 1 (.cons (.var 2) (.cons (.var 3) .nil))) (.cons (.cal 4 (.cons (.var 2) (.cons (.var 6) .nil))) .nil)))))) (.cons (.ite (.nt (.cal 9 (.cons (.var 15) (.cons (.nl false (.disp (.cons (.var 2) (.cons (.var 6) (.cons (.idx (.var 14) (.int 0)) .nil))))) .nil)))) (.cons (.ret (.bl false)) .nil) .nil) (.cons (.set (.n 16) (.tup (.cons (.var 4) (.cons (.cal 10 (.cons (.var 0) (.cons (.var 4) .nil))) .nil)))) (.cons (.set (.n 14) (.nl false (.lc [11] (.n 11) (.r1 (.var 4)) (.yes (.cmp .eq (.cal 13 (.cons (.var 2) (.cons (.var 11) .nil))) (.var 16))) (.var 11)))) (.cons (.ite (.nt (.cal 9 (.cons (.cal 4 (.cons (.var 2) (.cons (.var 16) .nil))) (.cons (.ite (.cmp .ne (.var 14) (.nl false (.disp .nil))) (.idx (.var 14) (.int 0)) .non) .nil)))) (.cons (.ret (.bl false)) .nil) .nil) .nil))))))))))))))
/-- _law_right -/
def d14 : DI.Fn := ⟨["_law_box_here"], 17, (.cons (.fr (.n 1) (.r1 (.int 12)) b14_1) (.cons (.ret (.bl true)) .nil))⟩
def N15 : List PySem.Str := ["_law_script", "_law_cells_so", "_law_k"]
/-- law -/
def d15 : DI.Fn := ⟨["_law_script"], 3, (.cons (.set (.n 1) (.cal 7 (.cons (.var 0) (.cons (.int 3) .nil)))) (.cons (.ite (.nt (.cal 12 .nil)) (.cons (.ret (.bl false)) .nil) .nil) (.cons (.ret (.bi .all (.cons (.nl false (.lc [2] (.n 2) (.r1 (.bi .len (.cons (.var 1) .nil))) .no (.cal 14 (.cons (.cal 5 (.cons (.var 1) (.cons (.var 2) .nil))) .nil)))) .nil))) .nil)))⟩
def cs : List DI.CEnt := []
def tbl : List (PySem.Str × DI.Fn) := ([("set_of", d0), ("turned", d1), ("stretches", d2), ("lot_of", d3), ("turn_to", d4), ("_law_box", d5), ("_law_take", d6), ("_law_cells", d7), ("_law_of", d8), ("_law_same", d9), ("_law_buckets", d10), ("_law_lot", d11), ("_law_by_hand_right", d12), ("_law_moved", d13), ("_law_right", d14), ("law", d15)] : List (PySem.Str × DI.Fn))
def P : DI.Pg := DI.mkPg tbl cs 100000
theorem P_0 : P.fns 0 = some d0 := rfl
theorem P_1 : P.fns 1 = some d1 := rfl
theorem P_2 : P.fns 2 = some d2 := rfl
theorem P_3 : P.fns 3 = some d3 := rfl
theorem P_4 : P.fns 4 = some d4 := rfl
theorem P_5 : P.fns 5 = some d5 := rfl
theorem P_6 : P.fns 6 = some d6 := rfl
theorem P_7 : P.fns 7 = some d7 := rfl
theorem P_8 : P.fns 8 = some d8 := rfl
theorem P_9 : P.fns 9 = some d9 := rfl
theorem P_10 : P.fns 10 = some d10 := rfl
theorem P_11 : P.fns 11 = some d11 := rfl
theorem P_12 : P.fns 12 = some d12 := rfl
theorem P_13 : P.fns 13 = some d13 := rfl
theorem P_14 : P.fns 14 = some d14 := rfl
theorem P_15 : P.fns 15 = some d15 := rfl
end K10
namespace K10
open DI
theorem ix30 {a b c : Val} : ixAt [a, b, c] (0 : Int) = some a ∧ ixAt [a, b, c] (1 : Int) = some b ∧ ixAt [a, b, c] (2 : Int) = some c := ⟨rfl, rfl, rfl⟩
theorem take_old (k : Nat) {S : Store} {n : Nat} {d size : Int} (hb : BoxAt S n d) (h1 : 0 < size) (h2 : size < 1073741824) (hd : d < 4611686018427387904) :
    Draws S n (d + 1) (run P (k + 1) 6 [.loc n, .int size] S) (fun v => ∃ r : Int, v = .int r ∧ 0 ≤ r ∧ r < size) := by
  obtain ⟨a, b, c, h, hc, hc2⟩ := hb
  have i0 : opIdx (.loc n) (.int 0) S = .ok (.int a) S := idx_loc h rfl
  have i1 : opIdx (.loc n) (.int 1) S = .ok (.int b) S := idx_loc h rfl
  have i2 : opIdx (.loc n) (.int 2) S = .ok (.int c) S := idx_loc h rfl
  by_cases ha : 0 < a
  · have s0 : opSetS (.loc n) (.int 0) (.int (a / size)) S = .ok () (S.set n (boxOb (a / size) b c)) := set_loc h (by decide) (by simp)
    refine ⟨.int (a % size), a / size, b, c, ?_, hc, by omega, _, rfl, Int.emod_nonneg _ (by omega), Int.emod_lt_of_pos _ h1⟩
    simp -implicitDefEqProofs [run, exes, exe, ev, evs, evk, evo, evn, evc, evi, setT, setTs, setAll, wipeS, start0, Out.nox_ok, P_6, d6, i0, i1, i2, ha, mod_ints S h1, fdiv_ints S h1 h2, s0]
    exact fin_set rfl (boxOb_bel _ _ _ _)
  · have s2 : opSetS (.loc n) (.int 2) (.int (c + 1)) S = .ok () (S.set n (boxOb a b (c + 1))) := set_loc h (by decide) (by simp)
    generalize hS1 : S.set n (boxOb a b (c + 1)) = S1 at s2
    have h' : S1[n]? = some (.lst [.int a, .int b, .int (c + 1)]) := by rw [← hS1]; exact get_set h
    have j1 : opIdx (.loc n) (.int 1) S1 = .ok (.int b) S1 := idx_loc h' rfl
    have j2 : opIdx (.loc n) (.int 2) S1 = .ok (.int (c + 1)) S1 := idx_loc h' rfl
    have m1 : binop .mul (.int 48271) (.int (c + 1)) S1 = .ok (.int (48271 * (c + 1))) S1 := mul_ints S1 (by omega)
    have m2 : binop .mul (.int (b + 48271 * (c + 1))) (.int (39373 + (c + 1))) S1 = .ok (.int ((b + 48271 * (c + 1)) * (39373 + (c + 1)))) S1 := mul_ints S1 (by omega)
    generalize hon : (b + 48271 * (c + 1)) * (39373 + (c + 1)) % 2147483647 = once
    have m3 : ∀ x : Int, binop .mul (.int x) (.int (once % 40009 + 7)) S1 = .ok (.int (x * (once % 40009 + 7))) S1 := fun x => mul_ints S1 (by omega)
    have m4 : ∀ x : Int, binop .mul (.int x) (.int 48271) S1 = .ok (.int (x * 48271)) S1 := fun x => mul_ints S1 (by omega)
    have q1 : ∀ x : Int, binop .mod (.int x) (.int 2147483647) S1 = .ok (.int (x % 2147483647)) S1 := fun x => mod_ints S1 (by decide)
    have q2 : ∀ x : Int, binop .mod (.int x) (.int 40009) S1 = .ok (.int (x % 40009)) S1 := fun x => mod_ints S1 (by decide)
    have q3 : ∀ x : Int, binop .mod (.int x) (.int 2147483629) S1 = .ok (.int (x % 2147483629)) S1 := fun x => mod_ints S1 (by decide)
    have q4 : ∀ x : Int, binop .mod (.int x) (.int 2147483587) S1 = .ok (.int (x % 2147483587)) S1 := fun x => mod_ints S1 (by decide)
    have f1 : ∀ x : Int, binop .fdiv (.int x) (.int 1000003) S1 = .ok (.int (x / 1000003)) S1 := fun x => fdiv_ints S1 (by decide) (by decide)
    have f2 : ∀ x : Int, binop .fdiv (.int x) (.int 64) S1 = .ok (.int (x / 64)) S1 := fun x => fdiv_ints S1 (by decide) (by decide)
    have e : ∃ x : Int, run P (k + 1) 6 [.loc n, .int size] S = .ok (.int (x % size)) S1 := by
      refine ⟨(((once + (c + 1) + b / 1000003) * (once % 40009 + 7) % 2147483629 * 48271 + once) % 2147483587 / 64), ?_⟩
      · simp -implicitDefEqProofs [run, exes, exe, ev, evs, evk, evo, evn, evc, evi, setT, setTs, setAll, wipeS, start0, Out.nox_ok, P_6, d6, i0, i1, i2, ha, s2, j1, j2, m1, m2, q1, hon, q2, m3, f1, q3, m4, q4, f2, mod_ints S1 h1]
        rw [← hS1]
        exact fin_set rfl (boxOb_bel _ _ _ _)
    obtain ⟨x, e1⟩ := e
    exact ⟨.int (x % size), a, b, c + 1, by rw [hS1]; exact e1, by omega, by omega, _, rfl, Int.emod_nonneg _ (by omega), Int.emod_lt_of_pos _ h1⟩
theorem take_ok (k : Nat) {S T : Store} {β : Box} {size : Nat} (h1 : 0 < size) (h2 : size < 1073741824) (hl : β.lim < 1000000000000) :
    Dw S T β 1 (run P (k + 1) 6 [.loc S.length, vn size] (S ++ boxV β :: T)) fun v => ∃ r, v = vn r ∧ r < size := by
  obtain ⟨v, a, b, c0, e, g0, g1, r, rfl, r0, r1⟩ := take_old k (S := S ++ boxV β :: T) (n := S.length) (d := β.lim) (size := size) ⟨β.a, β.b, β.c, get_box, β.h0, β.h1⟩ (by omega) (by omega) (by omega)
  refine ⟨.int r, ⟨a, b, c0, β.lim + 1, g0, by omega⟩, ?_, Nat.le_refl _, r.toNat, ?_, by omega⟩
  · have e2 : (S ++ boxV β :: T).set S.length (boxOb a b c0) = S ++ boxOb a b c0 :: T := by simp
    rw [e2] at e
    exact e
  · unfold vn
    rw [Int.toNat_of_nonneg r0]
theorem box_ok (k : Nat) {S : Store} (cs : List Int) (j : Nat) (hj : j < cs.length) (hl : cs.length ≤ 1000) : ∃ a b : Int, run P (k + 1) 5 [.lst (cs.map Val.int), .int j] S = .ok (.loc S.length) (S ++ [boxOb a b 0]) := by
  have hj2 : j < (cs.map Val.int).length := by simpa using hj
  have ix := idx_lst (S := S) (ixAt_nat hj2)
  rw [List.getElem_map] at ix
  generalize cs[j] = c at ix
  have hlt : (decide ((j : Int) < ((cs.map Val.int).length : Int))) = true := by simpa using hj
  have p1 := pow_ints S (i := 10) (j := 18) (by decide) (by decide) (by decide)
  have m1 : ∀ (x : Int) (b : Bool), binop .mul (.int x) (.int (if b then 1 else 0)) S = .ok (.int (x * (if b then 1 else 0))) S := fun x b => mul_ints S (by cases b <;> simp)
  have q1 : binop .mod (.int c) (.int 2305843009213693951) S = .ok (.int (c % 2305843009213693951)) S := mod_ints S (by decide)
  have m2 : binop .mul (.int 39373) (.int (j : Int)) S = .ok (.int (39373 * j)) S := mul_ints S (by omega)
  have fl : ∀ x y : Int, fin S (.loc S.length) (S ++ [boxOb x y 0]) = .ok (.loc S.length) (S ++ [boxOb x y 0]) := fun x y => by
    simp [fin, Val.bel]
  refine ⟨(if c < 0 then -c else c) * (if (decide ((10 : Int) ^ (18 : Int).toNat ≤ if c < 0 then -c else c)) = true then 1 else 0), c % 2305843009213693951 + 39373 * j + 92510, ?_⟩
  rw [← fl]
  simp -implicitDefEqProofs only [run, exes, exe, ev, evs, evk, evo, evn, evc, evi, setT, setTs, setAll, wipeS, start0, Out.nox_ok, P_5, d5, List.length_cons, List.length_nil, List.map_cons, List.map_nil, List.cons_append, List.nil_append, Out.bind_ok, Nat.reduceAdd, Nat.reduceSub, List.replicate, List.getElem?_cons_zero, List.getElem?_cons_succ, List.set_cons_zero, List.set_cons_succ, ↓reduceIte, len_lst, lt_ints, hlt, tru_bl, ix, abs_int, p1, ge_ints, int_bl, m1, int_int, q1, m2, add_ints, mx_3, ret_rt]
  rfl
/-- the tail of the script, folded into the head -/
theorem cells_loop (k : Nat) (sv : Val) (L : Nat) : ∀ (l : List Val) (cs : List Int) (S : Store) (o3 o4 o5 : Option Val), (l = [] ∨ cs.length = 3) → S[L]? = some (.lst (cs.map Val.int)) → (∀ v ∈ l, ∃ (i : Nat) (c : Int), v = .tup [.int i, .int c] ∧ i < 1000) →
    ∃ (cs' : List Int) (o3' o4' o5' : Option Val), cs'.length = cs.length ∧ forL (fun x r1 S2 => match (match items S2 x with
      | some xs => setTs [Tg.n 3, Tg.n 4] xs r1 S2
      | none => none) with
    | some r2 => exes P (run P k) b7_0 r2 S2
    | none => Out.bad) l [some sv, some (.int 3), some (.loc L), o3, o4, o5] S = .ok (.nx, [some sv, some (.int 3), some (.loc L), o3', o4', o5']) (S.set L (.lst (cs'.map Val.int)))
  | [], cs, S, o3, o4, o5, h0, hS, _ => ⟨cs, o3, o4, o5, rfl, by
    obtain ⟨hn, e2⟩ := List.getElem?_eq_some_iff.mp hS
    rw [← e2, List.set_getElem_self hn]
    rfl⟩
  | v :: l, cs, S, o3, o4, o5, h0, hS, hl => by
    obtain ⟨i, c, rfl, hi⟩ := hl v (by simp)
    have h3 : cs.length = 3 := h0.resolve_left (by simp)
    have q0 : 0 ≤ (i : Int) % 3 := Int.emod_nonneg _ (by decide)
    have q1 : (i : Int) % 3 < 3 := Int.emod_lt_of_pos _ (by decide)
    have em : ∀ S : Store, binop .mod (.int (i : Int)) (.int 3) S = .ok (.int ((i : Int) % 3)) S := fun S => mod_ints S (by decide)
    have mm : ∀ S : Store, binop .mul (.int c) (.int ((i : Int) + 2)) S = .ok (.int (c * ((i : Int) + 2))) S := fun S => mul_ints S (by omega)
    have hj : ((i : Int) % 3).toNat < (cs.map Val.int).length := by rw [List.length_map]; omega
    have ei : (((((i : Int) % 3).toNat : Nat)) : Int) = (i : Int) % 3 := by omega
    have ix := idx_loc (i := (i : Int) % 3) hS (by rw [← ei]; exact ixAt_nat hj)
    rw [List.getElem_map] at ix
    generalize hz : cs[((i : Int) % 3).toNat]'(by simpa using hj) = z at ix
    have st := set_loc (i := (i : Int) % 3) (v := .int (z + c * ((i : Int) + 2))) hS q0 (by rw [List.length_map]; omega)
    have hS' := get_set (p := .lst ((cs.set ((i : Int) % 3).toNat (z + c * ((i : Int) + 2))).map Val.int)) hS
    obtain ⟨cs', p3, p4, p5, hlen, e⟩ := cells_loop k sv L l (cs.set ((i : Int) % 3).toNat (z + c * ((i : Int) + 2))) (S.set L (.lst ((cs.set ((i : Int) % 3).toNat (z + c * ((i : Int) + 2))).map Val.int))) (some (.int i)) (some (.int c)) (some (.int ((i : Int) % 3)))
      (.inr (by rw [List.length_set]; exact h3)) hS' fun w hw => hl w (by simp [hw])
    refine ⟨cs', p3, p4, p5, by rw [hlen, List.length_set], ?_⟩
    rw [List.set_set] at e
    rw [List.map_set] at e
    rw [forL, ← e]
    simp -implicitDefEqProofs [run, exes, exe, ev, evs, evk, evo, evn, evc, evi, setT, setTs, setAll, wipeS, start0, Out.nox_ok, b7_0, em, mm, ix, st]
theorem cut_map (ns : List Int) (lo hi : Option Int) : cut (ns.map Val.int) lo hi = (cut ns lo hi).map Val.int := by
  unfold cut
  rw [List.length_map, List.map_take, List.map_drop]
theorem enum_ints {l : List Int} (hl : l.length < 1000) : ∀ v ∈ enumIts (l.map Val.int), ∃ (i : Nat) (c : Int), v = .tup [.int i, .int c] ∧ i < 1000 := by
  intro v hv
  obtain ⟨i, hi⟩ := List.mem_iff_getElem?.mp hv
  unfold enumIts at hi
  rw [List.getElem?_mapIdx, List.getElem?_map] at hi
  cases e : l[i]? with
  | none => rw [e] at hi; cases hi
  | some c =>
    rw [e] at hi
    have h2 := (List.getElem?_eq_some_iff.mp e).1
    exact ⟨i, c, by simpa using hi.symm, by omega⟩
theorem cells_ok (k : Nat) (S : Store) (ns : List Int) (hn : ns.length ≤ 63) : ∃ cs : List Int, 0 < cs.length ∧ cs.length ≤ 3 ∧ run P (k + 1) 7 [.scr ns, .int 3] S = .ok (.lst (cs.map Val.int)) S := by
  have hB : (cut ns (some 3) (some 63)).length < 1000 := by
    unfold cut
    rw [List.length_take, List.length_drop]
    omega
  have hA : (cut ns none (some 3)).length = min 3 ns.length := by
    unfold cut
    simp [cutIx]
  have hAB : cut ns (some 3) (some 63) = [] ∨ (cut ns none (some 3)).length = 3 := by
    by_cases h : ns.length ≤ 3
    · left
      unfold cut
      simp [cutIx]
      right
      omega
    · right
      rw [hA]
      omega
  have hE := enum_ints hB
  have hE0 : cut ns (some 3) (some 63) = [] → enumIts ((cut ns (some 3) (some 63)).map Val.int) = [] := fun h => by rw [h]; rfl
  by_cases h0 : ns = []
  · subst h0
    have g1 : (S ++ [Ob.lst []] ++ [Ob.lst [Val.int 0]])[S.length + 1]? = some (.lst (([0] : List Int).map Val.int)) := by simp
    obtain ⟨cs, o3, o4, o5, hlen, e⟩ := cells_loop k (.scr []) (S.length + 1) [] [0] (S ++ [.lst []] ++ [.lst [.int 0]]) none none none (.inl rfl) g1 (by simp)
    have e2 : (S ++ [Ob.lst []] ++ [Ob.lst [Val.int 0]]).set (S.length + 1) (.lst (cs.map Val.int)) = S ++ [.lst [], .lst (cs.map Val.int)] := by simp
    rw [e2] at e
    simp only [List.append_assoc, List.singleton_append] at e
    have e3 : cut ([] : List Val) (some 3) (some 63) = [] := rfl
    have e4 : cut ([] : List Val) none (some 3) = [] := rfl
    have g2 : (S ++ [Ob.lst [], Ob.lst (cs.map Val.int)])[S.length + 1]? = some (.lst (cs.map Val.int)) := by simp
    have e5 : (S ++ [Ob.lst [], Ob.lst (cs.map Val.int)]).set (S.length + 1) .dead = S ++ [.lst [], .dead] := by simp
    have g0 : (S ++ [Ob.lst []])[S.length]? = some (.lst []) := by simp
    have t0 := tru_loc g0
    refine ⟨cs, by rw [hlen]; decide, by rw [hlen]; decide, ?_⟩
    simp -implicitDefEqProofs [run, exes, exe, ev, evs, evk, evo, evn, evc, evi, setT, setTs, setAll, wipeS, start0, Out.nox_ok, P_7, d7, e3, e4, t0, enumIts]
    refine Eq.trans (congrArg (fun o => retOf S (Out.bind o _)) e) ?_
    simp -implicitDefEqProofs [exes, exe, ev, evs, evk, evo, evn, evc, evi, setT, setTs, setAll, wipeS, start0, Out.nox_ok, g2, e5]
    exact fin_more (T := [.lst [], .dead]) (by simp only [Val.pure]; exact pures_ints _)
  · have hpos : 0 < ns.length := List.length_pos_iff.mpr h0
    generalize hcA : cut ns none (some 3) = A at hA hAB
    have g1 : (S ++ [Ob.lst (A.map Val.int)])[S.length]? = some (.lst (A.map Val.int)) := by simp
    obtain ⟨cs, o3, o4, o5, hlen, e⟩ := cells_loop k (.scr ns) S.length (enumIts ((cut ns (some 3) (some 63)).map Val.int)) A (S ++ [.lst (A.map Val.int)]) none none none (hAB.imp hE0 id) g1 hE
    have e2 : (S ++ [Ob.lst (A.map Val.int)]).set S.length (.lst (cs.map Val.int)) = S ++ [.lst (cs.map Val.int)] := by simp
    rw [e2] at e
    have t0 := tru_loc g1
    have hne : (A.map Val.int).isEmpty = false := by
      cases A with
      | nil => simp at hA; omega
      | cons a r => rfl
    rw [hne] at t0
    refine ⟨cs, by omega, by omega, ?_⟩
    simp -implicitDefEqProofs [run, exes, exe, ev, evs, evk, evo, evn, evc, evi, setT, setTs, setAll, wipeS, start0, Out.nox_ok, P_7, d7, cut_map, hcA, t0]
    refine Eq.trans (congrArg (fun o => retOf S (Out.bind o _)) e) ?_
    have g2 : (S ++ [Ob.lst (cs.map Val.int)])[S.length]? = some (.lst (cs.map Val.int)) := by simp
    have e5 : (S ++ [Ob.lst (cs.map Val.int)]).set S.length .dead = S ++ [.dead] := by simp
    simp -implicitDefEqProofs [exes, exe, ev, evs, evk, evo, evn, evc, evi, setT, setTs, setAll, wipeS, start0, Out.nox_ok, g2, e5]
    exact fin_more (T := [.dead]) (by simp only [Val.pure]; exact pures_ints _)
theorem same_seq (k : Nat) (xs : List Val) (hl : xs.length ≤ mx) (ih : ∀ x ∈ xs, ∀ S, run P k 9 [x, x] S = .ok (.bl true) S) (S : Store) : run P (k + 1) 9 [.lst xs, .lst xs] S = .ok (.bl true) S ∧ run P (k + 1) 9 [.tup xs, .tup xs] S = .ok (.bl true) S := by
  have hl : xs.length ≤ 16777216 := hl
  refine ⟨?_, ?_⟩
  · rw [run_eq P_9 rfl]
    simp -implicitDefEqProofs -dsimp (disch := (first | (simp -implicitDefEqProofs only [all_tt, pures_map, pures_app, frV_pure, pure_vn, pure_sq, pure_bl, pure_int, pure_non, pure_str, pure_tup, pure_lst, pures_nil, pures_cons, Bool.and_true, Bool.true_and, Bool.and_self]; done) | omega | (apply LenLe.ok; (focus (with_reducible (repeat (first | apply LenLe.map | apply LenLe.filter | apply LenLe.srt | apply LenLe.sst | apply LenLe.rev | apply LenLe.cons | apply LenLe.append | exact LenLe.range _ | exact LenLe.rep _ _ | exact LenLe.nil | exact LenLe.bl1 _ _ | exact LenLe.self _)))); omega) | (simp -implicitDefEqProofs only [List.length_cons, List.length_nil, List.length_map, List.length_range, List.length_replicate, List.length_append]; omega) | assumption)) only [ev_nat, ev_var, ev_glo, gloV_nat, gloV_str, ev_bl, ev_non, ev_str, ev_bin, ev_cmp, ev_chn, ev_neg, ev_nt, ev_and, ev_or, ev_ite, ev_tup, ev_idx, ev_slc, ev_cal, ev_calk, ev_bi, ev_mth, ev_nl, ev_frz, ev_tupR, ev_lens, ev_minD, ev_bk, bkV_tup, bkV_lst, ← List.map_reverse, List.reverse_cons, List.reverse_nil, evn_lc2, keepL_t, compLL_G, cmpLM_range, cmpLR_all, cmpLM_all, evs_nil, evs_cons, evs_star, starV_some, revV_lst, evk_nil, evk_cons, evo_no, evo_yes, evn_disp, evn_ofs, evn_cat, evn_mul, evn_rng, evn_srt, evn_sst, evn_srtr, evn_rev, evn_lc, evc_no, evc_yes, evi_ex, evi_r1, evi_r2, evi_r3, evi_en, evi_zp, setT_n, setT_t, setTV_some, setTs_nil, setTs_cons, setTC_some, exe_set, exe_par, exe_setS, exe_augS, augSG_loc, exe_aug, augG_some, exe_ex, exe_ret, exe_retN, exe_ite, exe_whl, exe_fr, exe_fz, whlG_nx, exe_pass, exe_brk, exe_cnt, exes_nil, exes_cons, ↓seqV_nx, ↓seqV_rt, ↓seqV_bk, ↓seqV_ct, tgV_some, varV_some, chnV_bl, keepC_t, keepC_p, keepC_n, optV_n, optV_i, zpV_tt, zpV_ll, zip_map, cutT, cutL, itV_tup, itV_lst, itV_sq, enV_tup, enV_lst, enV_sq, nlV_f, nlV_t, augV_n, setAll, wipeS, start0, Out.nox_ok, bd_ok, bd_exn, bd_assoc, ↓reduceIte, decide_true, decide_false, Bool.false_eq_true, List.getElem?_cons_zero, List.getElem?_cons_succ, List.set_cons_zero, List.set_cons_succ, List.length_cons, List.length_nil, List.map_cons, List.map_nil, List.append_nil, List.nil_append, List.cons_append, List.replicate_zero, List.replicate_succ, Nat.sub_self, Nat.reduceSub, Nat.reduceAdd, Nat.reduceLeDiff, Nat.reduceLT, ret_rt, ret_nx, tru_bl, q_add, q_mod, q_fdiv, q_mul, q_sub, q_lt, q_le, q_gt, q_ge, q_eq, q_ne, q_abs, q_int, q_tru, q_isi, q_len_tup, q_len_lst, q_len_sq, items_tup, items_lst, items_sq, q_tup_sq, tuple_lst, tuple_tup, rng1V_n, rng2V_n, compL_G, cmpM_range, cmpM_all, cmpM_if, cmpM_none, cmpR_all, cmpR_if, cmpR_none, compL_nil, pures_map, pure_vn, pure_sq, fin_pure, mem_tup, mem_lst, mem_sq, eq_bls, ne_bls, isn_non, isn_int, isn_bl, isn_tup, isn_lst, isi_tup, isi_lst, isi_bl, isi_str, isi_non, lenV_ok, tupV_ok, ofsV_tup, ofsV_lst, ofsV_sq, catV2_l, bin_cat, mulV2_1, idxt_n, idxl_n, idxs_n, List.getD_cons_zero, List.getD_cons_succ, idx_last, set_lastN, app_last, mthV_last, frzV_last, fzV_last, len_last, tru_last, ofs_last, fin_dead, int_blN, mul1_b, mul1_n, mem_bls, nmem_bls, nmem_tup, nmem_lst, nmem_sq, rng3V_n, cut_nat, cut_to, cut_from, eq_tn, eq_ln, eq_lot, eq_lnil_v, ne_lnil_v, eq_lnil_n, ne_lnil_n, Bool.decide_eq_true, ne_lot, ne_tn, all_bl, any_bl, d9, List.any_cons, List.any_nil, kdB, Bool.or_false, Bool.or_true, Bool.true_or, Bool.false_or, beq_self_eq_true, bne_self_eq_false, Bool.not_true, Bool.not_false, zip_self, ih, all_tt]
  · rw [run_eq P_9 rfl]
    simp -implicitDefEqProofs -dsimp (disch := (first | (simp -implicitDefEqProofs only [all_tt, pures_map, pures_app, frV_pure, pure_vn, pure_sq, pure_bl, pure_int, pure_non, pure_str, pure_tup, pure_lst, pures_nil, pures_cons, Bool.and_true, Bool.true_and, Bool.and_self]; done) | omega | (apply LenLe.ok; (focus (with_reducible (repeat (first | apply LenLe.map | apply LenLe.filter | apply LenLe.srt | apply LenLe.sst | apply LenLe.rev | apply LenLe.cons | apply LenLe.append | exact LenLe.range _ | exact LenLe.rep _ _ | exact LenLe.nil | exact LenLe.bl1 _ _ | exact LenLe.self _)))); omega) | (simp -implicitDefEqProofs only [List.length_cons, List.length_nil, List.length_map, List.length_range, List.length_replicate, List.length_append]; omega) | assumption)) only [ev_nat, ev_var, ev_glo, gloV_nat, gloV_str, ev_bl, ev_non, ev_str, ev_bin, ev_cmp, ev_chn, ev_neg, ev_nt, ev_and, ev_or, ev_ite, ev_tup, ev_idx, ev_slc, ev_cal, ev_calk, ev_bi, ev_mth, ev_nl, ev_frz, ev_tupR, ev_lens, ev_minD, ev_bk, bkV_tup, bkV_lst, ← List.map_reverse, List.reverse_cons, List.reverse_nil, evn_lc2, keepL_t, compLL_G, cmpLM_range, cmpLR_all, cmpLM_all, evs_nil, evs_cons, evs_star, starV_some, revV_lst, evk_nil, evk_cons, evo_no, evo_yes, evn_disp, evn_ofs, evn_cat, evn_mul, evn_rng, evn_srt, evn_sst, evn_srtr, evn_rev, evn_lc, evc_no, evc_yes, evi_ex, evi_r1, evi_r2, evi_r3, evi_en, evi_zp, setT_n, setT_t, setTV_some, setTs_nil, setTs_cons, setTC_some, exe_set, exe_par, exe_setS, exe_augS, augSG_loc, exe_aug, augG_some, exe_ex, exe_ret, exe_retN, exe_ite, exe_whl, exe_fr, exe_fz, whlG_nx, exe_pass, exe_brk, exe_cnt, exes_nil, exes_cons, ↓seqV_nx, ↓seqV_rt, ↓seqV_bk, ↓seqV_ct, tgV_some, varV_some, chnV_bl, keepC_t, keepC_p, keepC_n, optV_n, optV_i, zpV_tt, zpV_ll, zip_map, cutT, cutL, itV_tup, itV_lst, itV_sq, enV_tup, enV_lst, enV_sq, nlV_f, nlV_t, augV_n, setAll, wipeS, start0, Out.nox_ok, bd_ok, bd_exn, bd_assoc, ↓reduceIte, decide_true, decide_false, Bool.false_eq_true, List.getElem?_cons_zero, List.getElem?_cons_succ, List.set_cons_zero, List.set_cons_succ, List.length_cons, List.length_nil, List.map_cons, List.map_nil, List.append_nil, List.nil_append, List.cons_append, List.replicate_zero, List.replicate_succ, Nat.sub_self, Nat.reduceSub, Nat.reduceAdd, Nat.reduceLeDiff, Nat.reduceLT, ret_rt, ret_nx, tru_bl, q_add, q_mod, q_fdiv, q_mul, q_sub, q_lt, q_le, q_gt, q_ge, q_eq, q_ne, q_abs, q_int, q_tru, q_isi, q_len_tup, q_len_lst, q_len_sq, items_tup, items_lst, items_sq, q_tup_sq, tuple_lst, tuple_tup, rng1V_n, rng2V_n, compL_G, cmpM_range, cmpM_all, cmpM_if, cmpM_none, cmpR_all, cmpR_if, cmpR_none, compL_nil, pures_map, pure_vn, pure_sq, fin_pure, mem_tup, mem_lst, mem_sq, eq_bls, ne_bls, isn_non, isn_int, isn_bl, isn_tup, isn_lst, isi_tup, isi_lst, isi_bl, isi_str, isi_non, lenV_ok, tupV_ok, ofsV_tup, ofsV_lst, ofsV_sq, catV2_l, bin_cat, mulV2_1, idxt_n, idxl_n, idxs_n, List.getD_cons_zero, List.getD_cons_succ, idx_last, set_lastN, app_last, mthV_last, frzV_last, fzV_last, len_last, tru_last, ofs_last, fin_dead, int_blN, mul1_b, mul1_n, mem_bls, nmem_bls, nmem_tup, nmem_lst, nmem_sq, rng3V_n, cut_nat, cut_to, cut_from, eq_tn, eq_ln, eq_lot, eq_lnil_v, ne_lnil_v, eq_lnil_n, ne_lnil_n, Bool.decide_eq_true, ne_lot, ne_tn, all_bl, any_bl, d9, List.any_cons, List.any_nil, kdB, Bool.or_false, Bool.or_true, Bool.true_or, Bool.false_or, beq_self_eq_true, bne_self_eq_false, Bool.not_true, Bool.not_false, zip_self, ih, all_tt]
theorem same_ok : ∀ (d : Nat) (v : Val), v.dep ≤ d → v.fit = true → ∀ k, d < k → ∀ S, run P k 9 [v, v] S = .ok (.bl true) S := by
  intro d
  induction d with
  | zero =>
    intro v hd hf k hk S
    obtain ⟨k, rfl⟩ : ∃ j, k = j + 1 := ⟨k - 1, by omega⟩
    cases v with
    | lst xs => simp [Val.dep] at hd
    | tup xs => simp [Val.dep] at hd
    | loc n => simp [Val.fit] at hf
    | scr n => simp [Val.fit] at hf
    | str s =>
      have hs : s.all (· < 0x110000) = true := by simpa [Val.fit] using hf
      rw [run_eq P_9 rfl]
      simp -implicitDefEqProofs -dsimp (disch := (first | (simp -implicitDefEqProofs only [all_tt, pures_map, pures_app, frV_pure, pure_vn, pure_sq, pure_bl, pure_int, pure_non, pure_str, pure_tup, pure_lst, pures_nil, pures_cons, Bool.and_true, Bool.true_and, Bool.and_self]; done) | omega | (apply LenLe.ok; (focus (with_reducible (repeat (first | apply LenLe.map | apply LenLe.filter | apply LenLe.srt | apply LenLe.sst | apply LenLe.rev | apply LenLe.cons | apply LenLe.append | exact LenLe.range _ | exact LenLe.rep _ _ | exact LenLe.nil | exact LenLe.bl1 _ _ | exact LenLe.self _)))); omega) | (simp -implicitDefEqProofs only [List.length_cons, List.length_nil, List.length_map, List.length_range, List.length_replicate, List.length_append]; omega) | assumption)) only [ev_nat, ev_var, ev_glo, gloV_nat, gloV_str, ev_bl, ev_non, ev_str, ev_bin, ev_cmp, ev_chn, ev_neg, ev_nt, ev_and, ev_or, ev_ite, ev_tup, ev_idx, ev_slc, ev_cal, ev_calk, ev_bi, ev_mth, ev_nl, ev_frz, ev_tupR, ev_lens, ev_minD, ev_bk, bkV_tup, bkV_lst, ← List.map_reverse, List.reverse_cons, List.reverse_nil, evn_lc2, keepL_t, compLL_G, cmpLM_range, cmpLR_all, cmpLM_all, evs_nil, evs_cons, evs_star, starV_some, revV_lst, evk_nil, evk_cons, evo_no, evo_yes, evn_disp, evn_ofs, evn_cat, evn_mul, evn_rng, evn_srt, evn_sst, evn_srtr, evn_rev, evn_lc, evc_no, evc_yes, evi_ex, evi_r1, evi_r2, evi_r3, evi_en, evi_zp, setT_n, setT_t, setTV_some, setTs_nil, setTs_cons, setTC_some, exe_set, exe_par, exe_setS, exe_augS, augSG_loc, exe_aug, augG_some, exe_ex, exe_ret, exe_retN, exe_ite, exe_whl, exe_fr, exe_fz, whlG_nx, exe_pass, exe_brk, exe_cnt, exes_nil, exes_cons, ↓seqV_nx, ↓seqV_rt, ↓seqV_bk, ↓seqV_ct, tgV_some, varV_some, chnV_bl, keepC_t, keepC_p, keepC_n, optV_n, optV_i, zpV_tt, zpV_ll, zip_map, cutT, cutL, itV_tup, itV_lst, itV_sq, enV_tup, enV_lst, enV_sq, nlV_f, nlV_t, augV_n, setAll, wipeS, start0, Out.nox_ok, bd_ok, bd_exn, bd_assoc, ↓reduceIte, decide_true, decide_false, Bool.false_eq_true, List.getElem?_cons_zero, List.getElem?_cons_succ, List.set_cons_zero, List.set_cons_succ, List.length_cons, List.length_nil, List.map_cons, List.map_nil, List.append_nil, List.nil_append, List.cons_append, List.replicate_zero, List.replicate_succ, Nat.sub_self, Nat.reduceSub, Nat.reduceAdd, Nat.reduceLeDiff, Nat.reduceLT, ret_rt, ret_nx, tru_bl, q_add, q_mod, q_fdiv, q_mul, q_sub, q_lt, q_le, q_gt, q_ge, q_eq, q_ne, q_abs, q_int, q_tru, q_isi, q_len_tup, q_len_lst, q_len_sq, items_tup, items_lst, items_sq, q_tup_sq, tuple_lst, tuple_tup, rng1V_n, rng2V_n, compL_G, cmpM_range, cmpM_all, cmpM_if, cmpM_none, cmpR_all, cmpR_if, cmpR_none, compL_nil, pures_map, pure_vn, pure_sq, fin_pure, mem_tup, mem_lst, mem_sq, eq_bls, ne_bls, isn_non, isn_int, isn_bl, isn_tup, isn_lst, isi_tup, isi_lst, isi_bl, isi_str, isi_non, lenV_ok, tupV_ok, ofsV_tup, ofsV_lst, ofsV_sq, catV2_l, bin_cat, mulV2_1, idxt_n, idxl_n, idxs_n, List.getD_cons_zero, List.getD_cons_succ, idx_last, set_lastN, app_last, mthV_last, frzV_last, fzV_last, len_last, tru_last, ofs_last, fin_dead, int_blN, mul1_b, mul1_n, mem_bls, nmem_bls, nmem_tup, nmem_lst, nmem_sq, rng3V_n, cut_nat, cut_to, cut_from, eq_tn, eq_ln, eq_lot, eq_lnil_v, ne_lnil_v, eq_lnil_n, ne_lnil_n, Bool.decide_eq_true, ne_lot, ne_tn, all_bl, any_bl, d9, List.any_cons, List.any_nil, kdB, Bool.or_false, Bool.or_true, Bool.true_or, Bool.false_or, beq_self_eq_true, bne_self_eq_false, Bool.not_true, Bool.not_false, isn_str, eq_strs S hs hs]
    | int i =>
      rw [run_eq P_9 rfl]
      simp -implicitDefEqProofs -dsimp (disch := (first | (simp -implicitDefEqProofs only [all_tt, pures_map, pures_app, frV_pure, pure_vn, pure_sq, pure_bl, pure_int, pure_non, pure_str, pure_tup, pure_lst, pures_nil, pures_cons, Bool.and_true, Bool.true_and, Bool.and_self]; done) | omega | (apply LenLe.ok; (focus (with_reducible (repeat (first | apply LenLe.map | apply LenLe.filter | apply LenLe.srt | apply LenLe.sst | apply LenLe.rev | apply LenLe.cons | apply LenLe.append | exact LenLe.range _ | exact LenLe.rep _ _ | exact LenLe.nil | exact LenLe.bl1 _ _ | exact LenLe.self _)))); omega) | (simp -implicitDefEqProofs only [List.length_cons, List.length_nil, List.length_map, List.length_range, List.length_replicate, List.length_append]; omega) | assumption)) only [ev_nat, ev_var, ev_glo, gloV_nat, gloV_str, ev_bl, ev_non, ev_str, ev_bin, ev_cmp, ev_chn, ev_neg, ev_nt, ev_and, ev_or, ev_ite, ev_tup, ev_idx, ev_slc, ev_cal, ev_calk, ev_bi, ev_mth, ev_nl, ev_frz, ev_tupR, ev_lens, ev_minD, ev_bk, bkV_tup, bkV_lst, ← List.map_reverse, List.reverse_cons, List.reverse_nil, evn_lc2, keepL_t, compLL_G, cmpLM_range, cmpLR_all, cmpLM_all, evs_nil, evs_cons, evs_star, starV_some, revV_lst, evk_nil, evk_cons, evo_no, evo_yes, evn_disp, evn_ofs, evn_cat, evn_mul, evn_rng, evn_srt, evn_sst, evn_srtr, evn_rev, evn_lc, evc_no, evc_yes, evi_ex, evi_r1, evi_r2, evi_r3, evi_en, evi_zp, setT_n, setT_t, setTV_some, setTs_nil, setTs_cons, setTC_some, exe_set, exe_par, exe_setS, exe_augS, augSG_loc, exe_aug, augG_some, exe_ex, exe_ret, exe_retN, exe_ite, exe_whl, exe_fr, exe_fz, whlG_nx, exe_pass, exe_brk, exe_cnt, exes_nil, exes_cons, ↓seqV_nx, ↓seqV_rt, ↓seqV_bk, ↓seqV_ct, tgV_some, varV_some, chnV_bl, keepC_t, keepC_p, keepC_n, optV_n, optV_i, zpV_tt, zpV_ll, zip_map, cutT, cutL, itV_tup, itV_lst, itV_sq, enV_tup, enV_lst, enV_sq, nlV_f, nlV_t, augV_n, setAll, wipeS, start0, Out.nox_ok, bd_ok, bd_exn, bd_assoc, ↓reduceIte, decide_true, decide_false, Bool.false_eq_true, List.getElem?_cons_zero, List.getElem?_cons_succ, List.set_cons_zero, List.set_cons_succ, List.length_cons, List.length_nil, List.map_cons, List.map_nil, List.append_nil, List.nil_append, List.cons_append, List.replicate_zero, List.replicate_succ, Nat.sub_self, Nat.reduceSub, Nat.reduceAdd, Nat.reduceLeDiff, Nat.reduceLT, ret_rt, ret_nx, tru_bl, q_add, q_mod, q_fdiv, q_mul, q_sub, q_lt, q_le, q_gt, q_ge, q_eq, q_ne, q_abs, q_int, q_tru, q_isi, q_len_tup, q_len_lst, q_len_sq, items_tup, items_lst, items_sq, q_tup_sq, tuple_lst, tuple_tup, rng1V_n, rng2V_n, compL_G, cmpM_range, cmpM_all, cmpM_if, cmpM_none, cmpR_all, cmpR_if, cmpR_none, compL_nil, pures_map, pure_vn, pure_sq, fin_pure, mem_tup, mem_lst, mem_sq, eq_bls, ne_bls, isn_non, isn_int, isn_bl, isn_tup, isn_lst, isi_tup, isi_lst, isi_bl, isi_str, isi_non, lenV_ok, tupV_ok, ofsV_tup, ofsV_lst, ofsV_sq, catV2_l, bin_cat, mulV2_1, idxt_n, idxl_n, idxs_n, List.getD_cons_zero, List.getD_cons_succ, idx_last, set_lastN, app_last, mthV_last, frzV_last, fzV_last, len_last, tru_last, ofs_last, fin_dead, int_blN, mul1_b, mul1_n, mem_bls, nmem_bls, nmem_tup, nmem_lst, nmem_sq, rng3V_n, cut_nat, cut_to, cut_from, eq_tn, eq_ln, eq_lot, eq_lnil_v, ne_lnil_v, eq_lnil_n, ne_lnil_n, Bool.decide_eq_true, ne_lot, ne_tn, all_bl, any_bl, d9, List.any_cons, List.any_nil, kdB, Bool.or_false, Bool.or_true, Bool.true_or, Bool.false_or, beq_self_eq_true, bne_self_eq_false, Bool.not_true, Bool.not_false, eq_ints, isi_int]
    | bl b =>
      rw [run_eq P_9 rfl]
      simp -implicitDefEqProofs -dsimp (disch := (first | (simp -implicitDefEqProofs only [all_tt, pures_map, pures_app, frV_pure, pure_vn, pure_sq, pure_bl, pure_int, pure_non, pure_str, pure_tup, pure_lst, pures_nil, pures_cons, Bool.and_true, Bool.true_and, Bool.and_self]; done) | omega | (apply LenLe.ok; (focus (with_reducible (repeat (first | apply LenLe.map | apply LenLe.filter | apply LenLe.srt | apply LenLe.sst | apply LenLe.rev | apply LenLe.cons | apply LenLe.append | exact LenLe.range _ | exact LenLe.rep _ _ | exact LenLe.nil | exact LenLe.bl1 _ _ | exact LenLe.self _)))); omega) | (simp -implicitDefEqProofs only [List.length_cons, List.length_nil, List.length_map, List.length_range, List.length_replicate, List.length_append]; omega) | assumption)) only [ev_nat, ev_var, ev_glo, gloV_nat, gloV_str, ev_bl, ev_non, ev_str, ev_bin, ev_cmp, ev_chn, ev_neg, ev_nt, ev_and, ev_or, ev_ite, ev_tup, ev_idx, ev_slc, ev_cal, ev_calk, ev_bi, ev_mth, ev_nl, ev_frz, ev_tupR, ev_lens, ev_minD, ev_bk, bkV_tup, bkV_lst, ← List.map_reverse, List.reverse_cons, List.reverse_nil, evn_lc2, keepL_t, compLL_G, cmpLM_range, cmpLR_all, cmpLM_all, evs_nil, evs_cons, evs_star, starV_some, revV_lst, evk_nil, evk_cons, evo_no, evo_yes, evn_disp, evn_ofs, evn_cat, evn_mul, evn_rng, evn_srt, evn_sst, evn_srtr, evn_rev, evn_lc, evc_no, evc_yes, evi_ex, evi_r1, evi_r2, evi_r3, evi_en, evi_zp, setT_n, setT_t, setTV_some, setTs_nil, setTs_cons, setTC_some, exe_set, exe_par, exe_setS, exe_augS, augSG_loc, exe_aug, augG_some, exe_ex, exe_ret, exe_retN, exe_ite, exe_whl, exe_fr, exe_fz, whlG_nx, exe_pass, exe_brk, exe_cnt, exes_nil, exes_cons, ↓seqV_nx, ↓seqV_rt, ↓seqV_bk, ↓seqV_ct, tgV_some, varV_some, chnV_bl, keepC_t, keepC_p, keepC_n, optV_n, optV_i, zpV_tt, zpV_ll, zip_map, cutT, cutL, itV_tup, itV_lst, itV_sq, enV_tup, enV_lst, enV_sq, nlV_f, nlV_t, augV_n, setAll, wipeS, start0, Out.nox_ok, bd_ok, bd_exn, bd_assoc, ↓reduceIte, decide_true, decide_false, Bool.false_eq_true, List.getElem?_cons_zero, List.getElem?_cons_succ, List.set_cons_zero, List.set_cons_succ, List.length_cons, List.length_nil, List.map_cons, List.map_nil, List.append_nil, List.nil_append, List.cons_append, List.replicate_zero, List.replicate_succ, Nat.sub_self, Nat.reduceSub, Nat.reduceAdd, Nat.reduceLeDiff, Nat.reduceLT, ret_rt, ret_nx, tru_bl, q_add, q_mod, q_fdiv, q_mul, q_sub, q_lt, q_le, q_gt, q_ge, q_eq, q_ne, q_abs, q_int, q_tru, q_isi, q_len_tup, q_len_lst, q_len_sq, items_tup, items_lst, items_sq, q_tup_sq, tuple_lst, tuple_tup, rng1V_n, rng2V_n, compL_G, cmpM_range, cmpM_all, cmpM_if, cmpM_none, cmpR_all, cmpR_if, cmpR_none, compL_nil, pures_map, pure_vn, pure_sq, fin_pure, mem_tup, mem_lst, mem_sq, eq_bls, ne_bls, isn_non, isn_int, isn_bl, isn_tup, isn_lst, isi_tup, isi_lst, isi_bl, isi_str, isi_non, lenV_ok, tupV_ok, ofsV_tup, ofsV_lst, ofsV_sq, catV2_l, bin_cat, mulV2_1, idxt_n, idxl_n, idxs_n, List.getD_cons_zero, List.getD_cons_succ, idx_last, set_lastN, app_last, mthV_last, frzV_last, fzV_last, len_last, tru_last, ofs_last, fin_dead, int_blN, mul1_b, mul1_n, mem_bls, nmem_bls, nmem_tup, nmem_lst, nmem_sq, rng3V_n, cut_nat, cut_to, cut_from, eq_tn, eq_ln, eq_lot, eq_lnil_v, ne_lnil_v, eq_lnil_n, ne_lnil_n, Bool.decide_eq_true, ne_lot, ne_tn, all_bl, any_bl, d9, List.any_cons, List.any_nil, kdB, Bool.or_false, Bool.or_true, Bool.true_or, Bool.false_or, beq_self_eq_true, bne_self_eq_false, Bool.not_true, Bool.not_false]
    | non =>
      rw [run_eq P_9 rfl]
      simp -implicitDefEqProofs -dsimp (disch := (first | (simp -implicitDefEqProofs only [all_tt, pures_map, pures_app, frV_pure, pure_vn, pure_sq, pure_bl, pure_int, pure_non, pure_str, pure_tup, pure_lst, pures_nil, pures_cons, Bool.and_true, Bool.true_and, Bool.and_self]; done) | omega | (apply LenLe.ok; (focus (with_reducible (repeat (first | apply LenLe.map | apply LenLe.filter | apply LenLe.srt | apply LenLe.sst | apply LenLe.rev | apply LenLe.cons | apply LenLe.append | exact LenLe.range _ | exact LenLe.rep _ _ | exact LenLe.nil | exact LenLe.bl1 _ _ | exact LenLe.self _)))); omega) | (simp -implicitDefEqProofs only [List.length_cons, List.length_nil, List.length_map, List.length_range, List.length_replicate, List.length_append]; omega) | assumption)) only [ev_nat, ev_var, ev_glo, gloV_nat, gloV_str, ev_bl, ev_non, ev_str, ev_bin, ev_cmp, ev_chn, ev_neg, ev_nt, ev_and, ev_or, ev_ite, ev_tup, ev_idx, ev_slc, ev_cal, ev_calk, ev_bi, ev_mth, ev_nl, ev_frz, ev_tupR, ev_lens, ev_minD, ev_bk, bkV_tup, bkV_lst, ← List.map_reverse, List.reverse_cons, List.reverse_nil, evn_lc2, keepL_t, compLL_G, cmpLM_range, cmpLR_all, cmpLM_all, evs_nil, evs_cons, evs_star, starV_some, revV_lst, evk_nil, evk_cons, evo_no, evo_yes, evn_disp, evn_ofs, evn_cat, evn_mul, evn_rng, evn_srt, evn_sst, evn_srtr, evn_rev, evn_lc, evc_no, evc_yes, evi_ex, evi_r1, evi_r2, evi_r3, evi_en, evi_zp, setT_n, setT_t, setTV_some, setTs_nil, setTs_cons, setTC_some, exe_set, exe_par, exe_setS, exe_augS, augSG_loc, exe_aug, augG_some, exe_ex, exe_ret, exe_retN, exe_ite, exe_whl, exe_fr, exe_fz, whlG_nx, exe_pass, exe_brk, exe_cnt, exes_nil, exes_cons, ↓seqV_nx, ↓seqV_rt, ↓seqV_bk, ↓seqV_ct, tgV_some, varV_some, chnV_bl, keepC_t, keepC_p, keepC_n, optV_n, optV_i, zpV_tt, zpV_ll, zip_map, cutT, cutL, itV_tup, itV_lst, itV_sq, enV_tup, enV_lst, enV_sq, nlV_f, nlV_t, augV_n, setAll, wipeS, start0, Out.nox_ok, bd_ok, bd_exn, bd_assoc, ↓reduceIte, decide_true, decide_false, Bool.false_eq_true, List.getElem?_cons_zero, List.getElem?_cons_succ, List.set_cons_zero, List.set_cons_succ, List.length_cons, List.length_nil, List.map_cons, List.map_nil, List.append_nil, List.nil_append, List.cons_append, List.replicate_zero, List.replicate_succ, Nat.sub_self, Nat.reduceSub, Nat.reduceAdd, Nat.reduceLeDiff, Nat.reduceLT, ret_rt, ret_nx, tru_bl, q_add, q_mod, q_fdiv, q_mul, q_sub, q_lt, q_le, q_gt, q_ge, q_eq, q_ne, q_abs, q_int, q_tru, q_isi, q_len_tup, q_len_lst, q_len_sq, items_tup, items_lst, items_sq, q_tup_sq, tuple_lst, tuple_tup, rng1V_n, rng2V_n, compL_G, cmpM_range, cmpM_all, cmpM_if, cmpM_none, cmpR_all, cmpR_if, cmpR_none, compL_nil, pures_map, pure_vn, pure_sq, fin_pure, mem_tup, mem_lst, mem_sq, eq_bls, ne_bls, isn_non, isn_int, isn_bl, isn_tup, isn_lst, isi_tup, isi_lst, isi_bl, isi_str, isi_non, lenV_ok, tupV_ok, ofsV_tup, ofsV_lst, ofsV_sq, catV2_l, bin_cat, mulV2_1, idxt_n, idxl_n, idxs_n, List.getD_cons_zero, List.getD_cons_succ, idx_last, set_lastN, app_last, mthV_last, frzV_last, fzV_last, len_last, tru_last, ofs_last, fin_dead, int_blN, mul1_b, mul1_n, mem_bls, nmem_bls, nmem_tup, nmem_lst, nmem_sq, rng3V_n, cut_nat, cut_to, cut_from, eq_tn, eq_ln, eq_lot, eq_lnil_v, ne_lnil_v, eq_lnil_n, ne_lnil_n, Bool.decide_eq_true, ne_lot, ne_tn, all_bl, any_bl, d9, List.any_cons, List.any_nil, kdB, Bool.or_false, Bool.or_true, Bool.true_or, Bool.false_or, beq_self_eq_true, bne_self_eq_false, Bool.not_true, Bool.not_false, eq_non]
  | succ d ih =>
    intro v hd hf k hk S
    by_cases h0 : v.dep ≤ d
    · exact ih v h0 hf k (by omega) S
    obtain ⟨k, rfl⟩ : ∃ j, k = j + 1 := ⟨k - 1, by omega⟩
    cases v with
    | lst xs =>
      simp only [Val.dep] at hd
      have hf2 : xs.length ≤ mx ∧ Val.fits xs = true := by simpa [Val.fit] using hf
      exact (same_seq k xs hf2.1 (fun x hx => ih x (by have := Val.dep_mem hx; omega) (Val.fit_mem hf2.2 hx) k (by omega)) S).1
    | tup xs =>
      simp only [Val.dep] at hd
      have hf2 : xs.length ≤ mx ∧ Val.fits xs = true := by simpa [Val.fit] using hf
      exact (same_seq k xs hf2.1 (fun x hx => ih x (by have := Val.dep_mem hx; omega) (Val.fit_mem hf2.2 hx) k (by omega)) S).2
    | _ => simp [Val.dep] at h0
theorem same_fit (k : Nat) (S : Store) {v : Val} (h : Fit 6 v) : run P (k + 8) 9 [v, v] S = .ok (.bl true) S := same_ok 6 v h.h1 h.h2 (k + 8) (by omega) S
theorem of_ok (k : Nat) {S T : Store} {β : Box} (q : Bool) (xs : List Val) (h0 : 0 < xs.length) (h1 : xs.length < 1073741824) (hp : ∀ x ∈ xs, x.pure = true) (hl : β.lim < 1000000000000) :
    Dw S T β 1 (run P (k + 2) 8 [.loc S.length, sq q xs] (S ++ boxV β :: T)) fun v => v ∈ xs := by
  obtain ⟨_, β', e, l, r, rfl, hr⟩ := take_ok k (S := S) (T := T) (β := β) h0 h1 hl
  have hv : xs.getD r .non ∈ xs := by
    rw [List.getD_eq_getElem?_getD, List.getElem?_eq_getElem hr]
    exact List.getElem_mem hr
  refine ⟨_, β', ?_, l, hv⟩
  have hq := hp _ hv
  rw [run_eq P_8 rfl]
  simp -implicitDefEqProofs -dsimp (disch := (first | (simp -implicitDefEqProofs only [all_tt, pures_map, pures_app, frV_pure, pure_vn, pure_sq, pure_bl, pure_int, pure_non, pure_str, pure_tup, pure_lst, pures_nil, pures_cons, Bool.and_true, Bool.true_and, Bool.and_self]; done) | omega | (apply LenLe.ok; (focus (with_reducible (repeat (first | apply LenLe.map | apply LenLe.filter | apply LenLe.srt | apply LenLe.sst | apply LenLe.rev | apply LenLe.cons | apply LenLe.append | exact LenLe.range _ | exact LenLe.rep _ _ | exact LenLe.nil | exact LenLe.bl1 _ _ | exact LenLe.self _)))); omega) | (simp -implicitDefEqProofs only [List.length_cons, List.length_nil, List.length_map, List.length_range, List.length_replicate, List.length_append]; omega) | assumption)) only [ev_nat, ev_var, ev_glo, gloV_nat, gloV_str, ev_bl, ev_non, ev_str, ev_bin, ev_cmp, ev_chn, ev_neg, ev_nt, ev_and, ev_or, ev_ite, ev_tup, ev_idx, ev_slc, ev_cal, ev_calk, ev_bi, ev_mth, ev_nl, ev_frz, ev_tupR, ev_lens, ev_minD, ev_bk, bkV_tup, bkV_lst, ← List.map_reverse, List.reverse_cons, List.reverse_nil, evn_lc2, keepL_t, compLL_G, cmpLM_range, cmpLR_all, cmpLM_all, evs_nil, evs_cons, evs_star, starV_some, revV_lst, evk_nil, evk_cons, evo_no, evo_yes, evn_disp, evn_ofs, evn_cat, evn_mul, evn_rng, evn_srt, evn_sst, evn_srtr, evn_rev, evn_lc, evc_no, evc_yes, evi_ex, evi_r1, evi_r2, evi_r3, evi_en, evi_zp, setT_n, setT_t, setTV_some, setTs_nil, setTs_cons, setTC_some, exe_set, exe_par, exe_setS, exe_augS, augSG_loc, exe_aug, augG_some, exe_ex, exe_ret, exe_retN, exe_ite, exe_whl, exe_fr, exe_fz, whlG_nx, exe_pass, exe_brk, exe_cnt, exes_nil, exes_cons, ↓seqV_nx, ↓seqV_rt, ↓seqV_bk, ↓seqV_ct, tgV_some, varV_some, chnV_bl, keepC_t, keepC_p, keepC_n, optV_n, optV_i, zpV_tt, zpV_ll, zip_map, cutT, cutL, itV_tup, itV_lst, itV_sq, enV_tup, enV_lst, enV_sq, nlV_f, nlV_t, augV_n, setAll, wipeS, start0, Out.nox_ok, bd_ok, bd_exn, bd_assoc, ↓reduceIte, decide_true, decide_false, Bool.false_eq_true, List.getElem?_cons_zero, List.getElem?_cons_succ, List.set_cons_zero, List.set_cons_succ, List.length_cons, List.length_nil, List.map_cons, List.map_nil, List.append_nil, List.nil_append, List.cons_append, List.replicate_zero, List.replicate_succ, Nat.sub_self, Nat.reduceSub, Nat.reduceAdd, Nat.reduceLeDiff, Nat.reduceLT, ret_rt, ret_nx, tru_bl, q_add, q_mod, q_fdiv, q_mul, q_sub, q_lt, q_le, q_gt, q_ge, q_eq, q_ne, q_abs, q_int, q_tru, q_isi, q_len_tup, q_len_lst, q_len_sq, items_tup, items_lst, items_sq, q_tup_sq, tuple_lst, tuple_tup, rng1V_n, rng2V_n, compL_G, cmpM_range, cmpM_all, cmpM_if, cmpM_none, cmpR_all, cmpR_if, cmpR_none, compL_nil, pures_map, pure_vn, pure_sq, fin_pure, mem_tup, mem_lst, mem_sq, eq_bls, ne_bls, isn_non, isn_int, isn_bl, isn_tup, isn_lst, isi_tup, isi_lst, isi_bl, isi_str, isi_non, lenV_ok, tupV_ok, ofsV_tup, ofsV_lst, ofsV_sq, catV2_l, bin_cat, mulV2_1, idxt_n, idxl_n, idxs_n, List.getD_cons_zero, List.getD_cons_succ, idx_last, set_lastN, app_last, mthV_last, frzV_last, fzV_last, len_last, tru_last, ofs_last, fin_dead, int_blN, mul1_b, mul1_n, mem_bls, nmem_bls, nmem_tup, nmem_lst, nmem_sq, rng3V_n, cut_nat, cut_to, cut_from, eq_tn, eq_ln, eq_lot, eq_lnil_v, ne_lnil_v, eq_lnil_n, ne_lnil_n, Bool.decide_eq_true, ne_lot, ne_tn, all_bl, any_bl, d8, e, hr]
  exact fin_box0 hq
theorem buckets_ok (k : Nat) {S T : Store} {β : Box} (m : Nat) (h1 : 0 < m) (h2 : m ≤ 1000) (hl : β.lim < 100000000000) :
    Dw S T β (m + 10) (run P (k + 3) 10 [.loc S.length, vn m] (S ++ boxV β :: T)) fun v => ∃ xs : List Nat, v = .tup (xs.map vn) ∧ xs.Pairwise (· < ·) ∧ ∀ x ∈ xs, x < m := by
  rw [run_eq P_10 rfl]
  obtain ⟨_, β1, e1, l1, w, rfl, w1⟩ := take_ok (k + 1) (S := S) (T := T) (β := β) (size := 6) (by omega) (by omega) (by omega)
  by_cases hw0 : w = 0
  · subst hw0
    obtain ⟨_, β2, e2, l2, f, rfl, f1⟩ := take_ok (k + 1) (S := S) (T := T) (β := β1) (size := m) (by omega) (by omega) (by omega)
    obtain ⟨_, β3, e3, l3, q, rfl, q1⟩ := take_ok (k + 1) (S := S) (T := T) (β := β2) (size := m + 1) (by omega) (by omega) (by omega)
    have es := fun S => srtV_n S ((List.range q).map fun i => (f + i) % m)
    simp only [List.map_map, Function.comp_def] at es
    simp -implicitDefEqProofs -dsimp (disch := (first | (simp -implicitDefEqProofs only [all_tt, pures_map, pures_app, frV_pure, pure_vn, pure_sq, pure_bl, pure_int, pure_non, pure_str, pure_tup, pure_lst, pures_nil, pures_cons, Bool.and_true, Bool.true_and, Bool.and_self]; done) | omega | (apply LenLe.ok; (focus (with_reducible (repeat (first | apply LenLe.map | apply LenLe.filter | apply LenLe.srt | apply LenLe.sst | apply LenLe.rev | apply LenLe.cons | apply LenLe.append | exact LenLe.range _ | exact LenLe.rep _ _ | exact LenLe.nil | exact LenLe.bl1 _ _ | exact LenLe.self _)))); omega) | (simp -implicitDefEqProofs only [List.length_cons, List.length_nil, List.length_map, List.length_range, List.length_replicate, List.length_append]; omega) | assumption)) only [ev_nat, ev_var, ev_glo, gloV_nat, gloV_str, ev_bl, ev_non, ev_str, ev_bin, ev_cmp, ev_chn, ev_neg, ev_nt, ev_and, ev_or, ev_ite, ev_tup, ev_idx, ev_slc, ev_cal, ev_calk, ev_bi, ev_mth, ev_nl, ev_frz, ev_tupR, ev_lens, ev_minD, ev_bk, bkV_tup, bkV_lst, ← List.map_reverse, List.reverse_cons, List.reverse_nil, evn_lc2, keepL_t, compLL_G, cmpLM_range, cmpLR_all, cmpLM_all, evs_nil, evs_cons, evs_star, starV_some, revV_lst, evk_nil, evk_cons, evo_no, evo_yes, evn_disp, evn_ofs, evn_cat, evn_mul, evn_rng, evn_srt, evn_sst, evn_srtr, evn_rev, evn_lc, evc_no, evc_yes, evi_ex, evi_r1, evi_r2, evi_r3, evi_en, evi_zp, setT_n, setT_t, setTV_some, setTs_nil, setTs_cons, setTC_some, exe_set, exe_par, exe_setS, exe_augS, augSG_loc, exe_aug, augG_some, exe_ex, exe_ret, exe_retN, exe_ite, exe_whl, exe_fr, exe_fz, whlG_nx, exe_pass, exe_brk, exe_cnt, exes_nil, exes_cons, ↓seqV_nx, ↓seqV_rt, ↓seqV_bk, ↓seqV_ct, tgV_some, varV_some, chnV_bl, keepC_t, keepC_p, keepC_n, optV_n, optV_i, zpV_tt, zpV_ll, zip_map, cutT, cutL, itV_tup, itV_lst, itV_sq, enV_tup, enV_lst, enV_sq, nlV_f, nlV_t, augV_n, setAll, wipeS, start0, Out.nox_ok, bd_ok, bd_exn, bd_assoc, ↓reduceIte, decide_true, decide_false, Bool.false_eq_true, List.getElem?_cons_zero, List.getElem?_cons_succ, List.set_cons_zero, List.set_cons_succ, List.length_cons, List.length_nil, List.map_cons, List.map_nil, List.append_nil, List.nil_append, List.cons_append, List.replicate_zero, List.replicate_succ, Nat.sub_self, Nat.reduceSub, Nat.reduceAdd, Nat.reduceLeDiff, Nat.reduceLT, ret_rt, ret_nx, tru_bl, q_add, q_mod, q_fdiv, q_mul, q_sub, q_lt, q_le, q_gt, q_ge, q_eq, q_ne, q_abs, q_int, q_tru, q_isi, q_len_tup, q_len_lst, q_len_sq, items_tup, items_lst, items_sq, q_tup_sq, tuple_lst, tuple_tup, rng1V_n, rng2V_n, compL_G, cmpM_range, cmpM_all, cmpM_if, cmpM_none, cmpR_all, cmpR_if, cmpR_none, compL_nil, pures_map, pure_vn, pure_sq, fin_pure, mem_tup, mem_lst, mem_sq, eq_bls, ne_bls, isn_non, isn_int, isn_bl, isn_tup, isn_lst, isi_tup, isi_lst, isi_bl, isi_str, isi_non, lenV_ok, tupV_ok, ofsV_tup, ofsV_lst, ofsV_sq, catV2_l, bin_cat, mulV2_1, idxt_n, idxl_n, idxs_n, List.getD_cons_zero, List.getD_cons_succ, idx_last, set_lastN, app_last, mthV_last, frzV_last, fzV_last, len_last, tru_last, ofs_last, fin_dead, int_blN, mul1_b, mul1_n, mem_bls, nmem_bls, nmem_tup, nmem_lst, nmem_sq, rng3V_n, cut_nat, cut_to, cut_from, eq_tn, eq_ln, eq_lot, eq_lnil_v, ne_lnil_v, eq_lnil_n, ne_lnil_n, Bool.decide_eq_true, ne_lot, ne_tn, all_bl, any_bl, d10, e1, e2, e3, es, decide_true, if_true]
    refine ⟨_, β3, fin_box0 (by first | (simp -implicitDefEqProofs only [all_tt, pures_map, pures_app, frV_pure, pure_vn, pure_sq, pure_bl, pure_int, pure_non, pure_str, pure_tup, pure_lst, pures_nil, pures_cons, Bool.and_true, Bool.true_and, Bool.and_self]; done) | omega | (apply LenLe.ok; (focus (with_reducible (repeat (first | apply LenLe.map | apply LenLe.filter | apply LenLe.srt | apply LenLe.sst | apply LenLe.rev | apply LenLe.cons | apply LenLe.append | exact LenLe.range _ | exact LenLe.rep _ _ | exact LenLe.nil | exact LenLe.bl1 _ _ | exact LenLe.self _)))); omega) | (simp -implicitDefEqProofs only [List.length_cons, List.length_nil, List.length_map, List.length_range, List.length_replicate, List.length_append]; omega) | assumption), by omega, _, rfl, sort_asc _ (shift_nodup (by omega)), fun x hx => ?_⟩
    have hx2 := (nsort_perm _).mem_iff.mp hx
    obtain ⟨i, _, rfl⟩ := List.mem_map.mp hx2
    exact Nat.mod_lt _ h1
  · by_cases hw1 : w = 1
    · subst hw1
      simp -implicitDefEqProofs -dsimp (disch := (first | (simp -implicitDefEqProofs only [all_tt, pures_map, pures_app, frV_pure, pure_vn, pure_sq, pure_bl, pure_int, pure_non, pure_str, pure_tup, pure_lst, pures_nil, pures_cons, Bool.and_true, Bool.true_and, Bool.and_self]; done) | omega | (apply LenLe.ok; (focus (with_reducible (repeat (first | apply LenLe.map | apply LenLe.filter | apply LenLe.srt | apply LenLe.sst | apply LenLe.rev | apply LenLe.cons | apply LenLe.append | exact LenLe.range _ | exact LenLe.rep _ _ | exact LenLe.nil | exact LenLe.bl1 _ _ | exact LenLe.self _)))); omega) | (simp -implicitDefEqProofs only [List.length_cons, List.length_nil, List.length_map, List.length_range, List.length_replicate, List.length_append]; omega) | assumption)) only [ev_nat, ev_var, ev_glo, gloV_nat, gloV_str, ev_bl, ev_non, ev_str, ev_bin, ev_cmp, ev_chn, ev_neg, ev_nt, ev_and, ev_or, ev_ite, ev_tup, ev_idx, ev_slc, ev_cal, ev_calk, ev_bi, ev_mth, ev_nl, ev_frz, ev_tupR, ev_lens, ev_minD, ev_bk, bkV_tup, bkV_lst, ← List.map_reverse, List.reverse_cons, List.reverse_nil, evn_lc2, keepL_t, compLL_G, cmpLM_range, cmpLR_all, cmpLM_all, evs_nil, evs_cons, evs_star, starV_some, revV_lst, evk_nil, evk_cons, evo_no, evo_yes, evn_disp, evn_ofs, evn_cat, evn_mul, evn_rng, evn_srt, evn_sst, evn_srtr, evn_rev, evn_lc, evc_no, evc_yes, evi_ex, evi_r1, evi_r2, evi_r3, evi_en, evi_zp, setT_n, setT_t, setTV_some, setTs_nil, setTs_cons, setTC_some, exe_set, exe_par, exe_setS, exe_augS, augSG_loc, exe_aug, augG_some, exe_ex, exe_ret, exe_retN, exe_ite, exe_whl, exe_fr, exe_fz, whlG_nx, exe_pass, exe_brk, exe_cnt, exes_nil, exes_cons, ↓seqV_nx, ↓seqV_rt, ↓seqV_bk, ↓seqV_ct, tgV_some, varV_some, chnV_bl, keepC_t, keepC_p, keepC_n, optV_n, optV_i, zpV_tt, zpV_ll, zip_map, cutT, cutL, itV_tup, itV_lst, itV_sq, enV_tup, enV_lst, enV_sq, nlV_f, nlV_t, augV_n, setAll, wipeS, start0, Out.nox_ok, bd_ok, bd_exn, bd_assoc, ↓reduceIte, decide_true, decide_false, Bool.false_eq_true, List.getElem?_cons_zero, List.getElem?_cons_succ, List.set_cons_zero, List.set_cons_succ, List.length_cons, List.length_nil, List.map_cons, List.map_nil, List.append_nil, List.nil_append, List.cons_append, List.replicate_zero, List.replicate_succ, Nat.sub_self, Nat.reduceSub, Nat.reduceAdd, Nat.reduceLeDiff, Nat.reduceLT, ret_rt, ret_nx, tru_bl, q_add, q_mod, q_fdiv, q_mul, q_sub, q_lt, q_le, q_gt, q_ge, q_eq, q_ne, q_abs, q_int, q_tru, q_isi, q_len_tup, q_len_lst, q_len_sq, items_tup, items_lst, items_sq, q_tup_sq, tuple_lst, tuple_tup, rng1V_n, rng2V_n, compL_G, cmpM_range, cmpM_all, cmpM_if, cmpM_none, cmpR_all, cmpR_if, cmpR_none, compL_nil, pures_map, pure_vn, pure_sq, fin_pure, mem_tup, mem_lst, mem_sq, eq_bls, ne_bls, isn_non, isn_int, isn_bl, isn_tup, isn_lst, isi_tup, isi_lst, isi_bl, isi_str, isi_non, lenV_ok, tupV_ok, ofsV_tup, ofsV_lst, ofsV_sq, catV2_l, bin_cat, mulV2_1, idxt_n, idxl_n, idxs_n, List.getD_cons_zero, List.getD_cons_succ, idx_last, set_lastN, app_last, mthV_last, frzV_last, fzV_last, len_last, tru_last, ofs_last, fin_dead, int_blN, mul1_b, mul1_n, mem_bls, nmem_bls, nmem_tup, nmem_lst, nmem_sq, rng3V_n, cut_nat, cut_to, cut_from, eq_tn, eq_ln, eq_lot, eq_lnil_v, ne_lnil_v, eq_lnil_n, ne_lnil_n, Bool.decide_eq_true, ne_lot, ne_tn, all_bl, any_bl, d10, e1, Nat.one_ne_zero, decide_true, decide_false, if_true, if_false, Bool.false_eq_true]
      have hpl : ∀ x ∈ (List.range (m + 1 - 1)).filter (fun x => decide (m % (1 + x) = 0)), x < m := fun x hx => by
        have := List.mem_range.mp (List.mem_filter.mp hx).1
        omega
      have hp0 : 0 < ((List.range (m + 1 - 1)).filter (fun x => decide (m % (1 + x) = 0))).length := List.length_pos_of_mem (a := 0) (List.mem_filter.mpr ⟨List.mem_range.mpr (by omega), by simp [Nat.mod_one]⟩)
      have hp1 : ((List.range (m + 1 - 1)).filter (fun x => decide (m % (1 + x) = 0))).length ≤ m := Nat.le_trans (List.length_filter_le _ _) (by simp)
      generalize (List.range (m + 1 - 1)).filter (fun x => decide (m % (1 + x) = 0)) = pl at hpl hp0 hp1 ⊢
      obtain ⟨_, β2, e2, l2, hv⟩ := of_ok k (S := S) (T := T) (β := β1) true (pl.map fun x => vn (1 + x)) (by simpa using hp0) (by rw [List.length_map]; omega) (fun x hx => by obtain ⟨i, _, rfl⟩ := List.mem_map.mp hx; rfl) (by omega)
      obtain ⟨p0, hp0, rfl⟩ := List.mem_map.mp hv
      have hpm := hpl p0 hp0
      rw [sq_t] at e2
      simp -implicitDefEqProofs -dsimp (disch := (first | (simp -implicitDefEqProofs only [all_tt, pures_map, pures_app, frV_pure, pure_vn, pure_sq, pure_bl, pure_int, pure_non, pure_str, pure_tup, pure_lst, pures_nil, pures_cons, Bool.and_true, Bool.true_and, Bool.and_self]; done) | omega | (apply LenLe.ok; (focus (with_reducible (repeat (first | apply LenLe.map | apply LenLe.filter | apply LenLe.srt | apply LenLe.sst | apply LenLe.rev | apply LenLe.cons | apply LenLe.append | exact LenLe.range _ | exact LenLe.rep _ _ | exact LenLe.nil | exact LenLe.bl1 _ _ | exact LenLe.self _)))); omega) | (simp -implicitDefEqProofs only [List.length_cons, List.length_nil, List.length_map, List.length_range, List.length_replicate, List.length_append]; omega) | assumption)) only [ev_nat, ev_var, ev_glo, gloV_nat, gloV_str, ev_bl, ev_non, ev_str, ev_bin, ev_cmp, ev_chn, ev_neg, ev_nt, ev_and, ev_or, ev_ite, ev_tup, ev_idx, ev_slc, ev_cal, ev_calk, ev_bi, ev_mth, ev_nl, ev_frz, ev_tupR, ev_lens, ev_minD, ev_bk, bkV_tup, bkV_lst, ← List.map_reverse, List.reverse_cons, List.reverse_nil, evn_lc2, keepL_t, compLL_G, cmpLM_range, cmpLR_all, cmpLM_all, evs_nil, evs_cons, evs_star, starV_some, revV_lst, evk_nil, evk_cons, evo_no, evo_yes, evn_disp, evn_ofs, evn_cat, evn_mul, evn_rng, evn_srt, evn_sst, evn_srtr, evn_rev, evn_lc, evc_no, evc_yes, evi_ex, evi_r1, evi_r2, evi_r3, evi_en, evi_zp, setT_n, setT_t, setTV_some, setTs_nil, setTs_cons, setTC_some, exe_set, exe_par, exe_setS, exe_augS, augSG_loc, exe_aug, augG_some, exe_ex, exe_ret, exe_retN, exe_ite, exe_whl, exe_fr, exe_fz, whlG_nx, exe_pass, exe_brk, exe_cnt, exes_nil, exes_cons, ↓seqV_nx, ↓seqV_rt, ↓seqV_bk, ↓seqV_ct, tgV_some, varV_some, chnV_bl, keepC_t, keepC_p, keepC_n, optV_n, optV_i, zpV_tt, zpV_ll, zip_map, cutT, cutL, itV_tup, itV_lst, itV_sq, enV_tup, enV_lst, enV_sq, nlV_f, nlV_t, augV_n, setAll, wipeS, start0, Out.nox_ok, bd_ok, bd_exn, bd_assoc, ↓reduceIte, decide_true, decide_false, Bool.false_eq_true, List.getElem?_cons_zero, List.getElem?_cons_succ, List.set_cons_zero, List.set_cons_succ, List.length_cons, List.length_nil, List.map_cons, List.map_nil, List.append_nil, List.nil_append, List.cons_append, List.replicate_zero, List.replicate_succ, Nat.sub_self, Nat.reduceSub, Nat.reduceAdd, Nat.reduceLeDiff, Nat.reduceLT, ret_rt, ret_nx, tru_bl, q_add, q_mod, q_fdiv, q_mul, q_sub, q_lt, q_le, q_gt, q_ge, q_eq, q_ne, q_abs, q_int, q_tru, q_isi, q_len_tup, q_len_lst, q_len_sq, items_tup, items_lst, items_sq, q_tup_sq, tuple_lst, tuple_tup, rng1V_n, rng2V_n, compL_G, cmpM_range, cmpM_all, cmpM_if, cmpM_none, cmpR_all, cmpR_if, cmpR_none, compL_nil, pures_map, pure_vn, pure_sq, fin_pure, mem_tup, mem_lst, mem_sq, eq_bls, ne_bls, isn_non, isn_int, isn_bl, isn_tup, isn_lst, isi_tup, isi_lst, isi_bl, isi_str, isi_non, lenV_ok, tupV_ok, ofsV_tup, ofsV_lst, ofsV_sq, catV2_l, bin_cat, mulV2_1, idxt_n, idxl_n, idxs_n, List.getD_cons_zero, List.getD_cons_succ, idx_last, set_lastN, app_last, mthV_last, frzV_last, fzV_last, len_last, tru_last, ofs_last, fin_dead, int_blN, mul1_b, mul1_n, mem_bls, nmem_bls, nmem_tup, nmem_lst, nmem_sq, rng3V_n, cut_nat, cut_to, cut_from, eq_tn, eq_ln, eq_lot, eq_lnil_v, ne_lnil_v, eq_lnil_n, ne_lnil_n, Bool.decide_eq_true, ne_lot, ne_tn, all_bl, any_bl, e2]
      refine Dw.step (β2 := β2) (c2 := m) (Dw.ret (Dw.bind (Dw.nox (Dw.compR (g := vn) (c := 1) (top := 200000000000) (by omega) fun i hi β' ht => ?_)) (by omega) fun ys β3 l3 ⟨l2, sl, e⟩ => ?_)) (by omega)
      · obtain ⟨_, β4, e4, l4, u, rfl, u1⟩ := take_ok (k + 1) (S := S) (T := T) (β := β') (size := 2) (by omega) (by omega) (by omega)
        simp -implicitDefEqProofs -dsimp (disch := (first | (simp -implicitDefEqProofs only [all_tt, pures_map, pures_app, frV_pure, pure_vn, pure_sq, pure_bl, pure_int, pure_non, pure_str, pure_tup, pure_lst, pures_nil, pures_cons, Bool.and_true, Bool.true_and, Bool.and_self]; done) | omega | (apply LenLe.ok; (focus (with_reducible (repeat (first | apply LenLe.map | apply LenLe.filter | apply LenLe.srt | apply LenLe.sst | apply LenLe.rev | apply LenLe.cons | apply LenLe.append | exact LenLe.range _ | exact LenLe.rep _ _ | exact LenLe.nil | exact LenLe.bl1 _ _ | exact LenLe.self _)))); omega) | (simp -implicitDefEqProofs only [List.length_cons, List.length_nil, List.length_map, List.length_range, List.length_replicate, List.length_append]; omega) | assumption)) only [ev_nat, ev_var, ev_glo, gloV_nat, gloV_str, ev_bl, ev_non, ev_str, ev_bin, ev_cmp, ev_chn, ev_neg, ev_nt, ev_and, ev_or, ev_ite, ev_tup, ev_idx, ev_slc, ev_cal, ev_calk, ev_bi, ev_mth, ev_nl, ev_frz, ev_tupR, ev_lens, ev_minD, ev_bk, bkV_tup, bkV_lst, ← List.map_reverse, List.reverse_cons, List.reverse_nil, evn_lc2, keepL_t, compLL_G, cmpLM_range, cmpLR_all, cmpLM_all, evs_nil, evs_cons, evs_star, starV_some, revV_lst, evk_nil, evk_cons, evo_no, evo_yes, evn_disp, evn_ofs, evn_cat, evn_mul, evn_rng, evn_srt, evn_sst, evn_srtr, evn_rev, evn_lc, evc_no, evc_yes, evi_ex, evi_r1, evi_r2, evi_r3, evi_en, evi_zp, setT_n, setT_t, setTV_some, setTs_nil, setTs_cons, setTC_some, exe_set, exe_par, exe_setS, exe_augS, augSG_loc, exe_aug, augG_some, exe_ex, exe_ret, exe_retN, exe_ite, exe_whl, exe_fr, exe_fz, whlG_nx, exe_pass, exe_brk, exe_cnt, exes_nil, exes_cons, ↓seqV_nx, ↓seqV_rt, ↓seqV_bk, ↓seqV_ct, tgV_some, varV_some, chnV_bl, keepC_t, keepC_p, keepC_n, optV_n, optV_i, zpV_tt, zpV_ll, zip_map, cutT, cutL, itV_tup, itV_lst, itV_sq, enV_tup, enV_lst, enV_sq, nlV_f, nlV_t, augV_n, setAll, wipeS, start0, Out.nox_ok, bd_ok, bd_exn, bd_assoc, ↓reduceIte, decide_true, decide_false, Bool.false_eq_true, List.getElem?_cons_zero, List.getElem?_cons_succ, List.set_cons_zero, List.set_cons_succ, List.length_cons, List.length_nil, List.map_cons, List.map_nil, List.append_nil, List.nil_append, List.cons_append, List.replicate_zero, List.replicate_succ, Nat.sub_self, Nat.reduceSub, Nat.reduceAdd, Nat.reduceLeDiff, Nat.reduceLT, ret_rt, ret_nx, tru_bl, q_add, q_mod, q_fdiv, q_mul, q_sub, q_lt, q_le, q_gt, q_ge, q_eq, q_ne, q_abs, q_int, q_tru, q_isi, q_len_tup, q_len_lst, q_len_sq, items_tup, items_lst, items_sq, q_tup_sq, tuple_lst, tuple_tup, rng1V_n, rng2V_n, compL_G, cmpM_range, cmpM_all, cmpM_if, cmpM_none, cmpR_all, cmpR_if, cmpR_none, compL_nil, pures_map, pure_vn, pure_sq, fin_pure, mem_tup, mem_lst, mem_sq, eq_bls, ne_bls, isn_non, isn_int, isn_bl, isn_tup, isn_lst, isi_tup, isi_lst, isi_bl, isi_str, isi_non, lenV_ok, tupV_ok, ofsV_tup, ofsV_lst, ofsV_sq, catV2_l, bin_cat, mulV2_1, idxt_n, idxl_n, idxs_n, List.getD_cons_zero, List.getD_cons_succ, idx_last, set_lastN, app_last, mthV_last, frzV_last, fzV_last, len_last, tru_last, ofs_last, fin_dead, int_blN, mul1_b, mul1_n, mem_bls, nmem_bls, nmem_tup, nmem_lst, nmem_sq, rng3V_n, cut_nat, cut_to, cut_from, eq_tn, eq_ln, eq_lot, eq_lnil_v, ne_lnil_v, eq_lnil_n, ne_lnil_n, Bool.decide_eq_true, ne_lot, ne_tn, all_bl, any_bl, e4]
        by_cases hu : u = 0
        · rw [if_pos hu]
          exact ⟨_, β4, rfl, by omega, .inr rfl⟩
        · rw [if_neg hu]
          exact ⟨_, β4, rfl, by omega, .inl rfl⟩
      · subst e
        have hl := sl.length_le
        rw [List.length_range] at hl
        simp -implicitDefEqProofs -dsimp (disch := (first | (simp -implicitDefEqProofs only [all_tt, pures_map, pures_app, frV_pure, pure_vn, pure_sq, pure_bl, pure_int, pure_non, pure_str, pure_tup, pure_lst, pures_nil, pures_cons, Bool.and_true, Bool.true_and, Bool.and_self]; done) | omega | (apply LenLe.ok; (focus (with_reducible (repeat (first | apply LenLe.map | apply LenLe.filter | apply LenLe.srt | apply LenLe.sst | apply LenLe.rev | apply LenLe.cons | apply LenLe.append | exact LenLe.range _ | exact LenLe.rep _ _ | exact LenLe.nil | exact LenLe.bl1 _ _ | exact LenLe.self _)))); omega) | (simp -implicitDefEqProofs only [List.length_cons, List.length_nil, List.length_map, List.length_range, List.length_replicate, List.length_append]; omega) | assumption)) only [ev_nat, ev_var, ev_glo, gloV_nat, gloV_str, ev_bl, ev_non, ev_str, ev_bin, ev_cmp, ev_chn, ev_neg, ev_nt, ev_and, ev_or, ev_ite, ev_tup, ev_idx, ev_slc, ev_cal, ev_calk, ev_bi, ev_mth, ev_nl, ev_frz, ev_tupR, ev_lens, ev_minD, ev_bk, bkV_tup, bkV_lst, ← List.map_reverse, List.reverse_cons, List.reverse_nil, evn_lc2, keepL_t, compLL_G, cmpLM_range, cmpLR_all, cmpLM_all, evs_nil, evs_cons, evs_star, starV_some, revV_lst, evk_nil, evk_cons, evo_no, evo_yes, evn_disp, evn_ofs, evn_cat, evn_mul, evn_rng, evn_srt, evn_sst, evn_srtr, evn_rev, evn_lc, evc_no, evc_yes, evi_ex, evi_r1, evi_r2, evi_r3, evi_en, evi_zp, setT_n, setT_t, setTV_some, setTs_nil, setTs_cons, setTC_some, exe_set, exe_par, exe_setS, exe_augS, augSG_loc, exe_aug, augG_some, exe_ex, exe_ret, exe_retN, exe_ite, exe_whl, exe_fr, exe_fz, whlG_nx, exe_pass, exe_brk, exe_cnt, exes_nil, exes_cons, ↓seqV_nx, ↓seqV_rt, ↓seqV_bk, ↓seqV_ct, tgV_some, varV_some, chnV_bl, keepC_t, keepC_p, keepC_n, optV_n, optV_i, zpV_tt, zpV_ll, zip_map, cutT, cutL, itV_tup, itV_lst, itV_sq, enV_tup, enV_lst, enV_sq, nlV_f, nlV_t, augV_n, setAll, wipeS, start0, Out.nox_ok, bd_ok, bd_exn, bd_assoc, ↓reduceIte, decide_true, decide_false, Bool.false_eq_true, List.getElem?_cons_zero, List.getElem?_cons_succ, List.set_cons_zero, List.set_cons_succ, List.length_cons, List.length_nil, List.map_cons, List.map_nil, List.append_nil, List.nil_append, List.cons_append, List.replicate_zero, List.replicate_succ, Nat.sub_self, Nat.reduceSub, Nat.reduceAdd, Nat.reduceLeDiff, Nat.reduceLT, ret_rt, ret_nx, tru_bl, q_add, q_mod, q_fdiv, q_mul, q_sub, q_lt, q_le, q_gt, q_ge, q_eq, q_ne, q_abs, q_int, q_tru, q_isi, q_len_tup, q_len_lst, q_len_sq, items_tup, items_lst, items_sq, q_tup_sq, tuple_lst, tuple_tup, rng1V_n, rng2V_n, compL_G, cmpM_range, cmpM_all, cmpM_if, cmpM_none, cmpR_all, cmpR_if, cmpR_none, compL_nil, pures_map, pure_vn, pure_sq, fin_pure, mem_tup, mem_lst, mem_sq, eq_bls, ne_bls, isn_non, isn_int, isn_bl, isn_tup, isn_lst, isi_tup, isi_lst, isi_bl, isi_str, isi_non, lenV_ok, tupV_ok, ofsV_tup, ofsV_lst, ofsV_sq, catV2_l, bin_cat, mulV2_1, idxt_n, idxl_n, idxs_n, List.getD_cons_zero, List.getD_cons_succ, idx_last, set_lastN, app_last, mthV_last, frzV_last, fzV_last, len_last, tru_last, ofs_last, fin_dead, int_blN, mul1_b, mul1_n, mem_bls, nmem_bls, nmem_tup, nmem_lst, nmem_sq, rng3V_n, cut_nat, cut_to, cut_from, eq_tn, eq_ln, eq_lot, eq_lnil_v, ne_lnil_v, eq_lnil_n, ne_lnil_n, Bool.decide_eq_true, ne_lot, ne_tn, all_bl, any_bl]
        exact .pure ⟨_, rfl, by first | (simp -implicitDefEqProofs only [all_tt, pures_map, pures_app, frV_pure, pure_vn, pure_sq, pure_bl, pure_int, pure_non, pure_str, pure_tup, pure_lst, pures_nil, pures_cons, Bool.and_true, Bool.true_and, Bool.and_self]; done) | omega | (apply LenLe.ok; (focus (with_reducible (repeat (first | apply LenLe.map | apply LenLe.filter | apply LenLe.srt | apply LenLe.sst | apply LenLe.rev | apply LenLe.cons | apply LenLe.append | exact LenLe.range _ | exact LenLe.rep _ _ | exact LenLe.nil | exact LenLe.bl1 _ _ | exact LenLe.self _)))); omega) | (simp -implicitDefEqProofs only [List.length_cons, List.length_nil, List.length_map, List.length_range, List.length_replicate, List.length_append]; omega) | assumption, _, rfl, sub_range List.filter_sublist⟩
    · simp -implicitDefEqProofs -dsimp (disch := (first | (simp -implicitDefEqProofs only [all_tt, pures_map, pures_app, frV_pure, pure_vn, pure_sq, pure_bl, pure_int, pure_non, pure_str, pure_tup, pure_lst, pures_nil, pures_cons, Bool.and_true, Bool.true_and, Bool.and_self]; done) | omega | (apply LenLe.ok; (focus (with_reducible (repeat (first | apply LenLe.map | apply LenLe.filter | apply LenLe.srt | apply LenLe.sst | apply LenLe.rev | apply LenLe.cons | apply LenLe.append | exact LenLe.range _ | exact LenLe.rep _ _ | exact LenLe.nil | exact LenLe.bl1 _ _ | exact LenLe.self _)))); omega) | (simp -implicitDefEqProofs only [List.length_cons, List.length_nil, List.length_map, List.length_range, List.length_replicate, List.length_append]; omega) | assumption)) only [ev_nat, ev_var, ev_glo, gloV_nat, gloV_str, ev_bl, ev_non, ev_str, ev_bin, ev_cmp, ev_chn, ev_neg, ev_nt, ev_and, ev_or, ev_ite, ev_tup, ev_idx, ev_slc, ev_cal, ev_calk, ev_bi, ev_mth, ev_nl, ev_frz, ev_tupR, ev_lens, ev_minD, ev_bk, bkV_tup, bkV_lst, ← List.map_reverse, List.reverse_cons, List.reverse_nil, evn_lc2, keepL_t, compLL_G, cmpLM_range, cmpLR_all, cmpLM_all, evs_nil, evs_cons, evs_star, starV_some, revV_lst, evk_nil, evk_cons, evo_no, evo_yes, evn_disp, evn_ofs, evn_cat, evn_mul, evn_rng, evn_srt, evn_sst, evn_srtr, evn_rev, evn_lc, evc_no, evc_yes, evi_ex, evi_r1, evi_r2, evi_r3, evi_en, evi_zp, setT_n, setT_t, setTV_some, setTs_nil, setTs_cons, setTC_some, exe_set, exe_par, exe_setS, exe_augS, augSG_loc, exe_aug, augG_some, exe_ex, exe_ret, exe_retN, exe_ite, exe_whl, exe_fr, exe_fz, whlG_nx, exe_pass, exe_brk, exe_cnt, exes_nil, exes_cons, ↓seqV_nx, ↓seqV_rt, ↓seqV_bk, ↓seqV_ct, tgV_some, varV_some, chnV_bl, keepC_t, keepC_p, keepC_n, optV_n, optV_i, zpV_tt, zpV_ll, zip_map, cutT, cutL, itV_tup, itV_lst, itV_sq, enV_tup, enV_lst, enV_sq, nlV_f, nlV_t, augV_n, setAll, wipeS, start0, Out.nox_ok, bd_ok, bd_exn, bd_assoc, ↓reduceIte, decide_true, decide_false, Bool.false_eq_true, List.getElem?_cons_zero, List.getElem?_cons_succ, List.set_cons_zero, List.set_cons_succ, List.length_cons, List.length_nil, List.map_cons, List.map_nil, List.append_nil, List.nil_append, List.cons_append, List.replicate_zero, List.replicate_succ, Nat.sub_self, Nat.reduceSub, Nat.reduceAdd, Nat.reduceLeDiff, Nat.reduceLT, ret_rt, ret_nx, tru_bl, q_add, q_mod, q_fdiv, q_mul, q_sub, q_lt, q_le, q_gt, q_ge, q_eq, q_ne, q_abs, q_int, q_tru, q_isi, q_len_tup, q_len_lst, q_len_sq, items_tup, items_lst, items_sq, q_tup_sq, tuple_lst, tuple_tup, rng1V_n, rng2V_n, compL_G, cmpM_range, cmpM_all, cmpM_if, cmpM_none, cmpR_all, cmpR_if, cmpR_none, compL_nil, pures_map, pure_vn, pure_sq, fin_pure, mem_tup, mem_lst, mem_sq, eq_bls, ne_bls, isn_non, isn_int, isn_bl, isn_tup, isn_lst, isi_tup, isi_lst, isi_bl, isi_str, isi_non, lenV_ok, tupV_ok, ofsV_tup, ofsV_lst, ofsV_sq, catV2_l, bin_cat, mulV2_1, idxt_n, idxl_n, idxs_n, List.getD_cons_zero, List.getD_cons_succ, idx_last, set_lastN, app_last, mthV_last, frzV_last, fzV_last, len_last, tru_last, ofs_last, fin_dead, int_blN, mul1_b, mul1_n, mem_bls, nmem_bls, nmem_tup, nmem_lst, nmem_sq, rng3V_n, cut_nat, cut_to, cut_from, eq_tn, eq_ln, eq_lot, eq_lnil_v, ne_lnil_v, eq_lnil_n, ne_lnil_n, Bool.decide_eq_true, ne_lot, ne_tn, all_bl, any_bl, d10, e1, hw0, hw1, decide_false, if_false, Bool.false_eq_true]
      obtain ⟨_, β2, e2, l2, t, rfl, t1⟩ := take_ok (k + 1) (S := S) (T := T) (β := β1) (size := 5) (by omega) (by omega) (by omega)
      simp -implicitDefEqProofs -dsimp (disch := (first | (simp -implicitDefEqProofs only [all_tt, pures_map, pures_app, frV_pure, pure_vn, pure_sq, pure_bl, pure_int, pure_non, pure_str, pure_tup, pure_lst, pures_nil, pures_cons, Bool.and_true, Bool.true_and, Bool.and_self]; done) | omega | (apply LenLe.ok; (focus (with_reducible (repeat (first | apply LenLe.map | apply LenLe.filter | apply LenLe.srt | apply LenLe.sst | apply LenLe.rev | apply LenLe.cons | apply LenLe.append | exact LenLe.range _ | exact LenLe.rep _ _ | exact LenLe.nil | exact LenLe.bl1 _ _ | exact LenLe.self _)))); omega) | (simp -implicitDefEqProofs only [List.length_cons, List.length_nil, List.length_map, List.length_range, List.length_replicate, List.length_append]; omega) | assumption)) only [ev_nat, ev_var, ev_glo, gloV_nat, gloV_str, ev_bl, ev_non, ev_str, ev_bin, ev_cmp, ev_chn, ev_neg, ev_nt, ev_and, ev_or, ev_ite, ev_tup, ev_idx, ev_slc, ev_cal, ev_calk, ev_bi, ev_mth, ev_nl, ev_frz, ev_tupR, ev_lens, ev_minD, ev_bk, bkV_tup, bkV_lst, ← List.map_reverse, List.reverse_cons, List.reverse_nil, evn_lc2, keepL_t, compLL_G, cmpLM_range, cmpLR_all, cmpLM_all, evs_nil, evs_cons, evs_star, starV_some, revV_lst, evk_nil, evk_cons, evo_no, evo_yes, evn_disp, evn_ofs, evn_cat, evn_mul, evn_rng, evn_srt, evn_sst, evn_srtr, evn_rev, evn_lc, evc_no, evc_yes, evi_ex, evi_r1, evi_r2, evi_r3, evi_en, evi_zp, setT_n, setT_t, setTV_some, setTs_nil, setTs_cons, setTC_some, exe_set, exe_par, exe_setS, exe_augS, augSG_loc, exe_aug, augG_some, exe_ex, exe_ret, exe_retN, exe_ite, exe_whl, exe_fr, exe_fz, whlG_nx, exe_pass, exe_brk, exe_cnt, exes_nil, exes_cons, ↓seqV_nx, ↓seqV_rt, ↓seqV_bk, ↓seqV_ct, tgV_some, varV_some, chnV_bl, keepC_t, keepC_p, keepC_n, optV_n, optV_i, zpV_tt, zpV_ll, zip_map, cutT, cutL, itV_tup, itV_lst, itV_sq, enV_tup, enV_lst, enV_sq, nlV_f, nlV_t, augV_n, setAll, wipeS, start0, Out.nox_ok, bd_ok, bd_exn, bd_assoc, ↓reduceIte, decide_true, decide_false, Bool.false_eq_true, List.getElem?_cons_zero, List.getElem?_cons_succ, List.set_cons_zero, List.set_cons_succ, List.length_cons, List.length_nil, List.map_cons, List.map_nil, List.append_nil, List.nil_append, List.cons_append, List.replicate_zero, List.replicate_succ, Nat.sub_self, Nat.reduceSub, Nat.reduceAdd, Nat.reduceLeDiff, Nat.reduceLT, ret_rt, ret_nx, tru_bl, q_add, q_mod, q_fdiv, q_mul, q_sub, q_lt, q_le, q_gt, q_ge, q_eq, q_ne, q_abs, q_int, q_tru, q_isi, q_len_tup, q_len_lst, q_len_sq, items_tup, items_lst, items_sq, q_tup_sq, tuple_lst, tuple_tup, rng1V_n, rng2V_n, compL_G, cmpM_range, cmpM_all, cmpM_if, cmpM_none, cmpR_all, cmpR_if, cmpR_none, compL_nil, pures_map, pure_vn, pure_sq, fin_pure, mem_tup, mem_lst, mem_sq, eq_bls, ne_bls, isn_non, isn_int, isn_bl, isn_tup, isn_lst, isi_tup, isi_lst, isi_bl, isi_str, isi_non, lenV_ok, tupV_ok, ofsV_tup, ofsV_lst, ofsV_sq, catV2_l, bin_cat, mulV2_1, idxt_n, idxl_n, idxs_n, List.getD_cons_zero, List.getD_cons_succ, idx_last, set_lastN, app_last, mthV_last, frzV_last, fzV_last, len_last, tru_last, ofs_last, fin_dead, int_blN, mul1_b, mul1_n, mem_bls, nmem_bls, nmem_tup, nmem_lst, nmem_sq, rng3V_n, cut_nat, cut_to, cut_from, eq_tn, eq_ln, eq_lot, eq_lnil_v, ne_lnil_v, eq_lnil_n, ne_lnil_n, Bool.decide_eq_true, ne_lot, ne_tn, all_bl, any_bl, e2]
      refine Dw.step (β2 := β2) (c2 := m) (Dw.ret (Dw.bind (Dw.nox (Dw.compR (g := vn) (c := 1) (top := 200000000000) (by omega) fun i hi β' ht => ?_)) (by omega) fun ys β3 l3 ⟨l2, sl, e⟩ => ?_)) (by omega)
      · obtain ⟨_, β4, e4, l4, u, rfl, u1⟩ := take_ok (k + 1) (S := S) (T := T) (β := β') (size := 4) (by omega) (by omega) (by omega)
        simp -implicitDefEqProofs -dsimp (disch := (first | (simp -implicitDefEqProofs only [all_tt, pures_map, pures_app, frV_pure, pure_vn, pure_sq, pure_bl, pure_int, pure_non, pure_str, pure_tup, pure_lst, pures_nil, pures_cons, Bool.and_true, Bool.true_and, Bool.and_self]; done) | omega | (apply LenLe.ok; (focus (with_reducible (repeat (first | apply LenLe.map | apply LenLe.filter | apply LenLe.srt | apply LenLe.sst | apply LenLe.rev | apply LenLe.cons | apply LenLe.append | exact LenLe.range _ | exact LenLe.rep _ _ | exact LenLe.nil | exact LenLe.bl1 _ _ | exact LenLe.self _)))); omega) | (simp -implicitDefEqProofs only [List.length_cons, List.length_nil, List.length_map, List.length_range, List.length_replicate, List.length_append]; omega) | assumption)) only [ev_nat, ev_var, ev_glo, gloV_nat, gloV_str, ev_bl, ev_non, ev_str, ev_bin, ev_cmp, ev_chn, ev_neg, ev_nt, ev_and, ev_or, ev_ite, ev_tup, ev_idx, ev_slc, ev_cal, ev_calk, ev_bi, ev_mth, ev_nl, ev_frz, ev_tupR, ev_lens, ev_minD, ev_bk, bkV_tup, bkV_lst, ← List.map_reverse, List.reverse_cons, List.reverse_nil, evn_lc2, keepL_t, compLL_G, cmpLM_range, cmpLR_all, cmpLM_all, evs_nil, evs_cons, evs_star, starV_some, revV_lst, evk_nil, evk_cons, evo_no, evo_yes, evn_disp, evn_ofs, evn_cat, evn_mul, evn_rng, evn_srt, evn_sst, evn_srtr, evn_rev, evn_lc, evc_no, evc_yes, evi_ex, evi_r1, evi_r2, evi_r3, evi_en, evi_zp, setT_n, setT_t, setTV_some, setTs_nil, setTs_cons, setTC_some, exe_set, exe_par, exe_setS, exe_augS, augSG_loc, exe_aug, augG_some, exe_ex, exe_ret, exe_retN, exe_ite, exe_whl, exe_fr, exe_fz, whlG_nx, exe_pass, exe_brk, exe_cnt, exes_nil, exes_cons, ↓seqV_nx, ↓seqV_rt, ↓seqV_bk, ↓seqV_ct, tgV_some, varV_some, chnV_bl, keepC_t, keepC_p, keepC_n, optV_n, optV_i, zpV_tt, zpV_ll, zip_map, cutT, cutL, itV_tup, itV_lst, itV_sq, enV_tup, enV_lst, enV_sq, nlV_f, nlV_t, augV_n, setAll, wipeS, start0, Out.nox_ok, bd_ok, bd_exn, bd_assoc, ↓reduceIte, decide_true, decide_false, Bool.false_eq_true, List.getElem?_cons_zero, List.getElem?_cons_succ, List.set_cons_zero, List.set_cons_succ, List.length_cons, List.length_nil, List.map_cons, List.map_nil, List.append_nil, List.nil_append, List.cons_append, List.replicate_zero, List.replicate_succ, Nat.sub_self, Nat.reduceSub, Nat.reduceAdd, Nat.reduceLeDiff, Nat.reduceLT, ret_rt, ret_nx, tru_bl, q_add, q_mod, q_fdiv, q_mul, q_sub, q_lt, q_le, q_gt, q_ge, q_eq, q_ne, q_abs, q_int, q_tru, q_isi, q_len_tup, q_len_lst, q_len_sq, items_tup, items_lst, items_sq, q_tup_sq, tuple_lst, tuple_tup, rng1V_n, rng2V_n, compL_G, cmpM_range, cmpM_all, cmpM_if, cmpM_none, cmpR_all, cmpR_if, cmpR_none, compL_nil, pures_map, pure_vn, pure_sq, fin_pure, mem_tup, mem_lst, mem_sq, eq_bls, ne_bls, isn_non, isn_int, isn_bl, isn_tup, isn_lst, isi_tup, isi_lst, isi_bl, isi_str, isi_non, lenV_ok, tupV_ok, ofsV_tup, ofsV_lst, ofsV_sq, catV2_l, bin_cat, mulV2_1, idxt_n, idxl_n, idxs_n, List.getD_cons_zero, List.getD_cons_succ, idx_last, set_lastN, app_last, mthV_last, frzV_last, fzV_last, len_last, tru_last, ofs_last, fin_dead, int_blN, mul1_b, mul1_n, mem_bls, nmem_bls, nmem_tup, nmem_lst, nmem_sq, rng3V_n, cut_nat, cut_to, cut_from, eq_tn, eq_ln, eq_lot, eq_lnil_v, ne_lnil_v, eq_lnil_n, ne_lnil_n, Bool.decide_eq_true, ne_lot, ne_tn, all_bl, any_bl, e4]
        by_cases hu : u < t
        · rw [if_pos hu]
          exact ⟨_, β4, rfl, by omega, .inr rfl⟩
        · rw [if_neg hu]
          exact ⟨_, β4, rfl, by omega, .inl rfl⟩
      · subst e
        have hl := sl.length_le
        rw [List.length_range] at hl
        simp -implicitDefEqProofs -dsimp (disch := (first | (simp -implicitDefEqProofs only [all_tt, pures_map, pures_app, frV_pure, pure_vn, pure_sq, pure_bl, pure_int, pure_non, pure_str, pure_tup, pure_lst, pures_nil, pures_cons, Bool.and_true, Bool.true_and, Bool.and_self]; done) | omega | (apply LenLe.ok; (focus (with_reducible (repeat (first | apply LenLe.map | apply LenLe.filter | apply LenLe.srt | apply LenLe.sst | apply LenLe.rev | apply LenLe.cons | apply LenLe.append | exact LenLe.range _ | exact LenLe.rep _ _ | exact LenLe.nil | exact LenLe.bl1 _ _ | exact LenLe.self _)))); omega) | (simp -implicitDefEqProofs only [List.length_cons, List.length_nil, List.length_map, List.length_range, List.length_replicate, List.length_append]; omega) | assumption)) only [ev_nat, ev_var, ev_glo, gloV_nat, gloV_str, ev_bl, ev_non, ev_str, ev_bin, ev_cmp, ev_chn, ev_neg, ev_nt, ev_and, ev_or, ev_ite, ev_tup, ev_idx, ev_slc, ev_cal, ev_calk, ev_bi, ev_mth, ev_nl, ev_frz, ev_tupR, ev_lens, ev_minD, ev_bk, bkV_tup, bkV_lst, ← List.map_reverse, List.reverse_cons, List.reverse_nil, evn_lc2, keepL_t, compLL_G, cmpLM_range, cmpLR_all, cmpLM_all, evs_nil, evs_cons, evs_star, starV_some, revV_lst, evk_nil, evk_cons, evo_no, evo_yes, evn_disp, evn_ofs, evn_cat, evn_mul, evn_rng, evn_srt, evn_sst, evn_srtr, evn_rev, evn_lc, evc_no, evc_yes, evi_ex, evi_r1, evi_r2, evi_r3, evi_en, evi_zp, setT_n, setT_t, setTV_some, setTs_nil, setTs_cons, setTC_some, exe_set, exe_par, exe_setS, exe_augS, augSG_loc, exe_aug, augG_some, exe_ex, exe_ret, exe_retN, exe_ite, exe_whl, exe_fr, exe_fz, whlG_nx, exe_pass, exe_brk, exe_cnt, exes_nil, exes_cons, ↓seqV_nx, ↓seqV_rt, ↓seqV_bk, ↓seqV_ct, tgV_some, varV_some, chnV_bl, keepC_t, keepC_p, keepC_n, optV_n, optV_i, zpV_tt, zpV_ll, zip_map, cutT, cutL, itV_tup, itV_lst, itV_sq, enV_tup, enV_lst, enV_sq, nlV_f, nlV_t, augV_n, setAll, wipeS, start0, Out.nox_ok, bd_ok, bd_exn, bd_assoc, ↓reduceIte, decide_true, decide_false, Bool.false_eq_true, List.getElem?_cons_zero, List.getElem?_cons_succ, List.set_cons_zero, List.set_cons_succ, List.length_cons, List.length_nil, List.map_cons, List.map_nil, List.append_nil, List.nil_append, List.cons_append, List.replicate_zero, List.replicate_succ, Nat.sub_self, Nat.reduceSub, Nat.reduceAdd, Nat.reduceLeDiff, Nat.reduceLT, ret_rt, ret_nx, tru_bl, q_add, q_mod, q_fdiv, q_mul, q_sub, q_lt, q_le, q_gt, q_ge, q_eq, q_ne, q_abs, q_int, q_tru, q_isi, q_len_tup, q_len_lst, q_len_sq, items_tup, items_lst, items_sq, q_tup_sq, tuple_lst, tuple_tup, rng1V_n, rng2V_n, compL_G, cmpM_range, cmpM_all, cmpM_if, cmpM_none, cmpR_all, cmpR_if, cmpR_none, compL_nil, pures_map, pure_vn, pure_sq, fin_pure, mem_tup, mem_lst, mem_sq, eq_bls, ne_bls, isn_non, isn_int, isn_bl, isn_tup, isn_lst, isi_tup, isi_lst, isi_bl, isi_str, isi_non, lenV_ok, tupV_ok, ofsV_tup, ofsV_lst, ofsV_sq, catV2_l, bin_cat, mulV2_1, idxt_n, idxl_n, idxs_n, List.getD_cons_zero, List.getD_cons_succ, idx_last, set_lastN, app_last, mthV_last, frzV_last, fzV_last, len_last, tru_last, ofs_last, fin_dead, int_blN, mul1_b, mul1_n, mem_bls, nmem_bls, nmem_tup, nmem_lst, nmem_sq, rng3V_n, cut_nat, cut_to, cut_from, eq_tn, eq_ln, eq_lot, eq_lnil_v, ne_lnil_v, eq_lnil_n, ne_lnil_n, Bool.decide_eq_true, ne_lot, ne_tn, all_bl, any_bl]
        exact .pure ⟨_, rfl, by first | (simp -implicitDefEqProofs only [all_tt, pures_map, pures_app, frV_pure, pure_vn, pure_sq, pure_bl, pure_int, pure_non, pure_str, pure_tup, pure_lst, pures_nil, pures_cons, Bool.and_true, Bool.true_and, Bool.and_self]; done) | omega | (apply LenLe.ok; (focus (with_reducible (repeat (first | apply LenLe.map | apply LenLe.filter | apply LenLe.srt | apply LenLe.sst | apply LenLe.rev | apply LenLe.cons | apply LenLe.append | exact LenLe.range _ | exact LenLe.rep _ _ | exact LenLe.nil | exact LenLe.bl1 _ _ | exact LenLe.self _)))); omega) | (simp -implicitDefEqProofs only [List.length_cons, List.length_nil, List.length_map, List.length_range, List.length_replicate, List.length_append]; omega) | assumption, _, rfl, sub_range sl⟩
theorem lot_ok (k : Nat) {S T : Store} {β : Box} (M : Nat) (h1 : 0 < M) (h2 : M ≤ 1000) (hl : β.lim < 10000000000) :
    Dw S T β (M + 11) (run P (k + 4) 11 [.loc S.length, vn M] (S ++ boxV β :: T)) fun v => ∃ m xs, v = .tup [vn m, .tup (xs.map vn)] ∧ LotOk M m xs := by
  obtain ⟨_, β1, e1, l1, r, rfl, r1⟩ := take_ok (k + 2) (S := S) (T := T) (β := β) h1 (by omega) (by omega)
  obtain ⟨_, β2, e2, l2, xs, rfl, asc, lt⟩ := buckets_ok k (S := S) (T := T) (β := β1) (1 + r) (by omega) (by omega) (by omega)
  rw [run_eq P_11 rfl]
  simp -implicitDefEqProofs -dsimp (disch := (first | (simp -implicitDefEqProofs only [all_tt, pures_map, pures_app, frV_pure, pure_vn, pure_sq, pure_bl, pure_int, pure_non, pure_str, pure_tup, pure_lst, pures_nil, pures_cons, Bool.and_true, Bool.true_and, Bool.and_self]; done) | omega | (apply LenLe.ok; (focus (with_reducible (repeat (first | apply LenLe.map | apply LenLe.filter | apply LenLe.srt | apply LenLe.sst | apply LenLe.rev | apply LenLe.cons | apply LenLe.append | exact LenLe.range _ | exact LenLe.rep _ _ | exact LenLe.nil | exact LenLe.bl1 _ _ | exact LenLe.self _)))); omega) | (simp -implicitDefEqProofs only [List.length_cons, List.length_nil, List.length_map, List.length_range, List.length_replicate, List.length_append]; omega) | assumption)) only [ev_nat, ev_var, ev_glo, gloV_nat, gloV_str, ev_bl, ev_non, ev_str, ev_bin, ev_cmp, ev_chn, ev_neg, ev_nt, ev_and, ev_or, ev_ite, ev_tup, ev_idx, ev_slc, ev_cal, ev_calk, ev_bi, ev_mth, ev_nl, ev_frz, ev_tupR, ev_lens, ev_minD, ev_bk, bkV_tup, bkV_lst, ← List.map_reverse, List.reverse_cons, List.reverse_nil, evn_lc2, keepL_t, compLL_G, cmpLM_range, cmpLR_all, cmpLM_all, evs_nil, evs_cons, evs_star, starV_some, revV_lst, evk_nil, evk_cons, evo_no, evo_yes, evn_disp, evn_ofs, evn_cat, evn_mul, evn_rng, evn_srt, evn_sst, evn_srtr, evn_rev, evn_lc, evc_no, evc_yes, evi_ex, evi_r1, evi_r2, evi_r3, evi_en, evi_zp, setT_n, setT_t, setTV_some, setTs_nil, setTs_cons, setTC_some, exe_set, exe_par, exe_setS, exe_augS, augSG_loc, exe_aug, augG_some, exe_ex, exe_ret, exe_retN, exe_ite, exe_whl, exe_fr, exe_fz, whlG_nx, exe_pass, exe_brk, exe_cnt, exes_nil, exes_cons, ↓seqV_nx, ↓seqV_rt, ↓seqV_bk, ↓seqV_ct, tgV_some, varV_some, chnV_bl, keepC_t, keepC_p, keepC_n, optV_n, optV_i, zpV_tt, zpV_ll, zip_map, cutT, cutL, itV_tup, itV_lst, itV_sq, enV_tup, enV_lst, enV_sq, nlV_f, nlV_t, augV_n, setAll, wipeS, start0, Out.nox_ok, bd_ok, bd_exn, bd_assoc, ↓reduceIte, decide_true, decide_false, Bool.false_eq_true, List.getElem?_cons_zero, List.getElem?_cons_succ, List.set_cons_zero, List.set_cons_succ, List.length_cons, List.length_nil, List.map_cons, List.map_nil, List.append_nil, List.nil_append, List.cons_append, List.replicate_zero, List.replicate_succ, Nat.sub_self, Nat.reduceSub, Nat.reduceAdd, Nat.reduceLeDiff, Nat.reduceLT, ret_rt, ret_nx, tru_bl, q_add, q_mod, q_fdiv, q_mul, q_sub, q_lt, q_le, q_gt, q_ge, q_eq, q_ne, q_abs, q_int, q_tru, q_isi, q_len_tup, q_len_lst, q_len_sq, items_tup, items_lst, items_sq, q_tup_sq, tuple_lst, tuple_tup, rng1V_n, rng2V_n, compL_G, cmpM_range, cmpM_all, cmpM_if, cmpM_none, cmpR_all, cmpR_if, cmpR_none, compL_nil, pures_map, pure_vn, pure_sq, fin_pure, mem_tup, mem_lst, mem_sq, eq_bls, ne_bls, isn_non, isn_int, isn_bl, isn_tup, isn_lst, isi_tup, isi_lst, isi_bl, isi_str, isi_non, lenV_ok, tupV_ok, ofsV_tup, ofsV_lst, ofsV_sq, catV2_l, bin_cat, mulV2_1, idxt_n, idxl_n, idxs_n, List.getD_cons_zero, List.getD_cons_succ, idx_last, set_lastN, app_last, mthV_last, frzV_last, fzV_last, len_last, tru_last, ofs_last, fin_dead, int_blN, mul1_b, mul1_n, mem_bls, nmem_bls, nmem_tup, nmem_lst, nmem_sq, rng3V_n, cut_nat, cut_to, cut_from, eq_tn, eq_ln, eq_lot, eq_lnil_v, ne_lnil_v, eq_lnil_n, ne_lnil_n, Bool.decide_eq_true, ne_lot, ne_tn, all_bl, any_bl, d11, e1, e2]
  exact ⟨_, β2, fin_box0 (by first | (simp -implicitDefEqProofs only [all_tt, pures_map, pures_app, frV_pure, pure_vn, pure_sq, pure_bl, pure_int, pure_non, pure_str, pure_tup, pure_lst, pures_nil, pures_cons, Bool.and_true, Bool.true_and, Bool.and_self]; done) | omega | (apply LenLe.ok; (focus (with_reducible (repeat (first | apply LenLe.map | apply LenLe.filter | apply LenLe.srt | apply LenLe.sst | apply LenLe.rev | apply LenLe.cons | apply LenLe.append | exact LenLe.range _ | exact LenLe.rep _ _ | exact LenLe.nil | exact LenLe.bl1 _ _ | exact LenLe.self _)))); omega) | (simp -implicitDefEqProofs only [List.length_cons, List.length_nil, List.length_map, List.length_range, List.length_replicate, List.length_append]; omega) | assumption), by omega, 1 + r, xs, rfl, ⟨by omega, by omega, asc, lt⟩⟩
theorem moved_law (k : Nat) (S : Store) {M m : Nat} {xs : List Nat} (lo : LotOk M m xs) (hm : m ≤ 3000) (p : Nat) : run P (k + 1) 13 [.tup [vn m, .tup (xs.map vn)], vn p] S = .ok (.tup [vn m, .tup ((nusort (xs.map fun x => (x + p) % m)).map vn)]) S := by
  have m0 := lo.m0
  have hx := lo.len
  rw [nusort_nsort (moved_nodup lo)]
  have es := fun S => srtV_n S (xs.map fun x => (x + p) % m)
  simp only [List.map_map, Function.comp_def] at es
  rw [run_eq P_13 rfl]
  simp -implicitDefEqProofs -dsimp (disch := (first | (simp -implicitDefEqProofs only [all_tt, pures_map, pures_app, frV_pure, pure_vn, pure_sq, pure_bl, pure_int, pure_non, pure_str, pure_tup, pure_lst, pures_nil, pures_cons, Bool.and_true, Bool.true_and, Bool.and_self]; done) | omega | (apply LenLe.ok; (focus (with_reducible (repeat (first | apply LenLe.map | apply LenLe.filter | apply LenLe.srt | apply LenLe.sst | apply LenLe.rev | apply LenLe.cons | apply LenLe.append | exact LenLe.range _ | exact LenLe.rep _ _ | exact LenLe.nil | exact LenLe.bl1 _ _ | exact LenLe.self _)))); omega) | (simp -implicitDefEqProofs only [List.length_cons, List.length_nil, List.length_map, List.length_range, List.length_replicate, List.length_append]; omega) | assumption)) only [ev_nat, ev_var, ev_glo, gloV_nat, gloV_str, ev_bl, ev_non, ev_str, ev_bin, ev_cmp, ev_chn, ev_neg, ev_nt, ev_and, ev_or, ev_ite, ev_tup, ev_idx, ev_slc, ev_cal, ev_calk, ev_bi, ev_mth, ev_nl, ev_frz, ev_tupR, ev_lens, ev_minD, ev_bk, bkV_tup, bkV_lst, ← List.map_reverse, List.reverse_cons, List.reverse_nil, evn_lc2, keepL_t, compLL_G, cmpLM_range, cmpLR_all, cmpLM_all, evs_nil, evs_cons, evs_star, starV_some, revV_lst, evk_nil, evk_cons, evo_no, evo_yes, evn_disp, evn_ofs, evn_cat, evn_mul, evn_rng, evn_srt, evn_sst, evn_srtr, evn_rev, evn_lc, evc_no, evc_yes, evi_ex, evi_r1, evi_r2, evi_r3, evi_en, evi_zp, setT_n, setT_t, setTV_some, setTs_nil, setTs_cons, setTC_some, exe_set, exe_par, exe_setS, exe_augS, augSG_loc, exe_aug, augG_some, exe_ex, exe_ret, exe_retN, exe_ite, exe_whl, exe_fr, exe_fz, whlG_nx, exe_pass, exe_brk, exe_cnt, exes_nil, exes_cons, ↓seqV_nx, ↓seqV_rt, ↓seqV_bk, ↓seqV_ct, tgV_some, varV_some, chnV_bl, keepC_t, keepC_p, keepC_n, optV_n, optV_i, zpV_tt, zpV_ll, zip_map, cutT, cutL, itV_tup, itV_lst, itV_sq, enV_tup, enV_lst, enV_sq, nlV_f, nlV_t, augV_n, setAll, wipeS, start0, Out.nox_ok, bd_ok, bd_exn, bd_assoc, ↓reduceIte, decide_true, decide_false, Bool.false_eq_true, List.getElem?_cons_zero, List.getElem?_cons_succ, List.set_cons_zero, List.set_cons_succ, List.length_cons, List.length_nil, List.map_cons, List.map_nil, List.append_nil, List.nil_append, List.cons_append, List.replicate_zero, List.replicate_succ, Nat.sub_self, Nat.reduceSub, Nat.reduceAdd, Nat.reduceLeDiff, Nat.reduceLT, ret_rt, ret_nx, tru_bl, q_add, q_mod, q_fdiv, q_mul, q_sub, q_lt, q_le, q_gt, q_ge, q_eq, q_ne, q_abs, q_int, q_tru, q_isi, q_len_tup, q_len_lst, q_len_sq, items_tup, items_lst, items_sq, q_tup_sq, tuple_lst, tuple_tup, rng1V_n, rng2V_n, compL_G, cmpM_range, cmpM_all, cmpM_if, cmpM_none, cmpR_all, cmpR_if, cmpR_none, compL_nil, pures_map, pure_vn, pure_sq, fin_pure, mem_tup, mem_lst, mem_sq, eq_bls, ne_bls, isn_non, isn_int, isn_bl, isn_tup, isn_lst, isi_tup, isi_lst, isi_bl, isi_str, isi_non, lenV_ok, tupV_ok, ofsV_tup, ofsV_lst, ofsV_sq, catV2_l, bin_cat, mulV2_1, idxt_n, idxl_n, idxs_n, List.getD_cons_zero, List.getD_cons_succ, idx_last, set_lastN, app_last, mthV_last, frzV_last, fzV_last, len_last, tru_last, ofs_last, fin_dead, int_blN, mul1_b, mul1_n, mem_bls, nmem_bls, nmem_tup, nmem_lst, nmem_sq, rng3V_n, cut_nat, cut_to, cut_from, eq_tn, eq_ln, eq_lot, eq_lnil_v, ne_lnil_v, eq_lnil_n, ne_lnil_n, Bool.decide_eq_true, ne_lot, ne_tn, all_bl, any_bl, d13, es]
/-- the law, of its two parts -/
theorem says_of (hh : run P 19 12 [] [] = .ok (.bl true) []) (hr : ∀ (S : Store) (β : Box), β.lim = 0 → ∃ β', run P 19 14 [.loc S.length] (S ++ [boxV β]) = .ok (.bl true) (S ++ [boxV β'])) : DI.Says P 20 15 63 := by
  intro ns hn
  obtain ⟨cs, c0, c1, ec⟩ := cells_ok 18 [] ns hn
  have ec : run P 19 7 [.scr ns, vn 3] [] = .ok (.lst (cs.map Val.int)) [] := ec
  rw [show (20 : Nat) = 19 + 1 from rfl, run_eq P_15 rfl]
  have hl : (cs.map Val.int).length = cs.length := List.length_map ..
  simp -implicitDefEqProofs -dsimp (disch := (first | (simp -implicitDefEqProofs only [all_tt, pures_map, pures_app, frV_pure, pure_vn, pure_sq, pure_bl, pure_int, pure_non, pure_str, pure_tup, pure_lst, pures_nil, pures_cons, Bool.and_true, Bool.true_and, Bool.and_self]; done) | omega | (apply LenLe.ok; (focus (with_reducible (repeat (first | apply LenLe.map | apply LenLe.filter | apply LenLe.srt | apply LenLe.sst | apply LenLe.rev | apply LenLe.cons | apply LenLe.append | exact LenLe.range _ | exact LenLe.rep _ _ | exact LenLe.nil | exact LenLe.bl1 _ _ | exact LenLe.self _)))); omega) | (simp -implicitDefEqProofs only [List.length_cons, List.length_nil, List.length_map, List.length_range, List.length_replicate, List.length_append]; omega) | assumption)) only [ev_nat, ev_var, ev_glo, gloV_nat, gloV_str, ev_bl, ev_non, ev_str, ev_bin, ev_cmp, ev_chn, ev_neg, ev_nt, ev_and, ev_or, ev_ite, ev_tup, ev_idx, ev_slc, ev_cal, ev_calk, ev_bi, ev_mth, ev_nl, ev_frz, ev_tupR, ev_lens, ev_minD, ev_bk, bkV_tup, bkV_lst, ← List.map_reverse, List.reverse_cons, List.reverse_nil, evn_lc2, keepL_t, compLL_G, cmpLM_range, cmpLR_all, cmpLM_all, evs_nil, evs_cons, evs_star, starV_some, revV_lst, evk_nil, evk_cons, evo_no, evo_yes, evn_disp, evn_ofs, evn_cat, evn_mul, evn_rng, evn_srt, evn_sst, evn_srtr, evn_rev, evn_lc, evc_no, evc_yes, evi_ex, evi_r1, evi_r2, evi_r3, evi_en, evi_zp, setT_n, setT_t, setTV_some, setTs_nil, setTs_cons, setTC_some, exe_set, exe_par, exe_setS, exe_augS, augSG_loc, exe_aug, augG_some, exe_ex, exe_ret, exe_retN, exe_ite, exe_whl, exe_fr, exe_fz, whlG_nx, exe_pass, exe_brk, exe_cnt, exes_nil, exes_cons, ↓seqV_nx, ↓seqV_rt, ↓seqV_bk, ↓seqV_ct, tgV_some, varV_some, chnV_bl, keepC_t, keepC_p, keepC_n, optV_n, optV_i, zpV_tt, zpV_ll, zip_map, cutT, cutL, itV_tup, itV_lst, itV_sq, enV_tup, enV_lst, enV_sq, nlV_f, nlV_t, augV_n, setAll, wipeS, start0, Out.nox_ok, bd_ok, bd_exn, bd_assoc, ↓reduceIte, decide_true, decide_false, Bool.false_eq_true, List.getElem?_cons_zero, List.getElem?_cons_succ, List.set_cons_zero, List.set_cons_succ, List.length_cons, List.length_nil, List.map_cons, List.map_nil, List.append_nil, List.nil_append, List.cons_append, List.replicate_zero, List.replicate_succ, Nat.sub_self, Nat.reduceSub, Nat.reduceAdd, Nat.reduceLeDiff, Nat.reduceLT, ret_rt, ret_nx, tru_bl, q_add, q_mod, q_fdiv, q_mul, q_sub, q_lt, q_le, q_gt, q_ge, q_eq, q_ne, q_abs, q_int, q_tru, q_isi, q_len_tup, q_len_lst, q_len_sq, items_tup, items_lst, items_sq, q_tup_sq, tuple_lst, tuple_tup, rng1V_n, rng2V_n, compL_G, cmpM_range, cmpM_all, cmpM_if, cmpM_none, cmpR_all, cmpR_if, cmpR_none, compL_nil, pures_map, pure_vn, pure_sq, fin_pure, mem_tup, mem_lst, mem_sq, eq_bls, ne_bls, isn_non, isn_int, isn_bl, isn_tup, isn_lst, isi_tup, isi_lst, isi_bl, isi_str, isi_non, lenV_ok, tupV_ok, ofsV_tup, ofsV_lst, ofsV_sq, catV2_l, bin_cat, mulV2_1, idxt_n, idxl_n, idxs_n, List.getD_cons_zero, List.getD_cons_succ, idx_last, set_lastN, app_last, mthV_last, frzV_last, fzV_last, len_last, tru_last, ofs_last, fin_dead, int_blN, mul1_b, mul1_n, mem_bls, nmem_bls, nmem_tup, nmem_lst, nmem_sq, rng3V_n, cut_nat, cut_to, cut_from, eq_tn, eq_ln, eq_lot, eq_lnil_v, ne_lnil_v, eq_lnil_n, ne_lnil_n, Bool.decide_eq_true, ne_lot, ne_tn, all_bl, any_bl, d15, ec, hh, Bool.not_true, hl]
  refine cmpR_then (F := retOf []) (v := .bl true) _ (fun i hi S => ?_) fun S' => ?_
  · obtain ⟨a, b, eb⟩ := box_ok 18 (S := S) cs i hi (by omega)
    have eb : run P 19 5 [Val.lst (List.map Val.int cs), vn i] S = .ok (.loc S.length) (S ++ [boxV ⟨a, b, 0, 0, by decide, by decide⟩]) := eb
    obtain ⟨β', er⟩ := hr S ⟨a, b, 0, 0, by decide, by decide⟩ rfl
    refine ⟨S ++ [boxV β'], ?_⟩
    simp -implicitDefEqProofs -dsimp (disch := (first | (simp -implicitDefEqProofs only [all_tt, pures_map, pures_app, frV_pure, pure_vn, pure_sq, pure_bl, pure_int, pure_non, pure_str, pure_tup, pure_lst, pures_nil, pures_cons, Bool.and_true, Bool.true_and, Bool.and_self]; done) | omega | (apply LenLe.ok; (focus (with_reducible (repeat (first | apply LenLe.map | apply LenLe.filter | apply LenLe.srt | apply LenLe.sst | apply LenLe.rev | apply LenLe.cons | apply LenLe.append | exact LenLe.range _ | exact LenLe.rep _ _ | exact LenLe.nil | exact LenLe.bl1 _ _ | exact LenLe.self _)))); omega) | (simp -implicitDefEqProofs only [List.length_cons, List.length_nil, List.length_map, List.length_range, List.length_replicate, List.length_append]; omega) | assumption)) only [ev_nat, ev_var, ev_glo, gloV_nat, gloV_str, ev_bl, ev_non, ev_str, ev_bin, ev_cmp, ev_chn, ev_neg, ev_nt, ev_and, ev_or, ev_ite, ev_tup, ev_idx, ev_slc, ev_cal, ev_calk, ev_bi, ev_mth, ev_nl, ev_frz, ev_tupR, ev_lens, ev_minD, ev_bk, bkV_tup, bkV_lst, ← List.map_reverse, List.reverse_cons, List.reverse_nil, evn_lc2, keepL_t, compLL_G, cmpLM_range, cmpLR_all, cmpLM_all, evs_nil, evs_cons, evs_star, starV_some, revV_lst, evk_nil, evk_cons, evo_no, evo_yes, evn_disp, evn_ofs, evn_cat, evn_mul, evn_rng, evn_srt, evn_sst, evn_srtr, evn_rev, evn_lc, evc_no, evc_yes, evi_ex, evi_r1, evi_r2, evi_r3, evi_en, evi_zp, setT_n, setT_t, setTV_some, setTs_nil, setTs_cons, setTC_some, exe_set, exe_par, exe_setS, exe_augS, augSG_loc, exe_aug, augG_some, exe_ex, exe_ret, exe_retN, exe_ite, exe_whl, exe_fr, exe_fz, whlG_nx, exe_pass, exe_brk, exe_cnt, exes_nil, exes_cons, ↓seqV_nx, ↓seqV_rt, ↓seqV_bk, ↓seqV_ct, tgV_some, varV_some, chnV_bl, keepC_t, keepC_p, keepC_n, optV_n, optV_i, zpV_tt, zpV_ll, zip_map, cutT, cutL, itV_tup, itV_lst, itV_sq, enV_tup, enV_lst, enV_sq, nlV_f, nlV_t, augV_n, setAll, wipeS, start0, Out.nox_ok, bd_ok, bd_exn, bd_assoc, ↓reduceIte, decide_true, decide_false, Bool.false_eq_true, List.getElem?_cons_zero, List.getElem?_cons_succ, List.set_cons_zero, List.set_cons_succ, List.length_cons, List.length_nil, List.map_cons, List.map_nil, List.append_nil, List.nil_append, List.cons_append, List.replicate_zero, List.replicate_succ, Nat.sub_self, Nat.reduceSub, Nat.reduceAdd, Nat.reduceLeDiff, Nat.reduceLT, ret_rt, ret_nx, tru_bl, q_add, q_mod, q_fdiv, q_mul, q_sub, q_lt, q_le, q_gt, q_ge, q_eq, q_ne, q_abs, q_int, q_tru, q_isi, q_len_tup, q_len_lst, q_len_sq, items_tup, items_lst, items_sq, q_tup_sq, tuple_lst, tuple_tup, rng1V_n, rng2V_n, compL_G, cmpM_range, cmpM_all, cmpM_if, cmpM_none, cmpR_all, cmpR_if, cmpR_none, compL_nil, pures_map, pure_vn, pure_sq, fin_pure, mem_tup, mem_lst, mem_sq, eq_bls, ne_bls, isn_non, isn_int, isn_bl, isn_tup, isn_lst, isi_tup, isi_lst, isi_bl, isi_str, isi_non, lenV_ok, tupV_ok, ofsV_tup, ofsV_lst, ofsV_sq, catV2_l, bin_cat, mulV2_1, idxt_n, idxl_n, idxs_n, List.getD_cons_zero, List.getD_cons_succ, idx_last, set_lastN, app_last, mthV_last, frzV_last, fzV_last, len_last, tru_last, ofs_last, fin_dead, int_blN, mul1_b, mul1_n, mem_bls, nmem_bls, nmem_tup, nmem_lst, nmem_sq, rng3V_n, cut_nat, cut_to, cut_from, eq_tn, eq_ln, eq_lot, eq_lnil_v, ne_lnil_v, eq_lnil_n, ne_lnil_n, Bool.decide_eq_true, ne_lot, ne_tn, all_bl, any_bl, eb, er]
  have hm : ((List.range cs.length).map fun _ => Val.bl true) = ((List.range cs.length).map fun _ => true).map Val.bl := by rw [List.map_map]; rfl
  have ha : biop .all [.lst ((List.range cs.length).map fun _ => Val.bl true)] S' = .ok (.bl true) S' := by
    have h2 : ((List.range cs.length).map fun _ => true).all id = true := by simp
    rw [hm, all_bls, h2]
  simp -implicitDefEqProofs -dsimp (disch := (first | (simp -implicitDefEqProofs only [all_tt, pures_map, pures_app, frV_pure, pure_vn, pure_sq, pure_bl, pure_int, pure_non, pure_str, pure_tup, pure_lst, pures_nil, pures_cons, Bool.and_true, Bool.true_and, Bool.and_self]; done) | omega | (apply LenLe.ok; (focus (with_reducible (repeat (first | apply LenLe.map | apply LenLe.filter | apply LenLe.srt | apply LenLe.sst | apply LenLe.rev | apply LenLe.cons | apply LenLe.append | exact LenLe.range _ | exact LenLe.rep _ _ | exact LenLe.nil | exact LenLe.bl1 _ _ | exact LenLe.self _)))); omega) | (simp -implicitDefEqProofs only [List.length_cons, List.length_nil, List.length_map, List.length_range, List.length_replicate, List.length_append]; omega) | assumption)) only [ev_nat, ev_var, ev_glo, gloV_nat, gloV_str, ev_bl, ev_non, ev_str, ev_bin, ev_cmp, ev_chn, ev_neg, ev_nt, ev_and, ev_or, ev_ite, ev_tup, ev_idx, ev_slc, ev_cal, ev_calk, ev_bi, ev_mth, ev_nl, ev_frz, ev_tupR, ev_lens, ev_minD, ev_bk, bkV_tup, bkV_lst, ← List.map_reverse, List.reverse_cons, List.reverse_nil, evn_lc2, keepL_t, compLL_G, cmpLM_range, cmpLR_all, cmpLM_all, evs_nil, evs_cons, evs_star, starV_some, revV_lst, evk_nil, evk_cons, evo_no, evo_yes, evn_disp, evn_ofs, evn_cat, evn_mul, evn_rng, evn_srt, evn_sst, evn_srtr, evn_rev, evn_lc, evc_no, evc_yes, evi_ex, evi_r1, evi_r2, evi_r3, evi_en, evi_zp, setT_n, setT_t, setTV_some, setTs_nil, setTs_cons, setTC_some, exe_set, exe_par, exe_setS, exe_augS, augSG_loc, exe_aug, augG_some, exe_ex, exe_ret, exe_retN, exe_ite, exe_whl, exe_fr, exe_fz, whlG_nx, exe_pass, exe_brk, exe_cnt, exes_nil, exes_cons, ↓seqV_nx, ↓seqV_rt, ↓seqV_bk, ↓seqV_ct, tgV_some, varV_some, chnV_bl, keepC_t, keepC_p, keepC_n, optV_n, optV_i, zpV_tt, zpV_ll, zip_map, cutT, cutL, itV_tup, itV_lst, itV_sq, enV_tup, enV_lst, enV_sq, nlV_f, nlV_t, augV_n, setAll, wipeS, start0, Out.nox_ok, bd_ok, bd_exn, bd_assoc, ↓reduceIte, decide_true, decide_false, Bool.false_eq_true, List.getElem?_cons_zero, List.getElem?_cons_succ, List.set_cons_zero, List.set_cons_succ, List.length_cons, List.length_nil, List.map_cons, List.map_nil, List.append_nil, List.nil_append, List.cons_append, List.replicate_zero, List.replicate_succ, Nat.sub_self, Nat.reduceSub, Nat.reduceAdd, Nat.reduceLeDiff, Nat.reduceLT, ret_rt, ret_nx, tru_bl, q_add, q_mod, q_fdiv, q_mul, q_sub, q_lt, q_le, q_gt, q_ge, q_eq, q_ne, q_abs, q_int, q_tru, q_isi, q_len_tup, q_len_lst, q_len_sq, items_tup, items_lst, items_sq, q_tup_sq, tuple_lst, tuple_tup, rng1V_n, rng2V_n, compL_G, cmpM_range, cmpM_all, cmpM_if, cmpM_none, cmpR_all, cmpR_if, cmpR_none, compL_nil, pures_map, pure_vn, pure_sq, fin_pure, mem_tup, mem_lst, mem_sq, eq_bls, ne_bls, isn_non, isn_int, isn_bl, isn_tup, isn_lst, isi_tup, isi_lst, isi_bl, isi_str, isi_non, lenV_ok, tupV_ok, ofsV_tup, ofsV_lst, ofsV_sq, catV2_l, bin_cat, mulV2_1, idxt_n, idxl_n, idxs_n, List.getD_cons_zero, List.getD_cons_succ, idx_last, set_lastN, app_last, mthV_last, frzV_last, fzV_last, len_last, tru_last, ofs_last, fin_dead, int_blN, mul1_b, mul1_n, mem_bls, nmem_bls, nmem_tup, nmem_lst, nmem_sq, rng3V_n, cut_nat, cut_to, cut_from, eq_tn, eq_ln, eq_lot, eq_lnil_v, ne_lnil_v, eq_lnil_n, ne_lnil_n, Bool.decide_eq_true, ne_lot, ne_tn, all_bl, any_bl, ha]
  simp [fin, Val.bel, gcOk]
end K10
namespace K10
open DI
theorem set_of_ok (k : Nat) (S : Store) (l : List Nat) (h : (nusort l).length < 64) (h2 : l.length < 4000) : run P (k + 1) 0 [.lst (l.map vn)] S = .ok (.tup ((nusort l).map vn)) S := by
  rw [run_eq P_0 rfl]
  have e := sstV_n S true h h2
  rw [sq_t] at e
  simp -implicitDefEqProofs -dsimp (disch := (first | (simp -implicitDefEqProofs only [all_tt, pures_map, pures_app, frV_pure, pure_vn, pure_sq, pure_bl, pure_int, pure_non, pure_str, pure_tup, pure_lst, pures_nil, pures_cons, Bool.and_true, Bool.true_and, Bool.and_self]; done) | omega | (apply LenLe.ok; (focus (with_reducible (repeat (first | apply LenLe.map | apply LenLe.filter | apply LenLe.srt | apply LenLe.sst | apply LenLe.rev | apply LenLe.cons | apply LenLe.append | exact LenLe.range _ | exact LenLe.rep _ _ | exact LenLe.nil | exact LenLe.bl1 _ _ | exact LenLe.self _)))); omega) | (simp -implicitDefEqProofs only [List.length_cons, List.length_nil, List.length_map, List.length_range, List.length_replicate, List.length_append]; omega) | assumption)) only [ev_nat, ev_var, ev_glo, gloV_nat, gloV_str, ev_bl, ev_non, ev_str, ev_bin, ev_cmp, ev_chn, ev_neg, ev_nt, ev_and, ev_or, ev_ite, ev_tup, ev_idx, ev_slc, ev_cal, ev_calk, ev_bi, ev_mth, ev_nl, ev_frz, ev_tupR, ev_lens, ev_minD, ev_bk, bkV_tup, bkV_lst, ← List.map_reverse, List.reverse_cons, List.reverse_nil, evn_lc2, keepL_t, compLL_G, cmpLM_range, cmpLR_all, cmpLM_all, evs_nil, evs_cons, evs_star, starV_some, revV_lst, evk_nil, evk_cons, evo_no, evo_yes, evn_disp, evn_ofs, evn_cat, evn_mul, evn_rng, evn_srt, evn_sst, evn_srtr, evn_rev, evn_lc, evc_no, evc_yes, evi_ex, evi_r1, evi_r2, evi_r3, evi_en, evi_zp, setT_n, setT_t, setTV_some, setTs_nil, setTs_cons, setTC_some, exe_set, exe_par, exe_setS, exe_augS, augSG_loc, exe_aug, augG_some, exe_ex, exe_ret, exe_retN, exe_ite, exe_whl, exe_fr, exe_fz, whlG_nx, exe_pass, exe_brk, exe_cnt, exes_nil, exes_cons, ↓seqV_nx, ↓seqV_rt, ↓seqV_bk, ↓seqV_ct, tgV_some, varV_some, chnV_bl, keepC_t, keepC_p, keepC_n, optV_n, optV_i, zpV_tt, zpV_ll, zip_map, cutT, cutL, itV_tup, itV_lst, itV_sq, enV_tup, enV_lst, enV_sq, nlV_f, nlV_t, augV_n, setAll, wipeS, start0, Out.nox_ok, bd_ok, bd_exn, bd_assoc, ↓reduceIte, decide_true, decide_false, Bool.false_eq_true, List.getElem?_cons_zero, List.getElem?_cons_succ, List.set_cons_zero, List.set_cons_succ, List.length_cons, List.length_nil, List.map_cons, List.map_nil, List.append_nil, List.nil_append, List.cons_append, List.replicate_zero, List.replicate_succ, Nat.sub_self, Nat.reduceSub, Nat.reduceAdd, Nat.reduceLeDiff, Nat.reduceLT, ret_rt, ret_nx, tru_bl, q_add, q_mod, q_fdiv, q_mul, q_sub, q_lt, q_le, q_gt, q_ge, q_eq, q_ne, q_abs, q_int, q_tru, q_isi, q_len_tup, q_len_lst, q_len_sq, items_tup, items_lst, items_sq, q_tup_sq, tuple_lst, tuple_tup, rng1V_n, rng2V_n, compL_G, cmpM_range, cmpM_all, cmpM_if, cmpM_none, cmpR_all, cmpR_if, cmpR_none, compL_nil, pures_map, pure_vn, pure_sq, fin_pure, mem_tup, mem_lst, mem_sq, eq_bls, ne_bls, isn_non, isn_int, isn_bl, isn_tup, isn_lst, isi_tup, isi_lst, isi_bl, isi_str, isi_non, lenV_ok, tupV_ok, ofsV_tup, ofsV_lst, ofsV_sq, catV2_l, bin_cat, mulV2_1, idxt_n, idxl_n, idxs_n, List.getD_cons_zero, List.getD_cons_succ, idx_last, set_lastN, app_last, mthV_last, frzV_last, fzV_last, len_last, tru_last, ofs_last, fin_dead, int_blN, mul1_b, mul1_n, mem_bls, nmem_bls, nmem_tup, nmem_lst, nmem_sq, rng3V_n, cut_nat, cut_to, cut_from, eq_tn, eq_ln, eq_lot, eq_lnil_v, ne_lnil_v, eq_lnil_n, ne_lnil_n, Bool.decide_eq_true, ne_lot, ne_tn, all_bl, any_bl, d0, e]
theorem turned_ok (k : Nat) (S : Store) (b c : Bool) (m p : Nat) (xs : List Nat) (hm : 0 < m) (hm2 : m < 64) (hx : xs.length < 4000) :
    run P (k + 2) 1 [sq b [vn m, sq c (xs.map vn)], vn p] S = .ok (.tup [vn m, .tup ((nusort (xs.map fun x => (x + p) % m)).map vn)]) S := by
  rw [run_eq P_1 rfl]
  have e := set_of_ok k S (xs.map fun x => (x + p) % m) (Nat.lt_of_le_of_lt (nusort_bound (m := m) fun x hx => by obtain ⟨y, _, rfl⟩ := List.mem_map.mp hx; exact Nat.mod_lt _ hm) hm2) (by rw [List.length_map]; exact hx)
  simp only [List.map_map, Function.comp_def] at e
  simp -implicitDefEqProofs -dsimp (disch := (first | (simp -implicitDefEqProofs only [all_tt, pures_map, pures_app, frV_pure, pure_vn, pure_sq, pure_bl, pure_int, pure_non, pure_str, pure_tup, pure_lst, pures_nil, pures_cons, Bool.and_true, Bool.true_and, Bool.and_self]; done) | omega | (apply LenLe.ok; (focus (with_reducible (repeat (first | apply LenLe.map | apply LenLe.filter | apply LenLe.srt | apply LenLe.sst | apply LenLe.rev | apply LenLe.cons | apply LenLe.append | exact LenLe.range _ | exact LenLe.rep _ _ | exact LenLe.nil | exact LenLe.bl1 _ _ | exact LenLe.self _)))); omega) | (simp -implicitDefEqProofs only [List.length_cons, List.length_nil, List.length_map, List.length_range, List.length_replicate, List.length_append]; omega) | assumption)) only [ev_nat, ev_var, ev_glo, gloV_nat, gloV_str, ev_bl, ev_non, ev_str, ev_bin, ev_cmp, ev_chn, ev_neg, ev_nt, ev_and, ev_or, ev_ite, ev_tup, ev_idx, ev_slc, ev_cal, ev_calk, ev_bi, ev_mth, ev_nl, ev_frz, ev_tupR, ev_lens, ev_minD, ev_bk, bkV_tup, bkV_lst, ← List.map_reverse, List.reverse_cons, List.reverse_nil, evn_lc2, keepL_t, compLL_G, cmpLM_range, cmpLR_all, cmpLM_all, evs_nil, evs_cons, evs_star, starV_some, revV_lst, evk_nil, evk_cons, evo_no, evo_yes, evn_disp, evn_ofs, evn_cat, evn_mul, evn_rng, evn_srt, evn_sst, evn_srtr, evn_rev, evn_lc, evc_no, evc_yes, evi_ex, evi_r1, evi_r2, evi_r3, evi_en, evi_zp, setT_n, setT_t, setTV_some, setTs_nil, setTs_cons, setTC_some, exe_set, exe_par, exe_setS, exe_augS, augSG_loc, exe_aug, augG_some, exe_ex, exe_ret, exe_retN, exe_ite, exe_whl, exe_fr, exe_fz, whlG_nx, exe_pass, exe_brk, exe_cnt, exes_nil, exes_cons, ↓seqV_nx, ↓seqV_rt, ↓seqV_bk, ↓seqV_ct, tgV_some, varV_some, chnV_bl, keepC_t, keepC_p, keepC_n, optV_n, optV_i, zpV_tt, zpV_ll, zip_map, cutT, cutL, itV_tup, itV_lst, itV_sq, enV_tup, enV_lst, enV_sq, nlV_f, nlV_t, augV_n, setAll, wipeS, start0, Out.nox_ok, bd_ok, bd_exn, bd_assoc, ↓reduceIte, decide_true, decide_false, Bool.false_eq_true, List.getElem?_cons_zero, List.getElem?_cons_succ, List.set_cons_zero, List.set_cons_succ, List.length_cons, List.length_nil, List.map_cons, List.map_nil, List.append_nil, List.nil_append, List.cons_append, List.replicate_zero, List.replicate_succ, Nat.sub_self, Nat.reduceSub, Nat.reduceAdd, Nat.reduceLeDiff, Nat.reduceLT, ret_rt, ret_nx, tru_bl, q_add, q_mod, q_fdiv, q_mul, q_sub, q_lt, q_le, q_gt, q_ge, q_eq, q_ne, q_abs, q_int, q_tru, q_isi, q_len_tup, q_len_lst, q_len_sq, items_tup, items_lst, items_sq, q_tup_sq, tuple_lst, tuple_tup, rng1V_n, rng2V_n, compL_G, cmpM_range, cmpM_all, cmpM_if, cmpM_none, cmpR_all, cmpR_if, cmpR_none, compL_nil, pures_map, pure_vn, pure_sq, fin_pure, mem_tup, mem_lst, mem_sq, eq_bls, ne_bls, isn_non, isn_int, isn_bl, isn_tup, isn_lst, isi_tup, isi_lst, isi_bl, isi_str, isi_non, lenV_ok, tupV_ok, ofsV_tup, ofsV_lst, ofsV_sq, catV2_l, bin_cat, mulV2_1, idxt_n, idxl_n, idxs_n, List.getD_cons_zero, List.getD_cons_succ, idx_last, set_lastN, app_last, mthV_last, frzV_last, fzV_last, len_last, tru_last, ofs_last, fin_dead, int_blN, mul1_b, mul1_n, mem_bls, nmem_bls, nmem_tup, nmem_lst, nmem_sq, rng3V_n, cut_nat, cut_to, cut_from, eq_tn, eq_ln, eq_lot, eq_lnil_v, ne_lnil_v, eq_lnil_n, ne_lnil_n, Bool.decide_eq_true, ne_lot, ne_tn, all_bl, any_bl, d1, e]
theorem run_whl (k : Nat) (S : Store) (s1 t1) {m : Nat} {xs : List Nat} {s : Nat} (m0 : 0 < m) (o0 o3 : Option Val) (r2 : (s + runL m xs s) % m ∉ xs) (r1 : ∀ j, j < runL m xs s → (s + j) % m ∈ xs) : ∀ (d j n : Nat), j + d = runL m xs s → d < n →
    whlT (fun r1 S1 => bd (ev P (run P k) (.cmp .mem (.bin .mod (.bin .add (.var 4) (.var 5)) (.var 1)) (.var 2)) r1 S1) tru .mk) (fun r1 S1 => exes P (run P k) b2_0 r1 S1) s1 t1 n [o0, some (vn m), some (.tup (xs.map vn)), o3, some (vn s), some (vn j)] S = .ok (.nx, [o0, some (vn m), some (.tup (xs.map vn)), o3, some (vn s), some (vn (runL m xs s))]) S
  | 0, j, n + 1, hj, _ => by
    rw [Nat.add_zero] at hj
    subst hj
    rw [whlT_0]
    simp -implicitDefEqProofs -dsimp (disch := (first | (simp -implicitDefEqProofs only [all_tt, pures_map, pures_app, frV_pure, pure_vn, pure_sq, pure_bl, pure_int, pure_non, pure_str, pure_tup, pure_lst, pures_nil, pures_cons, Bool.and_true, Bool.true_and, Bool.and_self]; done) | omega | (apply LenLe.ok; (focus (with_reducible (repeat (first | apply LenLe.map | apply LenLe.filter | apply LenLe.srt | apply LenLe.sst | apply LenLe.rev | apply LenLe.cons | apply LenLe.append | exact LenLe.range _ | exact LenLe.rep _ _ | exact LenLe.nil | exact LenLe.bl1 _ _ | exact LenLe.self _)))); omega) | (simp -implicitDefEqProofs only [List.length_cons, List.length_nil, List.length_map, List.length_range, List.length_replicate, List.length_append]; omega) | assumption)) only [ev_nat, ev_var, ev_glo, gloV_nat, gloV_str, ev_bl, ev_non, ev_str, ev_bin, ev_cmp, ev_chn, ev_neg, ev_nt, ev_and, ev_or, ev_ite, ev_tup, ev_idx, ev_slc, ev_cal, ev_calk, ev_bi, ev_mth, ev_nl, ev_frz, ev_tupR, ev_lens, ev_minD, ev_bk, bkV_tup, bkV_lst, ← List.map_reverse, List.reverse_cons, List.reverse_nil, evn_lc2, keepL_t, compLL_G, cmpLM_range, cmpLR_all, cmpLM_all, evs_nil, evs_cons, evs_star, starV_some, revV_lst, evk_nil, evk_cons, evo_no, evo_yes, evn_disp, evn_ofs, evn_cat, evn_mul, evn_rng, evn_srt, evn_sst, evn_srtr, evn_rev, evn_lc, evc_no, evc_yes, evi_ex, evi_r1, evi_r2, evi_r3, evi_en, evi_zp, setT_n, setT_t, setTV_some, setTs_nil, setTs_cons, setTC_some, exe_set, exe_par, exe_setS, exe_augS, augSG_loc, exe_aug, augG_some, exe_ex, exe_ret, exe_retN, exe_ite, exe_whl, exe_fr, exe_fz, whlG_nx, exe_pass, exe_brk, exe_cnt, exes_nil, exes_cons, ↓seqV_nx, ↓seqV_rt, ↓seqV_bk, ↓seqV_ct, tgV_some, varV_some, chnV_bl, keepC_t, keepC_p, keepC_n, optV_n, optV_i, zpV_tt, zpV_ll, zip_map, cutT, cutL, itV_tup, itV_lst, itV_sq, enV_tup, enV_lst, enV_sq, nlV_f, nlV_t, augV_n, setAll, wipeS, start0, Out.nox_ok, bd_ok, bd_exn, bd_assoc, ↓reduceIte, decide_true, decide_false, Bool.false_eq_true, List.getElem?_cons_zero, List.getElem?_cons_succ, List.set_cons_zero, List.set_cons_succ, List.length_cons, List.length_nil, List.map_cons, List.map_nil, List.append_nil, List.nil_append, List.cons_append, List.replicate_zero, List.replicate_succ, Nat.sub_self, Nat.reduceSub, Nat.reduceAdd, Nat.reduceLeDiff, Nat.reduceLT, ret_rt, ret_nx, tru_bl, q_add, q_mod, q_fdiv, q_mul, q_sub, q_lt, q_le, q_gt, q_ge, q_eq, q_ne, q_abs, q_int, q_tru, q_isi, q_len_tup, q_len_lst, q_len_sq, items_tup, items_lst, items_sq, q_tup_sq, tuple_lst, tuple_tup, rng1V_n, rng2V_n, compL_G, cmpM_range, cmpM_all, cmpM_if, cmpM_none, cmpR_all, cmpR_if, cmpR_none, compL_nil, pures_map, pure_vn, pure_sq, fin_pure, mem_tup, mem_lst, mem_sq, eq_bls, ne_bls, isn_non, isn_int, isn_bl, isn_tup, isn_lst, isi_tup, isi_lst, isi_bl, isi_str, isi_non, lenV_ok, tupV_ok, ofsV_tup, ofsV_lst, ofsV_sq, catV2_l, bin_cat, mulV2_1, idxt_n, idxl_n, idxs_n, List.getD_cons_zero, List.getD_cons_succ, idx_last, set_lastN, app_last, mthV_last, frzV_last, fzV_last, len_last, tru_last, ofs_last, fin_dead, int_blN, mul1_b, mul1_n, mem_bls, nmem_bls, nmem_tup, nmem_lst, nmem_sq, rng3V_n, cut_nat, cut_to, cut_from, eq_tn, eq_ln, eq_lot, eq_lnil_v, ne_lnil_v, eq_lnil_n, ne_lnil_n, Bool.decide_eq_true, ne_lot, ne_tn, all_bl, any_bl, r2]
  | d + 1, j, n + 1, hj, hn => by
    have h := r1 j (by omega)
    rw [whlT_0]
    simp -implicitDefEqProofs -dsimp (disch := (first | (simp -implicitDefEqProofs only [all_tt, pures_map, pures_app, frV_pure, pure_vn, pure_sq, pure_bl, pure_int, pure_non, pure_str, pure_tup, pure_lst, pures_nil, pures_cons, Bool.and_true, Bool.true_and, Bool.and_self]; done) | omega | (apply LenLe.ok; (focus (with_reducible (repeat (first | apply LenLe.map | apply LenLe.filter | apply LenLe.srt | apply LenLe.sst | apply LenLe.rev | apply LenLe.cons | apply LenLe.append | exact LenLe.range _ | exact LenLe.rep _ _ | exact LenLe.nil | exact LenLe.bl1 _ _ | exact LenLe.self _)))); omega) | (simp -implicitDefEqProofs only [List.length_cons, List.length_nil, List.length_map, List.length_range, List.length_replicate, List.length_append]; omega) | assumption)) only [ev_nat, ev_var, ev_glo, gloV_nat, gloV_str, ev_bl, ev_non, ev_str, ev_bin, ev_cmp, ev_chn, ev_neg, ev_nt, ev_and, ev_or, ev_ite, ev_tup, ev_idx, ev_slc, ev_cal, ev_calk, ev_bi, ev_mth, ev_nl, ev_frz, ev_tupR, ev_lens, ev_minD, ev_bk, bkV_tup, bkV_lst, ← List.map_reverse, List.reverse_cons, List.reverse_nil, evn_lc2, keepL_t, compLL_G, cmpLM_range, cmpLR_all, cmpLM_all, evs_nil, evs_cons, evs_star, starV_some, revV_lst, evk_nil, evk_cons, evo_no, evo_yes, evn_disp, evn_ofs, evn_cat, evn_mul, evn_rng, evn_srt, evn_sst, evn_srtr, evn_rev, evn_lc, evc_no, evc_yes, evi_ex, evi_r1, evi_r2, evi_r3, evi_en, evi_zp, setT_n, setT_t, setTV_some, setTs_nil, setTs_cons, setTC_some, exe_set, exe_par, exe_setS, exe_augS, augSG_loc, exe_aug, augG_some, exe_ex, exe_ret, exe_retN, exe_ite, exe_whl, exe_fr, exe_fz, whlG_nx, exe_pass, exe_brk, exe_cnt, exes_nil, exes_cons, ↓seqV_nx, ↓seqV_rt, ↓seqV_bk, ↓seqV_ct, tgV_some, varV_some, chnV_bl, keepC_t, keepC_p, keepC_n, optV_n, optV_i, zpV_tt, zpV_ll, zip_map, cutT, cutL, itV_tup, itV_lst, itV_sq, enV_tup, enV_lst, enV_sq, nlV_f, nlV_t, augV_n, setAll, wipeS, start0, Out.nox_ok, bd_ok, bd_exn, bd_assoc, ↓reduceIte, decide_true, decide_false, Bool.false_eq_true, List.getElem?_cons_zero, List.getElem?_cons_succ, List.set_cons_zero, List.set_cons_succ, List.length_cons, List.length_nil, List.map_cons, List.map_nil, List.append_nil, List.nil_append, List.cons_append, List.replicate_zero, List.replicate_succ, Nat.sub_self, Nat.reduceSub, Nat.reduceAdd, Nat.reduceLeDiff, Nat.reduceLT, ret_rt, ret_nx, tru_bl, q_add, q_mod, q_fdiv, q_mul, q_sub, q_lt, q_le, q_gt, q_ge, q_eq, q_ne, q_abs, q_int, q_tru, q_isi, q_len_tup, q_len_lst, q_len_sq, items_tup, items_lst, items_sq, q_tup_sq, tuple_lst, tuple_tup, rng1V_n, rng2V_n, compL_G, cmpM_range, cmpM_all, cmpM_if, cmpM_none, cmpR_all, cmpR_if, cmpR_none, compL_nil, pures_map, pure_vn, pure_sq, fin_pure, mem_tup, mem_lst, mem_sq, eq_bls, ne_bls, isn_non, isn_int, isn_bl, isn_tup, isn_lst, isi_tup, isi_lst, isi_bl, isi_str, isi_non, lenV_ok, tupV_ok, ofsV_tup, ofsV_lst, ofsV_sq, catV2_l, bin_cat, mulV2_1, idxt_n, idxl_n, idxs_n, List.getD_cons_zero, List.getD_cons_succ, idx_last, set_lastN, app_last, mthV_last, frzV_last, fzV_last, len_last, tru_last, ofs_last, fin_dead, int_blN, mul1_b, mul1_n, mem_bls, nmem_bls, nmem_tup, nmem_lst, nmem_sq, rng3V_n, cut_nat, cut_to, cut_from, eq_tn, eq_ln, eq_lot, eq_lnil_v, ne_lnil_v, eq_lnil_n, ne_lnil_n, Bool.decide_eq_true, ne_lot, ne_tn, all_bl, any_bl, b2_0, h]
    exact run_whl k S s1 t1 m0 o0 o3 r2 r1 d (j + 1) n (by omega) (by omega)
theorem run_whlL (k : Nat) (S : Store) (s1 t1) {m : Nat} {xs : List Nat} {s : Nat} (m0 : 0 < m) (o0 o3 : Option Val) (r2 : (s + runL m xs s) % m ∉ xs) (r1 : ∀ j, j < runL m xs s → (s + j) % m ∈ xs) : ∀ (d j n : Nat), j + d = runL m xs s → d < n →
    whlT (fun r1 S1 => bd (ev P (run P k) (.cmp .mem (.bin .mod (.bin .add (.var 4) (.var 5)) (.var 1)) (.var 2)) r1 S1) tru .mk) (fun r1 S1 => exes P (run P k) b2_0 r1 S1) s1 t1 n [o0, some (vn m), some (.lst (xs.map vn)), o3, some (vn s), some (vn j)] S = .ok (.nx, [o0, some (vn m), some (.lst (xs.map vn)), o3, some (vn s), some (vn (runL m xs s))]) S
  | 0, j, n + 1, hj, _ => by
    rw [Nat.add_zero] at hj
    subst hj
    rw [whlT_0]
    simp -implicitDefEqProofs -dsimp (disch := (first | (simp -implicitDefEqProofs only [all_tt, pures_map, pures_app, frV_pure, pure_vn, pure_sq, pure_bl, pure_int, pure_non, pure_str, pure_tup, pure_lst, pures_nil, pures_cons, Bool.and_true, Bool.true_and, Bool.and_self]; done) | omega | (apply LenLe.ok; (focus (with_reducible (repeat (first | apply LenLe.map | apply LenLe.filter | apply LenLe.srt | apply LenLe.sst | apply LenLe.rev | apply LenLe.cons | apply LenLe.append | exact LenLe.range _ | exact LenLe.rep _ _ | exact LenLe.nil | exact LenLe.bl1 _ _ | exact LenLe.self _)))); omega) | (simp -implicitDefEqProofs only [List.length_cons, List.length_nil, List.length_map, List.length_range, List.length_replicate, List.length_append]; omega) | assumption)) only [ev_nat, ev_var, ev_glo, gloV_nat, gloV_str, ev_bl, ev_non, ev_str, ev_bin, ev_cmp, ev_chn, ev_neg, ev_nt, ev_and, ev_or, ev_ite, ev_tup, ev_idx, ev_slc, ev_cal, ev_calk, ev_bi, ev_mth, ev_nl, ev_frz, ev_tupR, ev_lens, ev_minD, ev_bk, bkV_tup, bkV_lst, ← List.map_reverse, List.reverse_cons, List.reverse_nil, evn_lc2, keepL_t, compLL_G, cmpLM_range, cmpLR_all, cmpLM_all, evs_nil, evs_cons, evs_star, starV_some, revV_lst, evk_nil, evk_cons, evo_no, evo_yes, evn_disp, evn_ofs, evn_cat, evn_mul, evn_rng, evn_srt, evn_sst, evn_srtr, evn_rev, evn_lc, evc_no, evc_yes, evi_ex, evi_r1, evi_r2, evi_r3, evi_en, evi_zp, setT_n, setT_t, setTV_some, setTs_nil, setTs_cons, setTC_some, exe_set, exe_par, exe_setS, exe_augS, augSG_loc, exe_aug, augG_some, exe_ex, exe_ret, exe_retN, exe_ite, exe_whl, exe_fr, exe_fz, whlG_nx, exe_pass, exe_brk, exe_cnt, exes_nil, exes_cons, ↓seqV_nx, ↓seqV_rt, ↓seqV_bk, ↓seqV_ct, tgV_some, varV_some, chnV_bl, keepC_t, keepC_p, keepC_n, optV_n, optV_i, zpV_tt, zpV_ll, zip_map, cutT, cutL, itV_tup, itV_lst, itV_sq, enV_tup, enV_lst, enV_sq, nlV_f, nlV_t, augV_n, setAll, wipeS, start0, Out.nox_ok, bd_ok, bd_exn, bd_assoc, ↓reduceIte, decide_true, decide_false, Bool.false_eq_true, List.getElem?_cons_zero, List.getElem?_cons_succ, List.set_cons_zero, List.set_cons_succ, List.length_cons, List.length_nil, List.map_cons, List.map_nil, List.append_nil, List.nil_append, List.cons_append, List.replicate_zero, List.replicate_succ, Nat.sub_self, Nat.reduceSub, Nat.reduceAdd, Nat.reduceLeDiff, Nat.reduceLT, ret_rt, ret_nx, tru_bl, q_add, q_mod, q_fdiv, q_mul, q_sub, q_lt, q_le, q_gt, q_ge, q_eq, q_ne, q_abs, q_int, q_tru, q_isi, q_len_tup, q_len_lst, q_len_sq, items_tup, items_lst, items_sq, q_tup_sq, tuple_lst, tuple_tup, rng1V_n, rng2V_n, compL_G, cmpM_range, cmpM_all, cmpM_if, cmpM_none, cmpR_all, cmpR_if, cmpR_none, compL_nil, pures_map, pure_vn, pure_sq, fin_pure, mem_tup, mem_lst, mem_sq, eq_bls, ne_bls, isn_non, isn_int, isn_bl, isn_tup, isn_lst, isi_tup, isi_lst, isi_bl, isi_str, isi_non, lenV_ok, tupV_ok, ofsV_tup, ofsV_lst, ofsV_sq, catV2_l, bin_cat, mulV2_1, idxt_n, idxl_n, idxs_n, List.getD_cons_zero, List.getD_cons_succ, idx_last, set_lastN, app_last, mthV_last, frzV_last, fzV_last, len_last, tru_last, ofs_last, fin_dead, int_blN, mul1_b, mul1_n, mem_bls, nmem_bls, nmem_tup, nmem_lst, nmem_sq, rng3V_n, cut_nat, cut_to, cut_from, eq_tn, eq_ln, eq_lot, eq_lnil_v, ne_lnil_v, eq_lnil_n, ne_lnil_n, Bool.decide_eq_true, ne_lot, ne_tn, all_bl, any_bl, r2]
  | d + 1, j, n + 1, hj, hn => by
    have h := r1 j (by omega)
    rw [whlT_0]
    simp -implicitDefEqProofs -dsimp (disch := (first | (simp -implicitDefEqProofs only [all_tt, pures_map, pures_app, frV_pure, pure_vn, pure_sq, pure_bl, pure_int, pure_non, pure_str, pure_tup, pure_lst, pures_nil, pures_cons, Bool.and_true, Bool.true_and, Bool.and_self]; done) | omega | (apply LenLe.ok; (focus (with_reducible (repeat (first | apply LenLe.map | apply LenLe.filter | apply LenLe.srt | apply LenLe.sst | apply LenLe.rev | apply LenLe.cons | apply LenLe.append | exact LenLe.range _ | exact LenLe.rep _ _ | exact LenLe.nil | exact LenLe.bl1 _ _ | exact LenLe.self _)))); omega) | (simp -implicitDefEqProofs only [List.length_cons, List.length_nil, List.length_map, List.length_range, List.length_replicate, List.length_append]; omega) | assumption)) only [ev_nat, ev_var, ev_glo, gloV_nat, gloV_str, ev_bl, ev_non, ev_str, ev_bin, ev_cmp, ev_chn, ev_neg, ev_nt, ev_and, ev_or, ev_ite, ev_tup, ev_idx, ev_slc, ev_cal, ev_calk, ev_bi, ev_mth, ev_nl, ev_frz, ev_tupR, ev_lens, ev_minD, ev_bk, bkV_tup, bkV_lst, ← List.map_reverse, List.reverse_cons, List.reverse_nil, evn_lc2, keepL_t, compLL_G, cmpLM_range, cmpLR_all, cmpLM_all, evs_nil, evs_cons, evs_star, starV_some, revV_lst, evk_nil, evk_cons, evo_no, evo_yes, evn_disp, evn_ofs, evn_cat, evn_mul, evn_rng, evn_srt, evn_sst, evn_srtr, evn_rev, evn_lc, evc_no, evc_yes, evi_ex, evi_r1, evi_r2, evi_r3, evi_en, evi_zp, setT_n, setT_t, setTV_some, setTs_nil, setTs_cons, setTC_some, exe_set, exe_par, exe_setS, exe_augS, augSG_loc, exe_aug, augG_some, exe_ex, exe_ret, exe_retN, exe_ite, exe_whl, exe_fr, exe_fz, whlG_nx, exe_pass, exe_brk, exe_cnt, exes_nil, exes_cons, ↓seqV_nx, ↓seqV_rt, ↓seqV_bk, ↓seqV_ct, tgV_some, varV_some, chnV_bl, keepC_t, keepC_p, keepC_n, optV_n, optV_i, zpV_tt, zpV_ll, zip_map, cutT, cutL, itV_tup, itV_lst, itV_sq, enV_tup, enV_lst, enV_sq, nlV_f, nlV_t, augV_n, setAll, wipeS, start0, Out.nox_ok, bd_ok, bd_exn, bd_assoc, ↓reduceIte, decide_true, decide_false, Bool.false_eq_true, List.getElem?_cons_zero, List.getElem?_cons_succ, List.set_cons_zero, List.set_cons_succ, List.length_cons, List.length_nil, List.map_cons, List.map_nil, List.append_nil, List.nil_append, List.cons_append, List.replicate_zero, List.replicate_succ, Nat.sub_self, Nat.reduceSub, Nat.reduceAdd, Nat.reduceLeDiff, Nat.reduceLT, ret_rt, ret_nx, tru_bl, q_add, q_mod, q_fdiv, q_mul, q_sub, q_lt, q_le, q_gt, q_ge, q_eq, q_ne, q_abs, q_int, q_tru, q_isi, q_len_tup, q_len_lst, q_len_sq, items_tup, items_lst, items_sq, q_tup_sq, tuple_lst, tuple_tup, rng1V_n, rng2V_n, compL_G, cmpM_range, cmpM_all, cmpM_if, cmpM_none, cmpR_all, cmpR_if, cmpR_none, compL_nil, pures_map, pure_vn, pure_sq, fin_pure, mem_tup, mem_lst, mem_sq, eq_bls, ne_bls, isn_non, isn_int, isn_bl, isn_tup, isn_lst, isi_tup, isi_lst, isi_bl, isi_str, isi_non, lenV_ok, tupV_ok, ofsV_tup, ofsV_lst, ofsV_sq, catV2_l, bin_cat, mulV2_1, idxt_n, idxl_n, idxs_n, List.getD_cons_zero, List.getD_cons_succ, idx_last, set_lastN, app_last, mthV_last, frzV_last, fzV_last, len_last, tru_last, ofs_last, fin_dead, int_blN, mul1_b, mul1_n, mem_bls, nmem_bls, nmem_tup, nmem_lst, nmem_sq, rng3V_n, cut_nat, cut_to, cut_from, eq_tn, eq_ln, eq_lot, eq_lnil_v, ne_lnil_v, eq_lnil_n, ne_lnil_n, Bool.decide_eq_true, ne_lot, ne_tn, all_bl, any_bl, b2_0, h]
    exact run_whlL k S s1 t1 m0 o0 o3 r2 r1 d (j + 1) n (by omega) (by omega)
theorem stretches_ok (k : Nat) (S : Store) {M m : Nat} {xs : List Nat} (lo : LotOk M m xs) (hm : m ≤ 3000) : run P (k + 1) 2 [.tup [vn m, .tup (xs.map vn)]] S = .ok (.tup ((strN m xs).map pv)) S := by
  have m0 := lo.m0
  have hx := lo.len
  have hlx : (xs.map vn).length = xs.length := List.length_map ..
  have hw : P.wf = 100000 := rfl
  rw [run_eq P_2 rfl]
  unfold strN
  by_cases h : xs.length = m
  · rw [if_pos h]
    simp -implicitDefEqProofs -dsimp (disch := (first | (simp -implicitDefEqProofs only [all_tt, pures_map, pures_app, frV_pure, pure_vn, pure_sq, pure_bl, pure_int, pure_non, pure_str, pure_tup, pure_lst, pures_nil, pures_cons, Bool.and_true, Bool.true_and, Bool.and_self]; done) | omega | (apply LenLe.ok; (focus (with_reducible (repeat (first | apply LenLe.map | apply LenLe.filter | apply LenLe.srt | apply LenLe.sst | apply LenLe.rev | apply LenLe.cons | apply LenLe.append | exact LenLe.range _ | exact LenLe.rep _ _ | exact LenLe.nil | exact LenLe.bl1 _ _ | exact LenLe.self _)))); omega) | (simp -implicitDefEqProofs only [List.length_cons, List.length_nil, List.length_map, List.length_range, List.length_replicate, List.length_append]; omega) | assumption)) only [ev_nat, ev_var, ev_glo, gloV_nat, gloV_str, ev_bl, ev_non, ev_str, ev_bin, ev_cmp, ev_chn, ev_neg, ev_nt, ev_and, ev_or, ev_ite, ev_tup, ev_idx, ev_slc, ev_cal, ev_calk, ev_bi, ev_mth, ev_nl, ev_frz, ev_tupR, ev_lens, ev_minD, ev_bk, bkV_tup, bkV_lst, ← List.map_reverse, List.reverse_cons, List.reverse_nil, evn_lc2, keepL_t, compLL_G, cmpLM_range, cmpLR_all, cmpLM_all, evs_nil, evs_cons, evs_star, starV_some, revV_lst, evk_nil, evk_cons, evo_no, evo_yes, evn_disp, evn_ofs, evn_cat, evn_mul, evn_rng, evn_srt, evn_sst, evn_srtr, evn_rev, evn_lc, evc_no, evc_yes, evi_ex, evi_r1, evi_r2, evi_r3, evi_en, evi_zp, setT_n, setT_t, setTV_some, setTs_nil, setTs_cons, setTC_some, exe_set, exe_par, exe_setS, exe_augS, augSG_loc, exe_aug, augG_some, exe_ex, exe_ret, exe_retN, exe_ite, exe_whl, exe_fr, exe_fz, whlG_nx, exe_pass, exe_brk, exe_cnt, exes_nil, exes_cons, ↓seqV_nx, ↓seqV_rt, ↓seqV_bk, ↓seqV_ct, tgV_some, varV_some, chnV_bl, keepC_t, keepC_p, keepC_n, optV_n, optV_i, zpV_tt, zpV_ll, zip_map, cutT, cutL, itV_tup, itV_lst, itV_sq, enV_tup, enV_lst, enV_sq, nlV_f, nlV_t, augV_n, setAll, wipeS, start0, Out.nox_ok, bd_ok, bd_exn, bd_assoc, ↓reduceIte, decide_true, decide_false, Bool.false_eq_true, List.getElem?_cons_zero, List.getElem?_cons_succ, List.set_cons_zero, List.set_cons_succ, List.length_cons, List.length_nil, List.map_cons, List.map_nil, List.append_nil, List.nil_append, List.cons_append, List.replicate_zero, List.replicate_succ, Nat.sub_self, Nat.reduceSub, Nat.reduceAdd, Nat.reduceLeDiff, Nat.reduceLT, ret_rt, ret_nx, tru_bl, q_add, q_mod, q_fdiv, q_mul, q_sub, q_lt, q_le, q_gt, q_ge, q_eq, q_ne, q_abs, q_int, q_tru, q_isi, q_len_tup, q_len_lst, q_len_sq, items_tup, items_lst, items_sq, q_tup_sq, tuple_lst, tuple_tup, rng1V_n, rng2V_n, compL_G, cmpM_range, cmpM_all, cmpM_if, cmpM_none, cmpR_all, cmpR_if, cmpR_none, compL_nil, pures_map, pure_vn, pure_sq, fin_pure, mem_tup, mem_lst, mem_sq, eq_bls, ne_bls, isn_non, isn_int, isn_bl, isn_tup, isn_lst, isi_tup, isi_lst, isi_bl, isi_str, isi_non, lenV_ok, tupV_ok, ofsV_tup, ofsV_lst, ofsV_sq, catV2_l, bin_cat, mulV2_1, idxt_n, idxl_n, idxs_n, List.getD_cons_zero, List.getD_cons_succ, idx_last, set_lastN, app_last, mthV_last, frzV_last, fzV_last, len_last, tru_last, ofs_last, fin_dead, int_blN, mul1_b, mul1_n, mem_bls, nmem_bls, nmem_tup, nmem_lst, nmem_sq, rng3V_n, cut_nat, cut_to, cut_from, eq_tn, eq_ln, eq_lot, eq_lnil_v, ne_lnil_v, eq_lnil_n, ne_lnil_n, Bool.decide_eq_true, ne_lot, ne_tn, all_bl, any_bl, d2, hlx, h]
  · rw [if_neg h]
    have em : ∀ (s : Nat) S, binop .mod (.int ((s : Int) - ((1 : Nat) : Int))) (vn m) S = .ok (vn ((s + m - 1) % m)) S := fun s S => by
      have := mod_ints S (i := (s : Int) - ((1 : Nat) : Int)) (j := (m : Int)) (by omega)
      rw [show vn m = .int (m : Int) from rfl, this]
      unfold vn
      congr 2
      have e1 : ((s : Int) - ((1 : Nat) : Int)) % (m : Int) = ((s : Int) - ((1 : Nat) : Int) + (m : Int)) % (m : Int) := by rw [Int.add_emod_right]
      have e2 : (s : Int) - ((1 : Nat) : Int) + (m : Int) = ((s + m - 1 : Nat) : Int) := by omega
      rw [e1, e2, ← Int.natCast_emod]
    obtain ⟨_, _, e, ⟨o4, o5, rfl⟩, rfl⟩ := forT_mem (body := fun x r1 S2 => tgV (setT (Tg.n 4) x r1 S2) (fun r2 => exes P (run P k) b2_1 r2 S2) .mk) (t := .mk) (h := vn) (l := xs)
      (fun dn r S1 => (∃ o4 o5, r = [some (.tup [vn m, .tup (xs.map vn)]), some (vn m), some (.tup (xs.map vn)), some (.loc S.length), o4, o5]) ∧ S1 = S ++ [.lst ((dn.filter (startB m xs)).map fun s => pv (s, runL m xs s))])
      (fun dn s rest r S1 hl ⟨⟨o4, o5, h1⟩, h2⟩ => by
        subst h1 h2
        have hs : s ∈ xs := by rw [hl]; simp
        have hsm := lo.lt s hs
        by_cases hb : startB m xs s = true
        · obtain ⟨q1, q2, q3, q4⟩ := run_spec hsm hs hb
          have hb2 : (s + m - 1) % m ∉ xs := by simpa [startB] using hb
          have hdl : ((dn.filter (startB m xs)).map fun s => pv (s, runL m xs s)).length < 16777216 := by
            rw [List.length_map]
            have h1 := List.length_filter_le (startB m xs) dn
            have h3 : dn.length ≤ xs.length := by rw [hl]; simp
            omega
          refine ⟨_, _, ?_, ⟨some (vn s), some (vn (runL m xs s)), rfl⟩, rfl⟩
          have hf : ((dn ++ [s]).filter (startB m xs)).map (fun s => pv (s, runL m xs s)) = ((dn.filter (startB m xs)).map fun s => pv (s, runL m xs s)) ++ [pv (s, runL m xs s)] := by
            rw [List.filter_append, List.map_append]
            simp [hb]
          rw [hf]
          generalize ((dn.filter (startB m xs)).map fun s => pv (s, runL m xs s)) = D at hdl
          have w := fun S => run_whl k S .mk .mk m0 (some (.tup [vn m, .tup (xs.map vn)])) (some (.loc S.length)) q1 q2 (runL m xs s - 1) 1 100000 (by omega) (by omega)
          have w2 := fun S s1 t1 o3 => run_whl k S s1 t1 m0 (some (.tup [vn m, .tup (xs.map vn)])) o3 q1 q2 (runL m xs s - 1) 1 100000 (by omega) (by omega)
          simp -implicitDefEqProofs -dsimp (disch := (first | (simp -implicitDefEqProofs only [all_tt, pures_map, pures_app, frV_pure, pure_vn, pure_sq, pure_bl, pure_int, pure_non, pure_str, pure_tup, pure_lst, pures_nil, pures_cons, Bool.and_true, Bool.true_and, Bool.and_self]; done) | omega | (apply LenLe.ok; (focus (with_reducible (repeat (first | apply LenLe.map | apply LenLe.filter | apply LenLe.srt | apply LenLe.sst | apply LenLe.rev | apply LenLe.cons | apply LenLe.append | exact LenLe.range _ | exact LenLe.rep _ _ | exact LenLe.nil | exact LenLe.bl1 _ _ | exact LenLe.self _)))); omega) | (simp -implicitDefEqProofs only [List.length_cons, List.length_nil, List.length_map, List.length_range, List.length_replicate, List.length_append]; omega) | assumption)) only [ev_nat, ev_var, ev_glo, gloV_nat, gloV_str, ev_bl, ev_non, ev_str, ev_bin, ev_cmp, ev_chn, ev_neg, ev_nt, ev_and, ev_or, ev_ite, ev_tup, ev_idx, ev_slc, ev_cal, ev_calk, ev_bi, ev_mth, ev_nl, ev_frz, ev_tupR, ev_lens, ev_minD, ev_bk, bkV_tup, bkV_lst, ← List.map_reverse, List.reverse_cons, List.reverse_nil, evn_lc2, keepL_t, compLL_G, cmpLM_range, cmpLR_all, cmpLM_all, evs_nil, evs_cons, evs_star, starV_some, revV_lst, evk_nil, evk_cons, evo_no, evo_yes, evn_disp, evn_ofs, evn_cat, evn_mul, evn_rng, evn_srt, evn_sst, evn_srtr, evn_rev, evn_lc, evc_no, evc_yes, evi_ex, evi_r1, evi_r2, evi_r3, evi_en, evi_zp, setT_n, setT_t, setTV_some, setTs_nil, setTs_cons, setTC_some, exe_set, exe_par, exe_setS, exe_augS, augSG_loc, exe_aug, augG_some, exe_ex, exe_ret, exe_retN, exe_ite, exe_whl, exe_fr, exe_fz, whlG_nx, exe_pass, exe_brk, exe_cnt, exes_nil, exes_cons, ↓seqV_nx, ↓seqV_rt, ↓seqV_bk, ↓seqV_ct, tgV_some, varV_some, chnV_bl, keepC_t, keepC_p, keepC_n, optV_n, optV_i, zpV_tt, zpV_ll, zip_map, cutT, cutL, itV_tup, itV_lst, itV_sq, enV_tup, enV_lst, enV_sq, nlV_f, nlV_t, augV_n, setAll, wipeS, start0, Out.nox_ok, bd_ok, bd_exn, bd_assoc, ↓reduceIte, decide_true, decide_false, Bool.false_eq_true, List.getElem?_cons_zero, List.getElem?_cons_succ, List.set_cons_zero, List.set_cons_succ, List.length_cons, List.length_nil, List.map_cons, List.map_nil, List.append_nil, List.nil_append, List.cons_append, List.replicate_zero, List.replicate_succ, Nat.sub_self, Nat.reduceSub, Nat.reduceAdd, Nat.reduceLeDiff, Nat.reduceLT, ret_rt, ret_nx, tru_bl, q_add, q_mod, q_fdiv, q_mul, q_sub, q_lt, q_le, q_gt, q_ge, q_eq, q_ne, q_abs, q_int, q_tru, q_isi, q_len_tup, q_len_lst, q_len_sq, items_tup, items_lst, items_sq, q_tup_sq, tuple_lst, tuple_tup, rng1V_n, rng2V_n, compL_G, cmpM_range, cmpM_all, cmpM_if, cmpM_none, cmpR_all, cmpR_if, cmpR_none, compL_nil, pures_map, pure_vn, pure_sq, fin_pure, mem_tup, mem_lst, mem_sq, eq_bls, ne_bls, isn_non, isn_int, isn_bl, isn_tup, isn_lst, isi_tup, isi_lst, isi_bl, isi_str, isi_non, lenV_ok, tupV_ok, ofsV_tup, ofsV_lst, ofsV_sq, catV2_l, bin_cat, mulV2_1, idxt_n, idxl_n, idxs_n, List.getD_cons_zero, List.getD_cons_succ, idx_last, set_lastN, app_last, mthV_last, frzV_last, fzV_last, len_last, tru_last, ofs_last, fin_dead, int_blN, mul1_b, mul1_n, mem_bls, nmem_bls, nmem_tup, nmem_lst, nmem_sq, rng3V_n, cut_nat, cut_to, cut_from, eq_tn, eq_ln, eq_lot, eq_lnil_v, ne_lnil_v, eq_lnil_n, ne_lnil_n, Bool.decide_eq_true, ne_lot, ne_tn, all_bl, any_bl, b2_1, em, hb2, Bool.not_false, hw, w2, pv]
        · have hb : startB m xs s = false := by simpa using hb
          have hb2 : (s + m - 1) % m ∈ xs := by simpa [startB] using hb
          have hf : ((dn ++ [s]).filter (startB m xs)).map (fun s => pv (s, runL m xs s)) = ((dn.filter (startB m xs)).map fun s => pv (s, runL m xs s)) := by
            rw [List.filter_append, List.map_append]
            simp [hb]
          rw [hf]
          refine ⟨_, _, ?_, ⟨some (vn s), o5, rfl⟩, rfl⟩
          simp -implicitDefEqProofs -dsimp (disch := (first | (simp -implicitDefEqProofs only [all_tt, pures_map, pures_app, frV_pure, pure_vn, pure_sq, pure_bl, pure_int, pure_non, pure_str, pure_tup, pure_lst, pures_nil, pures_cons, Bool.and_true, Bool.true_and, Bool.and_self]; done) | omega | (apply LenLe.ok; (focus (with_reducible (repeat (first | apply LenLe.map | apply LenLe.filter | apply LenLe.srt | apply LenLe.sst | apply LenLe.rev | apply LenLe.cons | apply LenLe.append | exact LenLe.range _ | exact LenLe.rep _ _ | exact LenLe.nil | exact LenLe.bl1 _ _ | exact LenLe.self _)))); omega) | (simp -implicitDefEqProofs only [List.length_cons, List.length_nil, List.length_map, List.length_range, List.length_replicate, List.length_append]; omega) | assumption)) only [ev_nat, ev_var, ev_glo, gloV_nat, gloV_str, ev_bl, ev_non, ev_str, ev_bin, ev_cmp, ev_chn, ev_neg, ev_nt, ev_and, ev_or, ev_ite, ev_tup, ev_idx, ev_slc, ev_cal, ev_calk, ev_bi, ev_mth, ev_nl, ev_frz, ev_tupR, ev_lens, ev_minD, ev_bk, bkV_tup, bkV_lst, ← List.map_reverse, List.reverse_cons, List.reverse_nil, evn_lc2, keepL_t, compLL_G, cmpLM_range, cmpLR_all, cmpLM_all, evs_nil, evs_cons, evs_star, starV_some, revV_lst, evk_nil, evk_cons, evo_no, evo_yes, evn_disp, evn_ofs, evn_cat, evn_mul, evn_rng, evn_srt, evn_sst, evn_srtr, evn_rev, evn_lc, evc_no, evc_yes, evi_ex, evi_r1, evi_r2, evi_r3, evi_en, evi_zp, setT_n, setT_t, setTV_some, setTs_nil, setTs_cons, setTC_some, exe_set, exe_par, exe_setS, exe_augS, augSG_loc, exe_aug, augG_some, exe_ex, exe_ret, exe_retN, exe_ite, exe_whl, exe_fr, exe_fz, whlG_nx, exe_pass, exe_brk, exe_cnt, exes_nil, exes_cons, ↓seqV_nx, ↓seqV_rt, ↓seqV_bk, ↓seqV_ct, tgV_some, varV_some, chnV_bl, keepC_t, keepC_p, keepC_n, optV_n, optV_i, zpV_tt, zpV_ll, zip_map, cutT, cutL, itV_tup, itV_lst, itV_sq, enV_tup, enV_lst, enV_sq, nlV_f, nlV_t, augV_n, setAll, wipeS, start0, Out.nox_ok, bd_ok, bd_exn, bd_assoc, ↓reduceIte, decide_true, decide_false, Bool.false_eq_true, List.getElem?_cons_zero, List.getElem?_cons_succ, List.set_cons_zero, List.set_cons_succ, List.length_cons, List.length_nil, List.map_cons, List.map_nil, List.append_nil, List.nil_append, List.cons_append, List.replicate_zero, List.replicate_succ, Nat.sub_self, Nat.reduceSub, Nat.reduceAdd, Nat.reduceLeDiff, Nat.reduceLT, ret_rt, ret_nx, tru_bl, q_add, q_mod, q_fdiv, q_mul, q_sub, q_lt, q_le, q_gt, q_ge, q_eq, q_ne, q_abs, q_int, q_tru, q_isi, q_len_tup, q_len_lst, q_len_sq, items_tup, items_lst, items_sq, q_tup_sq, tuple_lst, tuple_tup, rng1V_n, rng2V_n, compL_G, cmpM_range, cmpM_all, cmpM_if, cmpM_none, cmpR_all, cmpR_if, cmpR_none, compL_nil, pures_map, pure_vn, pure_sq, fin_pure, mem_tup, mem_lst, mem_sq, eq_bls, ne_bls, isn_non, isn_int, isn_bl, isn_tup, isn_lst, isi_tup, isi_lst, isi_bl, isi_str, isi_non, lenV_ok, tupV_ok, ofsV_tup, ofsV_lst, ofsV_sq, catV2_l, bin_cat, mulV2_1, idxt_n, idxl_n, idxs_n, List.getD_cons_zero, List.getD_cons_succ, idx_last, set_lastN, app_last, mthV_last, frzV_last, fzV_last, len_last, tru_last, ofs_last, fin_dead, int_blN, mul1_b, mul1_n, mem_bls, nmem_bls, nmem_tup, nmem_lst, nmem_sq, rng3V_n, cut_nat, cut_to, cut_from, eq_tn, eq_ln, eq_lot, eq_lnil_v, ne_lnil_v, eq_lnil_n, ne_lnil_n, Bool.decide_eq_true, ne_lot, ne_tn, all_bl, any_bl, b2_1, em, hb2, Bool.not_true]) [some (.tup [vn m, .tup (xs.map vn)]), some (vn m), some (.tup (xs.map vn)), some (.loc S.length), none, none] (S ++ [.lst []]) ⟨⟨none, none, rfl⟩, rfl⟩
    have hrow : (rowsP m xs).map pv = (xs.filter (startB m xs)).map fun s => pv (s, runL m xs s) := by
      unfold rowsP
      rw [List.map_map]
      rfl
    rw [hrow]
    simp -implicitDefEqProofs -dsimp (disch := (first | (simp -implicitDefEqProofs only [all_tt, pures_map, pures_app, frV_pure, pure_vn, pure_sq, pure_bl, pure_int, pure_non, pure_str, pure_tup, pure_lst, pures_nil, pures_cons, Bool.and_true, Bool.true_and, Bool.and_self]; done) | omega | (apply LenLe.ok; (focus (with_reducible (repeat (first | apply LenLe.map | apply LenLe.filter | apply LenLe.srt | apply LenLe.sst | apply LenLe.rev | apply LenLe.cons | apply LenLe.append | exact LenLe.range _ | exact LenLe.rep _ _ | exact LenLe.nil | exact LenLe.bl1 _ _ | exact LenLe.self _)))); omega) | (simp -implicitDefEqProofs only [List.length_cons, List.length_nil, List.length_map, List.length_range, List.length_replicate, List.length_append]; omega) | assumption)) only [ev_nat, ev_var, ev_glo, gloV_nat, gloV_str, ev_bl, ev_non, ev_str, ev_bin, ev_cmp, ev_chn, ev_neg, ev_nt, ev_and, ev_or, ev_ite, ev_tup, ev_idx, ev_slc, ev_cal, ev_calk, ev_bi, ev_mth, ev_nl, ev_frz, ev_tupR, ev_lens, ev_minD, ev_bk, bkV_tup, bkV_lst, ← List.map_reverse, List.reverse_cons, List.reverse_nil, evn_lc2, keepL_t, compLL_G, cmpLM_range, cmpLR_all, cmpLM_all, evs_nil, evs_cons, evs_star, starV_some, revV_lst, evk_nil, evk_cons, evo_no, evo_yes, evn_disp, evn_ofs, evn_cat, evn_mul, evn_rng, evn_srt, evn_sst, evn_srtr, evn_rev, evn_lc, evc_no, evc_yes, evi_ex, evi_r1, evi_r2, evi_r3, evi_en, evi_zp, setT_n, setT_t, setTV_some, setTs_nil, setTs_cons, setTC_some, exe_set, exe_par, exe_setS, exe_augS, augSG_loc, exe_aug, augG_some, exe_ex, exe_ret, exe_retN, exe_ite, exe_whl, exe_fr, exe_fz, whlG_nx, exe_pass, exe_brk, exe_cnt, exes_nil, exes_cons, ↓seqV_nx, ↓seqV_rt, ↓seqV_bk, ↓seqV_ct, tgV_some, varV_some, chnV_bl, keepC_t, keepC_p, keepC_n, optV_n, optV_i, zpV_tt, zpV_ll, zip_map, cutT, cutL, itV_tup, itV_lst, itV_sq, enV_tup, enV_lst, enV_sq, nlV_f, nlV_t, augV_n, setAll, wipeS, start0, Out.nox_ok, bd_ok, bd_exn, bd_assoc, ↓reduceIte, decide_true, decide_false, Bool.false_eq_true, List.getElem?_cons_zero, List.getElem?_cons_succ, List.set_cons_zero, List.set_cons_succ, List.length_cons, List.length_nil, List.map_cons, List.map_nil, List.append_nil, List.nil_append, List.cons_append, List.replicate_zero, List.replicate_succ, Nat.sub_self, Nat.reduceSub, Nat.reduceAdd, Nat.reduceLeDiff, Nat.reduceLT, ret_rt, ret_nx, tru_bl, q_add, q_mod, q_fdiv, q_mul, q_sub, q_lt, q_le, q_gt, q_ge, q_eq, q_ne, q_abs, q_int, q_tru, q_isi, q_len_tup, q_len_lst, q_len_sq, items_tup, items_lst, items_sq, q_tup_sq, tuple_lst, tuple_tup, rng1V_n, rng2V_n, compL_G, cmpM_range, cmpM_all, cmpM_if, cmpM_none, cmpR_all, cmpR_if, cmpR_none, compL_nil, pures_map, pure_vn, pure_sq, fin_pure, mem_tup, mem_lst, mem_sq, eq_bls, ne_bls, isn_non, isn_int, isn_bl, isn_tup, isn_lst, isi_tup, isi_lst, isi_bl, isi_str, isi_non, lenV_ok, tupV_ok, ofsV_tup, ofsV_lst, ofsV_sq, catV2_l, bin_cat, mulV2_1, idxt_n, idxl_n, idxs_n, List.getD_cons_zero, List.getD_cons_succ, idx_last, set_lastN, app_last, mthV_last, frzV_last, fzV_last, len_last, tru_last, ofs_last, fin_dead, int_blN, mul1_b, mul1_n, mem_bls, nmem_bls, nmem_tup, nmem_lst, nmem_sq, rng3V_n, cut_nat, cut_to, cut_from, eq_tn, eq_ln, eq_lot, eq_lnil_v, ne_lnil_v, eq_lnil_n, ne_lnil_n, Bool.decide_eq_true, ne_lot, ne_tn, all_bl, any_bl, d2, hlx, h, e]
theorem lot_of_ok (k : Nat) (S : Store) (m : Nat) (rows : List (Nat × Nat)) (hm : 0 < m) (hm2 : m < 64) (hr : rows.length ≤ 60) (hr2 : ∀ p ∈ rows, p.2 ≤ 60) : run P (k + 2) 3 [vn m, .tup (rows.map pv)] S = .ok (.tup [vn m, .tup ((nusort (seenN m rows)).map vn)]) S := by
  have hmem : ∀ x ∈ seenN m rows, x < m := fun x hx => by
    simp only [seenN, List.mem_flatMap, List.mem_map] at hx
    obtain ⟨p, _, k, _, rfl⟩ := hx
    exact Nat.mod_lt _ hm
  have hlen : (seenN m rows).length ≤ 3600 := by
    have key : ∀ l : List (Nat × Nat), (∀ p ∈ l, p.2 ≤ 60) → (seenN m l).length ≤ 60 * l.length := by
      intro l
      induction l with
      | nil => simp [seenN]
      | cons p l ih =>
        intro h
        have h1 := h p (by simp)
        have h2 := ih fun q hq => h q (by simp [hq])
        simp only [seenN, List.flatMap_cons, List.length_append, List.length_map, List.length_range, List.length_cons] at h2 ⊢
        omega
    have := key rows hr2
    omega
  have e := fun S => set_of_ok k S (seenN m rows) (Nat.lt_of_le_of_lt (nusort_bound hmem) hm2) (by omega)
  have hf : (rows.flatMap fun x => (List.range x.2).map fun y => vn ((x.1 + y) % m)) = (seenN m rows).map vn := by
    unfold seenN
    rw [List.map_flatMap]
    simp only [List.map_map]
    rfl
  have hb : ∀ x, x ∈ rows → ∀ S, rng1V (vn x.2) S = .ok ((List.range x.2).map vn) S := fun x hx S => rng1V_n S (by have := hr2 x hx; omega)
  have hln : ((seenN m rows).map vn).length ≤ 3600 := by rw [List.length_map]; exact hlen
  rw [run_eq P_3 rfl]
  simp -implicitDefEqProofs -dsimp (disch := (first | (simp -implicitDefEqProofs only [all_tt, pures_map, pures_app, frV_pure, pure_vn, pure_sq, pure_bl, pure_int, pure_non, pure_str, pure_tup, pure_lst, pures_nil, pures_cons, Bool.and_true, Bool.true_and, Bool.and_self]; done) | omega | (apply LenLe.ok; (focus (with_reducible (repeat (first | apply LenLe.map | apply LenLe.filter | apply LenLe.srt | apply LenLe.sst | apply LenLe.rev | apply LenLe.cons | apply LenLe.append | exact LenLe.range _ | exact LenLe.rep _ _ | exact LenLe.nil | exact LenLe.bl1 _ _ | exact LenLe.self _)))); omega) | (simp -implicitDefEqProofs only [List.length_cons, List.length_nil, List.length_map, List.length_range, List.length_replicate, List.length_append]; omega) | assumption)) only [ev_nat, ev_var, ev_glo, gloV_nat, gloV_str, ev_bl, ev_non, ev_str, ev_bin, ev_cmp, ev_chn, ev_neg, ev_nt, ev_and, ev_or, ev_ite, ev_tup, ev_idx, ev_slc, ev_cal, ev_calk, ev_bi, ev_mth, ev_nl, ev_frz, ev_tupR, ev_lens, ev_minD, ev_bk, bkV_tup, bkV_lst, ← List.map_reverse, List.reverse_cons, List.reverse_nil, evn_lc2, keepL_t, compLL_G, cmpLM_range, cmpLR_all, cmpLM_all, evs_nil, evs_cons, evs_star, starV_some, revV_lst, evk_nil, evk_cons, evo_no, evo_yes, evn_disp, evn_ofs, evn_cat, evn_mul, evn_rng, evn_srt, evn_sst, evn_srtr, evn_rev, evn_lc, evc_no, evc_yes, evi_ex, evi_r1, evi_r2, evi_r3, evi_en, evi_zp, setT_n, setT_t, setTV_some, setTs_nil, setTs_cons, setTC_some, exe_set, exe_par, exe_setS, exe_augS, augSG_loc, exe_aug, augG_some, exe_ex, exe_ret, exe_retN, exe_ite, exe_whl, exe_fr, exe_fz, whlG_nx, exe_pass, exe_brk, exe_cnt, exes_nil, exes_cons, ↓seqV_nx, ↓seqV_rt, ↓seqV_bk, ↓seqV_ct, tgV_some, varV_some, chnV_bl, keepC_t, keepC_p, keepC_n, optV_n, optV_i, zpV_tt, zpV_ll, zip_map, cutT, cutL, itV_tup, itV_lst, itV_sq, enV_tup, enV_lst, enV_sq, nlV_f, nlV_t, augV_n, setAll, wipeS, start0, Out.nox_ok, bd_ok, bd_exn, bd_assoc, ↓reduceIte, decide_true, decide_false, Bool.false_eq_true, List.getElem?_cons_zero, List.getElem?_cons_succ, List.set_cons_zero, List.set_cons_succ, List.length_cons, List.length_nil, List.map_cons, List.map_nil, List.append_nil, List.nil_append, List.cons_append, List.replicate_zero, List.replicate_succ, Nat.sub_self, Nat.reduceSub, Nat.reduceAdd, Nat.reduceLeDiff, Nat.reduceLT, ret_rt, ret_nx, tru_bl, q_add, q_mod, q_fdiv, q_mul, q_sub, q_lt, q_le, q_gt, q_ge, q_eq, q_ne, q_abs, q_int, q_tru, q_isi, q_len_tup, q_len_lst, q_len_sq, items_tup, items_lst, items_sq, q_tup_sq, tuple_lst, tuple_tup, rng1V_n, rng2V_n, compL_G, cmpM_range, cmpM_all, cmpM_if, cmpM_none, cmpR_all, cmpR_if, cmpR_none, compL_nil, pures_map, pure_vn, pure_sq, fin_pure, mem_tup, mem_lst, mem_sq, eq_bls, ne_bls, isn_non, isn_int, isn_bl, isn_tup, isn_lst, isi_tup, isi_lst, isi_bl, isi_str, isi_non, lenV_ok, tupV_ok, ofsV_tup, ofsV_lst, ofsV_sq, catV2_l, bin_cat, mulV2_1, idxt_n, idxl_n, idxs_n, List.getD_cons_zero, List.getD_cons_succ, idx_last, set_lastN, app_last, mthV_last, frzV_last, fzV_last, len_last, tru_last, ofs_last, fin_dead, int_blN, mul1_b, mul1_n, mem_bls, nmem_bls, nmem_tup, nmem_lst, nmem_sq, rng3V_n, cut_nat, cut_to, cut_from, eq_tn, eq_ln, eq_lot, eq_lnil_v, ne_lnil_v, eq_lnil_n, ne_lnil_n, Bool.decide_eq_true, ne_lot, ne_tn, all_bl, any_bl, d3, pv, ↓hb, hf, e]
def turnF (m : Nat) (xs ys : List Nat) : List Nat := (List.range m).filter fun p => decide (nusort (xs.map fun x => (x + p) % m) = ys)
theorem turn_to_ok (k : Nat) (S : Store) {M m : Nat} {xs ys : List Nat} (lo : LotOk M m xs) (hm : m < 64) : run P (k + 3) 4 [.tup [vn m, .tup (xs.map vn)], .tup [vn m, .tup (ys.map vn)]] S = .ok (firstV (turnF m xs ys)) S := by
  have m0 := lo.m0
  have hx := lo.len
  have e1 := fun p S => turned_ok k S false false m p xs m0 hm (by omega)
  simp only [sq_f] at e1
  obtain ⟨r', e, ⟨o, rfl⟩⟩ := forT_find (body := fun x r1 S2 => tgV (setT (Tg.n 2) x r1 S2) (fun r2 => exes P (run P (k + 2)) b4_0 r2 S2) .mk) (t := .mk) (h := vn) (S := S) (l := List.range m)
    (fun r => ∃ o, r = [some (.tup [vn m, .tup (xs.map vn)]), some (.tup [vn m, .tup (ys.map vn)]), o]) (fun p => decide (nusort (xs.map fun x => (x + p) % m) = ys)) vn
    (fun p r hp ⟨o, h⟩ => by
      subst h
      refine ⟨_, ?_, some (vn p), rfl⟩
      simp -implicitDefEqProofs -dsimp (disch := (first | (simp -implicitDefEqProofs only [all_tt, pures_map, pures_app, frV_pure, pure_vn, pure_sq, pure_bl, pure_int, pure_non, pure_str, pure_tup, pure_lst, pures_nil, pures_cons, Bool.and_true, Bool.true_and, Bool.and_self]; done) | omega | (apply LenLe.ok; (focus (with_reducible (repeat (first | apply LenLe.map | apply LenLe.filter | apply LenLe.srt | apply LenLe.sst | apply LenLe.rev | apply LenLe.cons | apply LenLe.append | exact LenLe.range _ | exact LenLe.rep _ _ | exact LenLe.nil | exact LenLe.bl1 _ _ | exact LenLe.self _)))); omega) | (simp -implicitDefEqProofs only [List.length_cons, List.length_nil, List.length_map, List.length_range, List.length_replicate, List.length_append]; omega) | assumption)) only [ev_nat, ev_var, ev_glo, gloV_nat, gloV_str, ev_bl, ev_non, ev_str, ev_bin, ev_cmp, ev_chn, ev_neg, ev_nt, ev_and, ev_or, ev_ite, ev_tup, ev_idx, ev_slc, ev_cal, ev_calk, ev_bi, ev_mth, ev_nl, ev_frz, ev_tupR, ev_lens, ev_minD, ev_bk, bkV_tup, bkV_lst, ← List.map_reverse, List.reverse_cons, List.reverse_nil, evn_lc2, keepL_t, compLL_G, cmpLM_range, cmpLR_all, cmpLM_all, evs_nil, evs_cons, evs_star, starV_some, revV_lst, evk_nil, evk_cons, evo_no, evo_yes, evn_disp, evn_ofs, evn_cat, evn_mul, evn_rng, evn_srt, evn_sst, evn_srtr, evn_rev, evn_lc, evc_no, evc_yes, evi_ex, evi_r1, evi_r2, evi_r3, evi_en, evi_zp, setT_n, setT_t, setTV_some, setTs_nil, setTs_cons, setTC_some, exe_set, exe_par, exe_setS, exe_augS, augSG_loc, exe_aug, augG_some, exe_ex, exe_ret, exe_retN, exe_ite, exe_whl, exe_fr, exe_fz, whlG_nx, exe_pass, exe_brk, exe_cnt, exes_nil, exes_cons, ↓seqV_nx, ↓seqV_rt, ↓seqV_bk, ↓seqV_ct, tgV_some, varV_some, chnV_bl, keepC_t, keepC_p, keepC_n, optV_n, optV_i, zpV_tt, zpV_ll, zip_map, cutT, cutL, itV_tup, itV_lst, itV_sq, enV_tup, enV_lst, enV_sq, nlV_f, nlV_t, augV_n, setAll, wipeS, start0, Out.nox_ok, bd_ok, bd_exn, bd_assoc, ↓reduceIte, decide_true, decide_false, Bool.false_eq_true, List.getElem?_cons_zero, List.getElem?_cons_succ, List.set_cons_zero, List.set_cons_succ, List.length_cons, List.length_nil, List.map_cons, List.map_nil, List.append_nil, List.nil_append, List.cons_append, List.replicate_zero, List.replicate_succ, Nat.sub_self, Nat.reduceSub, Nat.reduceAdd, Nat.reduceLeDiff, Nat.reduceLT, ret_rt, ret_nx, tru_bl, q_add, q_mod, q_fdiv, q_mul, q_sub, q_lt, q_le, q_gt, q_ge, q_eq, q_ne, q_abs, q_int, q_tru, q_isi, q_len_tup, q_len_lst, q_len_sq, items_tup, items_lst, items_sq, q_tup_sq, tuple_lst, tuple_tup, rng1V_n, rng2V_n, compL_G, cmpM_range, cmpM_all, cmpM_if, cmpM_none, cmpR_all, cmpR_if, cmpR_none, compL_nil, pures_map, pure_vn, pure_sq, fin_pure, mem_tup, mem_lst, mem_sq, eq_bls, ne_bls, isn_non, isn_int, isn_bl, isn_tup, isn_lst, isi_tup, isi_lst, isi_bl, isi_str, isi_non, lenV_ok, tupV_ok, ofsV_tup, ofsV_lst, ofsV_sq, catV2_l, bin_cat, mulV2_1, idxt_n, idxl_n, idxs_n, List.getD_cons_zero, List.getD_cons_succ, idx_last, set_lastN, app_last, mthV_last, frzV_last, fzV_last, len_last, tru_last, ofs_last, fin_dead, int_blN, mul1_b, mul1_n, mem_bls, nmem_bls, nmem_tup, nmem_lst, nmem_sq, rng3V_n, cut_nat, cut_to, cut_from, eq_tn, eq_ln, eq_lot, eq_lnil_v, ne_lnil_v, eq_lnil_n, ne_lnil_n, Bool.decide_eq_true, ne_lot, ne_tn, all_bl, any_bl, b4_0, e1, eq_lot, true_and]
      split <;> rfl) [some (.tup [vn m, .tup (xs.map vn)]), some (.tup [vn m, .tup (ys.map vn)]), none] ⟨none, rfl⟩
  have hf : (List.range m).find? (fun p => decide (nusort (xs.map fun x => (x + p) % m) = ys)) = (turnF m xs ys).head? := by
    unfold turnF
    rw [List.head?_filter]
  rw [hf] at e
  rw [run_eq P_4 rfl]
  cases ht : turnF m xs ys with
  | nil =>
    rw [ht] at e
    simp only [List.head?_nil] at e
    simp -implicitDefEqProofs -dsimp (disch := (first | (simp -implicitDefEqProofs only [all_tt, pures_map, pures_app, frV_pure, pure_vn, pure_sq, pure_bl, pure_int, pure_non, pure_str, pure_tup, pure_lst, pures_nil, pures_cons, Bool.and_true, Bool.true_and, Bool.and_self]; done) | omega | (apply LenLe.ok; (focus (with_reducible (repeat (first | apply LenLe.map | apply LenLe.filter | apply LenLe.srt | apply LenLe.sst | apply LenLe.rev | apply LenLe.cons | apply LenLe.append | exact LenLe.range _ | exact LenLe.rep _ _ | exact LenLe.nil | exact LenLe.bl1 _ _ | exact LenLe.self _)))); omega) | (simp -implicitDefEqProofs only [List.length_cons, List.length_nil, List.length_map, List.length_range, List.length_replicate, List.length_append]; omega) | assumption)) only [ev_nat, ev_var, ev_glo, gloV_nat, gloV_str, ev_bl, ev_non, ev_str, ev_bin, ev_cmp, ev_chn, ev_neg, ev_nt, ev_and, ev_or, ev_ite, ev_tup, ev_idx, ev_slc, ev_cal, ev_calk, ev_bi, ev_mth, ev_nl, ev_frz, ev_tupR, ev_lens, ev_minD, ev_bk, bkV_tup, bkV_lst, ← List.map_reverse, List.reverse_cons, List.reverse_nil, evn_lc2, keepL_t, compLL_G, cmpLM_range, cmpLR_all, cmpLM_all, evs_nil, evs_cons, evs_star, starV_some, revV_lst, evk_nil, evk_cons, evo_no, evo_yes, evn_disp, evn_ofs, evn_cat, evn_mul, evn_rng, evn_srt, evn_sst, evn_srtr, evn_rev, evn_lc, evc_no, evc_yes, evi_ex, evi_r1, evi_r2, evi_r3, evi_en, evi_zp, setT_n, setT_t, setTV_some, setTs_nil, setTs_cons, setTC_some, exe_set, exe_par, exe_setS, exe_augS, augSG_loc, exe_aug, augG_some, exe_ex, exe_ret, exe_retN, exe_ite, exe_whl, exe_fr, exe_fz, whlG_nx, exe_pass, exe_brk, exe_cnt, exes_nil, exes_cons, ↓seqV_nx, ↓seqV_rt, ↓seqV_bk, ↓seqV_ct, tgV_some, varV_some, chnV_bl, keepC_t, keepC_p, keepC_n, optV_n, optV_i, zpV_tt, zpV_ll, zip_map, cutT, cutL, itV_tup, itV_lst, itV_sq, enV_tup, enV_lst, enV_sq, nlV_f, nlV_t, augV_n, setAll, wipeS, start0, Out.nox_ok, bd_ok, bd_exn, bd_assoc, ↓reduceIte, decide_true, decide_false, Bool.false_eq_true, List.getElem?_cons_zero, List.getElem?_cons_succ, List.set_cons_zero, List.set_cons_succ, List.length_cons, List.length_nil, List.map_cons, List.map_nil, List.append_nil, List.nil_append, List.cons_append, List.replicate_zero, List.replicate_succ, Nat.sub_self, Nat.reduceSub, Nat.reduceAdd, Nat.reduceLeDiff, Nat.reduceLT, ret_rt, ret_nx, tru_bl, q_add, q_mod, q_fdiv, q_mul, q_sub, q_lt, q_le, q_gt, q_ge, q_eq, q_ne, q_abs, q_int, q_tru, q_isi, q_len_tup, q_len_lst, q_len_sq, items_tup, items_lst, items_sq, q_tup_sq, tuple_lst, tuple_tup, rng1V_n, rng2V_n, compL_G, cmpM_range, cmpM_all, cmpM_if, cmpM_none, cmpR_all, cmpR_if, cmpR_none, compL_nil, pures_map, pure_vn, pure_sq, fin_pure, mem_tup, mem_lst, mem_sq, eq_bls, ne_bls, isn_non, isn_int, isn_bl, isn_tup, isn_lst, isi_tup, isi_lst, isi_bl, isi_str, isi_non, lenV_ok, tupV_ok, ofsV_tup, ofsV_lst, ofsV_sq, catV2_l, bin_cat, mulV2_1, idxt_n, idxl_n, idxs_n, List.getD_cons_zero, List.getD_cons_succ, idx_last, set_lastN, app_last, mthV_last, frzV_last, fzV_last, len_last, tru_last, ofs_last, fin_dead, int_blN, mul1_b, mul1_n, mem_bls, nmem_bls, nmem_tup, nmem_lst, nmem_sq, rng3V_n, cut_nat, cut_to, cut_from, eq_tn, eq_ln, eq_lot, eq_lnil_v, ne_lnil_v, eq_lnil_n, ne_lnil_n, Bool.decide_eq_true, ne_lot, ne_tn, all_bl, any_bl, d4, e, firstV]
  | cons a l =>
    rw [ht] at e
    simp only [List.head?_cons] at e
    simp -implicitDefEqProofs -dsimp (disch := (first | (simp -implicitDefEqProofs only [all_tt, pures_map, pures_app, frV_pure, pure_vn, pure_sq, pure_bl, pure_int, pure_non, pure_str, pure_tup, pure_lst, pures_nil, pures_cons, Bool.and_true, Bool.true_and, Bool.and_self]; done) | omega | (apply LenLe.ok; (focus (with_reducible (repeat (first | apply LenLe.map | apply LenLe.filter | apply LenLe.srt | apply LenLe.sst | apply LenLe.rev | apply LenLe.cons | apply LenLe.append | exact LenLe.range _ | exact LenLe.rep _ _ | exact LenLe.nil | exact LenLe.bl1 _ _ | exact LenLe.self _)))); omega) | (simp -implicitDefEqProofs only [List.length_cons, List.length_nil, List.length_map, List.length_range, List.length_replicate, List.length_append]; omega) | assumption)) only [ev_nat, ev_var, ev_glo, gloV_nat, gloV_str, ev_bl, ev_non, ev_str, ev_bin, ev_cmp, ev_chn, ev_neg, ev_nt, ev_and, ev_or, ev_ite, ev_tup, ev_idx, ev_slc, ev_cal, ev_calk, ev_bi, ev_mth, ev_nl, ev_frz, ev_tupR, ev_lens, ev_minD, ev_bk, bkV_tup, bkV_lst, ← List.map_reverse, List.reverse_cons, List.reverse_nil, evn_lc2, keepL_t, compLL_G, cmpLM_range, cmpLR_all, cmpLM_all, evs_nil, evs_cons, evs_star, starV_some, revV_lst, evk_nil, evk_cons, evo_no, evo_yes, evn_disp, evn_ofs, evn_cat, evn_mul, evn_rng, evn_srt, evn_sst, evn_srtr, evn_rev, evn_lc, evc_no, evc_yes, evi_ex, evi_r1, evi_r2, evi_r3, evi_en, evi_zp, setT_n, setT_t, setTV_some, setTs_nil, setTs_cons, setTC_some, exe_set, exe_par, exe_setS, exe_augS, augSG_loc, exe_aug, augG_some, exe_ex, exe_ret, exe_retN, exe_ite, exe_whl, exe_fr, exe_fz, whlG_nx, exe_pass, exe_brk, exe_cnt, exes_nil, exes_cons, ↓seqV_nx, ↓seqV_rt, ↓seqV_bk, ↓seqV_ct, tgV_some, varV_some, chnV_bl, keepC_t, keepC_p, keepC_n, optV_n, optV_i, zpV_tt, zpV_ll, zip_map, cutT, cutL, itV_tup, itV_lst, itV_sq, enV_tup, enV_lst, enV_sq, nlV_f, nlV_t, augV_n, setAll, wipeS, start0, Out.nox_ok, bd_ok, bd_exn, bd_assoc, ↓reduceIte, decide_true, decide_false, Bool.false_eq_true, List.getElem?_cons_zero, List.getElem?_cons_succ, List.set_cons_zero, List.set_cons_succ, List.length_cons, List.length_nil, List.map_cons, List.map_nil, List.append_nil, List.nil_append, List.cons_append, List.replicate_zero, List.replicate_succ, Nat.sub_self, Nat.reduceSub, Nat.reduceAdd, Nat.reduceLeDiff, Nat.reduceLT, ret_rt, ret_nx, tru_bl, q_add, q_mod, q_fdiv, q_mul, q_sub, q_lt, q_le, q_gt, q_ge, q_eq, q_ne, q_abs, q_int, q_tru, q_isi, q_len_tup, q_len_lst, q_len_sq, items_tup, items_lst, items_sq, q_tup_sq, tuple_lst, tuple_tup, rng1V_n, rng2V_n, compL_G, cmpM_range, cmpM_all, cmpM_if, cmpM_none, cmpR_all, cmpR_if, cmpR_none, compL_nil, pures_map, pure_vn, pure_sq, fin_pure, mem_tup, mem_lst, mem_sq, eq_bls, ne_bls, isn_non, isn_int, isn_bl, isn_tup, isn_lst, isi_tup, isi_lst, isi_bl, isi_str, isi_non, lenV_ok, tupV_ok, ofsV_tup, ofsV_lst, ofsV_sq, catV2_l, bin_cat, mulV2_1, idxt_n, idxl_n, idxs_n, List.getD_cons_zero, List.getD_cons_succ, idx_last, set_lastN, app_last, mthV_last, frzV_last, fzV_last, len_last, tru_last, ofs_last, fin_dead, int_blN, mul1_b, mul1_n, mem_bls, nmem_bls, nmem_tup, nmem_lst, nmem_sq, rng3V_n, cut_nat, cut_to, cut_from, eq_tn, eq_ln, eq_lot, eq_lnil_v, ne_lnil_v, eq_lnil_n, ne_lnil_n, Bool.decide_eq_true, ne_lot, ne_tn, all_bl, any_bl, d4, e, firstV]
end K10
namespace K10
open DI
theorem hand : run P 19 12 [] [] = .ok (.bl true) [] := by kernel_rfl
end K10
namespace K10
open DI
theorem turned_once {M m p : Nat} {xs : List Nat} (lo : LotOk M m xs) : LotOk m m (nusort (xs.map fun x => (x + p) % m)) := ⟨lo.m0, Nat.le_refl _, nusort_asc _, fun x hx => by
  obtain ⟨y, _, rfl⟩ := List.mem_map.mp (nusort_mem.mp hx)
  exact Nat.mod_lt _ lo.m0⟩
theorem fine_ne {M m p : Nat} {xs : List Nat} (lo : LotOk M m xs) : ∃ a l, turnF m xs (nusort (xs.map fun x => (x + p) % m)) = a :: l := by
  have m0 := lo.m0
  have h : p % m ∈ turnF m xs (nusort (xs.map fun x => (x + p) % m)) := by
    unfold turnF
    rw [List.mem_filter, List.mem_range, decide_eq_true_eq]
    refine ⟨Nat.mod_lt _ m0, ?_⟩
    congr 1
    refine List.map_congr_left fun x _ => ?_
    rw [Nat.add_mod_mod]
  cases e : turnF m xs (nusort (xs.map fun x => (x + p) % m)) with
  | nil => rw [e] at h; simp at h
  | cons a l => exact ⟨a, l, rfl⟩
def RI (L : Nat) (r : Sl) : Prop := ∃ o1 o2 o3 o4 o5 o6 o7 o8 o9 o10 o11 o12 o13 o14 o15 o16 : Option Val, r = [some (.loc L), o1, o2, o3, o4, o5, o6, o7, o8, o9, o10, o11, o12, o13, o14, o15, o16]
theorem rows_loop (S : Store) {M m : Nat} {xs : List Nat} (lo : LotOk M m xs) (hm : m ≤ 40) (o0 o1 o2 o3 o6 o7 o9 o10 o11 o12 o13 o14 o15 o16 : Option Val) :
    ∃ p9 p10 p12, forT (fun x r1 S2 => tgV (setT (.t [.n 9, .n 10]) x r1 S2) (fun r2 => exes P (run P 18) b14_0 r2 S2) .mk) .mk ((strN m xs).map pv) [o0, o1, o2, o3, some (vn m), some (.tup (xs.map vn)), o6, o7, some (.lst []), o9, o10, o11, o12, o13, o14, o15, o16] S =
      .ok (.nx, [o0, o1, o2, o3, some (vn m), some (.tup (xs.map vn)), o6, o7, some (.lst ((seenN m (strN m xs)).map vn)), p9, p10, o11, p12, o13, o14, o15, o16]) S := by
  have m0 := lo.m0
  have hlx : (xs.map vn).length = xs.length := List.length_map ..
  have hsl := str_len lo
  have em : ∀ (s : Nat) S, binop .mod (.int ((s : Int) - ((1 : Nat) : Int))) (vn m) S = .ok (vn ((s + m - 1) % m)) S := fun s S => by
    have := mod_ints S (i := (s : Int) - ((1 : Nat) : Int)) (j := (m : Int)) (by omega)
    rw [show vn m = .int (m : Int) from rfl, this]
    unfold vn
    congr 2
    have e1 : ((s : Int) - ((1 : Nat) : Int)) % (m : Int) = ((s : Int) - ((1 : Nat) : Int) + (m : Int)) % (m : Int) := by rw [Int.add_emod_right]
    have e2 : (s : Int) - ((1 : Nat) : Int) + (m : Int) = ((s + m - 1 : Nat) : Int) := by omega
    rw [e1, e2, ← Int.natCast_emod]
  obtain ⟨_, _, e, ⟨p9, p10, p12, rfl⟩, rfl⟩ := forT_mem (body := fun x r1 S2 => tgV (setT (.t [.n 9, .n 10]) x r1 S2) (fun r2 => exes P (run P 18) b14_0 r2 S2) .mk) (t := .mk) (h := pv) (l := strN m xs)
    (fun dn r S1 => (∃ p9 p10 p12, r = [o0, o1, o2, o3, some (vn m), some (.tup (xs.map vn)), o6, o7, some (.lst ((seenN m dn).map vn)), p9, p10, o11, p12, o13, o14, o15, o16]) ∧ S1 = S)
    (fun dn p rest r S1 hl ⟨⟨p9, p10, p12, h1⟩, h2⟩ => by
      subst h1 h2
      obtain ⟨q1, q2, q3⟩ := str_ends lo (p := p) (by rw [hl]; simp)
      have hsn : seenN m (dn ++ [p]) = seenN m dn ++ (List.range p.2).map fun k => (p.1 + k) % m := by
        unfold seenN
        rw [List.flatMap_append]
        simp
      have hdl : (seenN m dn).length ≤ 1600 := by
        have key : ∀ l : List (Nat × Nat), (∀ q ∈ l, q.2 ≤ 40) → (seenN m l).length ≤ 40 * l.length := by
          intro l
          induction l with
          | nil => simp [seenN]
          | cons p l ih =>
            intro h
            have h1 := h p (by simp)
            have h2 := ih fun q hq => h q (by simp [hq])
            simp only [seenN, List.flatMap_cons, List.length_append, List.length_map, List.length_range, List.length_cons] at h2 ⊢
            omega
        have h3 := key dn fun q hq => by
          have := (str_ends lo (p := q) (by rw [hl]; simp [hq])).2.1
          omega
        have h4 : dn.length ≤ 40 := by
          have : dn.length ≤ (strN m xs).length := by rw [hl]; simp
          omega
        omega
      have hdl2 : ((seenN m dn).map vn).length ≤ 1600 := by rw [List.length_map]; exact hdl
      refine ⟨_, _, ?_, ⟨some (vn p.1), some (vn p.2), some (.lst [vn ((p.1 + m - 1) % m), vn ((p.1 + p.2) % m)]), rfl⟩, rfl⟩
      rw [hsn, List.map_append, List.map_map]
      by_cases h : xs.length < m
      · obtain ⟨a1, a2⟩ := q3 h
        simp -implicitDefEqProofs -dsimp (disch := (first | (simp -implicitDefEqProofs only [all_tt, pures_map, pures_app, frV_pure, pure_vn, pure_sq, pure_bl, pure_int, pure_non, pure_str, pure_tup, pure_lst, pures_nil, pures_cons, Bool.and_true, Bool.true_and, Bool.and_self]; done) | omega | (apply LenLe.ok; (focus (with_reducible (repeat (first | apply LenLe.map | apply LenLe.filter | apply LenLe.srt | apply LenLe.sst | apply LenLe.rev | apply LenLe.cons | apply LenLe.append | exact LenLe.range _ | exact LenLe.rep _ _ | exact LenLe.nil | exact LenLe.bl1 _ _ | exact LenLe.self _)))); omega) | (simp -implicitDefEqProofs only [List.length_cons, List.length_nil, List.length_map, List.length_range, List.length_replicate, List.length_append]; omega) | assumption)) only [ev_nat, ev_var, ev_glo, gloV_nat, gloV_str, ev_bl, ev_non, ev_str, ev_bin, ev_cmp, ev_chn, ev_neg, ev_nt, ev_and, ev_or, ev_ite, ev_tup, ev_idx, ev_slc, ev_cal, ev_calk, ev_bi, ev_mth, ev_nl, ev_frz, ev_tupR, ev_lens, ev_minD, ev_bk, bkV_tup, bkV_lst, ← List.map_reverse, List.reverse_cons, List.reverse_nil, evn_lc2, keepL_t, compLL_G, cmpLM_range, cmpLR_all, cmpLM_all, evs_nil, evs_cons, evs_star, starV_some, revV_lst, evk_nil, evk_cons, evo_no, evo_yes, evn_disp, evn_ofs, evn_cat, evn_mul, evn_rng, evn_srt, evn_sst, evn_srtr, evn_rev, evn_lc, evc_no, evc_yes, evi_ex, evi_r1, evi_r2, evi_r3, evi_en, evi_zp, setT_n, setT_t, setTV_some, setTs_nil, setTs_cons, setTC_some, exe_set, exe_par, exe_setS, exe_augS, augSG_loc, exe_aug, augG_some, exe_ex, exe_ret, exe_retN, exe_ite, exe_whl, exe_fr, exe_fz, whlG_nx, exe_pass, exe_brk, exe_cnt, exes_nil, exes_cons, ↓seqV_nx, ↓seqV_rt, ↓seqV_bk, ↓seqV_ct, tgV_some, varV_some, chnV_bl, keepC_t, keepC_p, keepC_n, optV_n, optV_i, zpV_tt, zpV_ll, zip_map, cutT, cutL, itV_tup, itV_lst, itV_sq, enV_tup, enV_lst, enV_sq, nlV_f, nlV_t, augV_n, setAll, wipeS, start0, Out.nox_ok, bd_ok, bd_exn, bd_assoc, ↓reduceIte, decide_true, decide_false, Bool.false_eq_true, List.getElem?_cons_zero, List.getElem?_cons_succ, List.set_cons_zero, List.set_cons_succ, List.length_cons, List.length_nil, List.map_cons, List.map_nil, List.append_nil, List.nil_append, List.cons_append, List.replicate_zero, List.replicate_succ, Nat.sub_self, Nat.reduceSub, Nat.reduceAdd, Nat.reduceLeDiff, Nat.reduceLT, ret_rt, ret_nx, tru_bl, q_add, q_mod, q_fdiv, q_mul, q_sub, q_lt, q_le, q_gt, q_ge, q_eq, q_ne, q_abs, q_int, q_tru, q_isi, q_len_tup, q_len_lst, q_len_sq, items_tup, items_lst, items_sq, q_tup_sq, tuple_lst, tuple_tup, rng1V_n, rng2V_n, compL_G, cmpM_range, cmpM_all, cmpM_if, cmpM_none, cmpR_all, cmpR_if, cmpR_none, compL_nil, pures_map, pure_vn, pure_sq, fin_pure, mem_tup, mem_lst, mem_sq, eq_bls, ne_bls, isn_non, isn_int, isn_bl, isn_tup, isn_lst, isi_tup, isi_lst, isi_bl, isi_str, isi_non, lenV_ok, tupV_ok, ofsV_tup, ofsV_lst, ofsV_sq, catV2_l, bin_cat, mulV2_1, idxt_n, idxl_n, idxs_n, List.getD_cons_zero, List.getD_cons_succ, idx_last, set_lastN, app_last, mthV_last, frzV_last, fzV_last, len_last, tru_last, ofs_last, fin_dead, int_blN, mul1_b, mul1_n, mem_bls, nmem_bls, nmem_tup, nmem_lst, nmem_sq, rng3V_n, cut_nat, cut_to, cut_from, eq_tn, eq_ln, eq_lot, eq_lnil_v, ne_lnil_v, eq_lnil_n, ne_lnil_n, Bool.decide_eq_true, ne_lot, ne_tn, all_bl, any_bl, b14_0, pv, em, hlx, h, compL2, ne_lnil_v, List.filter_cons, a1, a2, List.filter_nil, List.isEmpty_nil, Bool.not_true, Function.comp_def, show ∀ S, cmpop .ne (.lst []) (.lst []) S = .ok (.bl false) S from fun _ => rfl]
      · simp -implicitDefEqProofs -dsimp (disch := (first | (simp -implicitDefEqProofs only [all_tt, pures_map, pures_app, frV_pure, pure_vn, pure_sq, pure_bl, pure_int, pure_non, pure_str, pure_tup, pure_lst, pures_nil, pures_cons, Bool.and_true, Bool.true_and, Bool.and_self]; done) | omega | (apply LenLe.ok; (focus (with_reducible (repeat (first | apply LenLe.map | apply LenLe.filter | apply LenLe.srt | apply LenLe.sst | apply LenLe.rev | apply LenLe.cons | apply LenLe.append | exact LenLe.range _ | exact LenLe.rep _ _ | exact LenLe.nil | exact LenLe.bl1 _ _ | exact LenLe.self _)))); omega) | (simp -implicitDefEqProofs only [List.length_cons, List.length_nil, List.length_map, List.length_range, List.length_replicate, List.length_append]; omega) | assumption)) only [ev_nat, ev_var, ev_glo, gloV_nat, gloV_str, ev_bl, ev_non, ev_str, ev_bin, ev_cmp, ev_chn, ev_neg, ev_nt, ev_and, ev_or, ev_ite, ev_tup, ev_idx, ev_slc, ev_cal, ev_calk, ev_bi, ev_mth, ev_nl, ev_frz, ev_tupR, ev_lens, ev_minD, ev_bk, bkV_tup, bkV_lst, ← List.map_reverse, List.reverse_cons, List.reverse_nil, evn_lc2, keepL_t, compLL_G, cmpLM_range, cmpLR_all, cmpLM_all, evs_nil, evs_cons, evs_star, starV_some, revV_lst, evk_nil, evk_cons, evo_no, evo_yes, evn_disp, evn_ofs, evn_cat, evn_mul, evn_rng, evn_srt, evn_sst, evn_srtr, evn_rev, evn_lc, evc_no, evc_yes, evi_ex, evi_r1, evi_r2, evi_r3, evi_en, evi_zp, setT_n, setT_t, setTV_some, setTs_nil, setTs_cons, setTC_some, exe_set, exe_par, exe_setS, exe_augS, augSG_loc, exe_aug, augG_some, exe_ex, exe_ret, exe_retN, exe_ite, exe_whl, exe_fr, exe_fz, whlG_nx, exe_pass, exe_brk, exe_cnt, exes_nil, exes_cons, ↓seqV_nx, ↓seqV_rt, ↓seqV_bk, ↓seqV_ct, tgV_some, varV_some, chnV_bl, keepC_t, keepC_p, keepC_n, optV_n, optV_i, zpV_tt, zpV_ll, zip_map, cutT, cutL, itV_tup, itV_lst, itV_sq, enV_tup, enV_lst, enV_sq, nlV_f, nlV_t, augV_n, setAll, wipeS, start0, Out.nox_ok, bd_ok, bd_exn, bd_assoc, ↓reduceIte, decide_true, decide_false, Bool.false_eq_true, List.getElem?_cons_zero, List.getElem?_cons_succ, List.set_cons_zero, List.set_cons_succ, List.length_cons, List.length_nil, List.map_cons, List.map_nil, List.append_nil, List.nil_append, List.cons_append, List.replicate_zero, List.replicate_succ, Nat.sub_self, Nat.reduceSub, Nat.reduceAdd, Nat.reduceLeDiff, Nat.reduceLT, ret_rt, ret_nx, tru_bl, q_add, q_mod, q_fdiv, q_mul, q_sub, q_lt, q_le, q_gt, q_ge, q_eq, q_ne, q_abs, q_int, q_tru, q_isi, q_len_tup, q_len_lst, q_len_sq, items_tup, items_lst, items_sq, q_tup_sq, tuple_lst, tuple_tup, rng1V_n, rng2V_n, compL_G, cmpM_range, cmpM_all, cmpM_if, cmpM_none, cmpR_all, cmpR_if, cmpR_none, compL_nil, pures_map, pure_vn, pure_sq, fin_pure, mem_tup, mem_lst, mem_sq, eq_bls, ne_bls, isn_non, isn_int, isn_bl, isn_tup, isn_lst, isi_tup, isi_lst, isi_bl, isi_str, isi_non, lenV_ok, tupV_ok, ofsV_tup, ofsV_lst, ofsV_sq, catV2_l, bin_cat, mulV2_1, idxt_n, idxl_n, idxs_n, List.getD_cons_zero, List.getD_cons_succ, idx_last, set_lastN, app_last, mthV_last, frzV_last, fzV_last, len_last, tru_last, ofs_last, fin_dead, int_blN, mul1_b, mul1_n, mem_bls, nmem_bls, nmem_tup, nmem_lst, nmem_sq, rng3V_n, cut_nat, cut_to, cut_from, eq_tn, eq_ln, eq_lot, eq_lnil_v, ne_lnil_v, eq_lnil_n, ne_lnil_n, Bool.decide_eq_true, ne_lot, ne_tn, all_bl, any_bl, b14_0, pv, em, hlx, h, Function.comp_def]) _ S ⟨⟨o9, o10, o12, rfl⟩, rfl⟩
  exact ⟨p9, p10, p12, e⟩
theorem turn_ok (S : Store) (x : Nat) (r : Sl) (β : Box) (hl : β.lim + 200 ≤ 100000) (hr : RI S.length r) :
    ∃ r1 β1, tgV (setT (.n 1) (vn x) r (S ++ boxV β :: [])) (fun r2 => exes P (run P 18) b14_1 r2 (S ++ boxV β :: [])) .mk = .ok (.nx, r1) (S ++ boxV β1 :: []) ∧ β1.lim ≤ β.lim + 200 ∧ RI S.length r1 := by
  obtain ⟨o1, o2, o3, o4, o5, o6, o7, o8, o9, o10, o11, o12, o13, o14, o15, o16, rfl⟩ := hr
  obtain ⟨_, β1, e1, l1, m, xs, rfl, lo⟩ := lot_ok 14 (S := S) (T := []) (β := β) 40 (by omega) (by omega) (by omega)
  obtain ⟨_, β2, e2, l2, p, rfl, p1⟩ := take_ok 17 (S := S) (T := []) (β := β1) (size := 90) (by omega) (by omega) (by omega)
  have m0 := lo.m0
  have m1 := lo.m1
  have hx := lo.len
  obtain ⟨_, β3, e3, l3, ys, rfl, ya, yl⟩ := buckets_ok 15 (S := S) (T := []) (β := β2) m m0 (by omega) (by omega)
  have lt := turned_once (p := p) lo
  have q1 := fun p S => moved_law 17 S lo (by omega) p
  have q2 := fun S => stretches_ok 17 S lo (by omega)
  have q3 := fun S => lot_of_ok 16 S m (strN m xs) m0 (by omega) (by have := str_len lo; omega) (fun p hp => by have := (str_ends lo hp).2.1; omega)
  have q4 := fun S => turned_ok 16 S false false m p xs m0 (by omega) (by omega)
  simp only [sq_f] at q4
  have q5 := fun ys S => turn_to_ok 15 S (ys := ys) lo (by omega)
  obtain ⟨s1, s2⟩ := str_seen lo
  have hns : nsort (seenN m (strN m xs)) = xs := nsort_of s1 lo.asc s2
  have hnu : nusort (seenN m (strN m xs)) = xs := by rw [nusort_nsort s1, hns]
  rw [hnu] at q3
  have es := fun S => srtV_n S (seenN m (strN m xs))
  rw [hns] at es
  have ep := fun S => srtV_pv S false (l := strN m xs) (by have := str_len lo; omega) (str_sorted lo)
  simp only [sq_f] at ep
  have hlx : (xs.map vn).length = xs.length := List.length_map ..
  have hsl := str_len lo
  have hslm : ((strN m xs).map pv).length ≤ m := by rw [List.length_map]; exact hsl
  have ew : ∀ S, cmpop .eq (.tup ((strN m xs).map pv)) (.tup [.tup [vn 0, vn m]]) S = .ok (.bl (decide (xs.length = m))) S := fun S => by
    have := eq_tp S (strN m xs) [(0, m)]
    rw [str_whole lo] at this
    exact this
  have en1 : ∀ S, cmpop .ne (.lst (xs.map vn)) (.lst (xs.map vn)) S = .ok (.bl false) S := fun S => by rw [ne_of_eq (eq_ln S xs xs)]; simp
  have en2 : ∀ S, cmpop .ne (.lst ((strN m xs).map pv)) (.lst ((strN m xs).map pv)) S = .ok (.bl false) S := fun S => by rw [ne_of_eq (eq_lp S _ _)]; simp
  obtain ⟨p9, p10, p12, el⟩ := rows_loop (S ++ [boxV β2]) lo m1 (some (.loc S.length)) (some (vn x)) (some (.tup [vn m, .tup (xs.map vn)])) (some (vn p)) (some (.tup [vn m, .tup ((nusort (xs.map fun x => (x + p) % m)).map vn)])) (some (.tup ((strN m xs).map pv))) o9 o10 o11 o12 o13 o14 o15 o16
  have hF : ∀ zs, ((List.range m).filter fun q => decide (nusort (xs.map fun x => (x + q) % m) = zs)) = turnF m xs zs := fun zs => rfl
  obtain ⟨a, F, hFa⟩ := fine_ne (p := p) lo
  have hFl : ∀ zs, (turnF m xs zs).length ≤ m := fun zs => Nat.le_trans (List.length_filter_le _ _) (by simp)
  have hFl2 : ∀ zs, ((turnF m xs zs).map vn).length ≤ m := fun zs => by rw [List.length_map]; exact hFl zs
  have zl := lt.len
  generalize hz : nusort (xs.map fun x => (x + p) % m) = zs at *
  have hFal := hFl zs
  have hFal2 := hFl2 zs
  rw [hFa, List.length_cons] at hFal
  rw [hFa, List.map_cons, List.length_cons] at hFal2
  have sm := fun S => same_fit 10 S (v := .lst [.tup [vn m, .tup (xs.map vn)], .tup [vn m, .tup (zs.map vn)], vn a]) (by (repeat' (first | apply Fit.n | apply Fit.fr | apply Fit.i | apply Fit.b | apply Fit.non | apply Fit.tup | apply Fit.lst | apply FitL.nil | apply FitL.cons | apply FitL.append | assumption | (apply FitL.map; intro _))) <;> (first | (simp -implicitDefEqProofs only [all_tt, pures_map, pures_app, frV_pure, pure_vn, pure_sq, pure_bl, pure_int, pure_non, pure_str, pure_tup, pure_lst, pures_nil, pures_cons, Bool.and_true, Bool.true_and, Bool.and_self]; done) | omega | (apply LenLe.ok; (focus (with_reducible (repeat (first | apply LenLe.map | apply LenLe.filter | apply LenLe.srt | apply LenLe.sst | apply LenLe.rev | apply LenLe.cons | apply LenLe.append | exact LenLe.range _ | exact LenLe.rep _ _ | exact LenLe.nil | exact LenLe.bl1 _ _ | exact LenLe.self _)))); omega) | (simp -implicitDefEqProofs only [List.length_cons, List.length_nil, List.length_map, List.length_range, List.length_replicate, List.length_append]; omega) | assumption))
  have q6 := q5 zs
  rw [hFa] at q6
  have q7 := q5 ys
  have yl2 := asc_length ya yl
  have fy := hFl2 ys
  cases hy : turnF m xs ys with
  | nil =>
    rw [hy] at q7
    have sm2 := fun S => same_fit 10 S (v := .non) .non
    simp -implicitDefEqProofs -dsimp (disch := (first | (simp -implicitDefEqProofs only [all_tt, pures_map, pures_app, frV_pure, pure_vn, pure_sq, pure_bl, pure_int, pure_non, pure_str, pure_tup, pure_lst, pures_nil, pures_cons, Bool.and_true, Bool.true_and, Bool.and_self]; done) | omega | (apply LenLe.ok; (focus (with_reducible (repeat (first | apply LenLe.map | apply LenLe.filter | apply LenLe.srt | apply LenLe.sst | apply LenLe.rev | apply LenLe.cons | apply LenLe.append | exact LenLe.range _ | exact LenLe.rep _ _ | exact LenLe.nil | exact LenLe.bl1 _ _ | exact LenLe.self _)))); omega) | (simp -implicitDefEqProofs only [List.length_cons, List.length_nil, List.length_map, List.length_range, List.length_replicate, List.length_append]; omega) | assumption)) only [ev_nat, ev_var, ev_glo, gloV_nat, gloV_str, ev_bl, ev_non, ev_str, ev_bin, ev_cmp, ev_chn, ev_neg, ev_nt, ev_and, ev_or, ev_ite, ev_tup, ev_idx, ev_slc, ev_cal, ev_calk, ev_bi, ev_mth, ev_nl, ev_frz, ev_tupR, ev_lens, ev_minD, ev_bk, bkV_tup, bkV_lst, ← List.map_reverse, List.reverse_cons, List.reverse_nil, evn_lc2, keepL_t, compLL_G, cmpLM_range, cmpLR_all, cmpLM_all, evs_nil, evs_cons, evs_star, starV_some, revV_lst, evk_nil, evk_cons, evo_no, evo_yes, evn_disp, evn_ofs, evn_cat, evn_mul, evn_rng, evn_srt, evn_sst, evn_srtr, evn_rev, evn_lc, evc_no, evc_yes, evi_ex, evi_r1, evi_r2, evi_r3, evi_en, evi_zp, setT_n, setT_t, setTV_some, setTs_nil, setTs_cons, setTC_some, exe_set, exe_par, exe_setS, exe_augS, augSG_loc, exe_aug, augG_some, exe_ex, exe_ret, exe_retN, exe_ite, exe_whl, exe_fr, exe_fz, whlG_nx, exe_pass, exe_brk, exe_cnt, exes_nil, exes_cons, ↓seqV_nx, ↓seqV_rt, ↓seqV_bk, ↓seqV_ct, tgV_some, varV_some, chnV_bl, keepC_t, keepC_p, keepC_n, optV_n, optV_i, zpV_tt, zpV_ll, zip_map, cutT, cutL, itV_tup, itV_lst, itV_sq, enV_tup, enV_lst, enV_sq, nlV_f, nlV_t, augV_n, setAll, wipeS, start0, Out.nox_ok, bd_ok, bd_exn, bd_assoc, ↓reduceIte, decide_true, decide_false, Bool.false_eq_true, List.getElem?_cons_zero, List.getElem?_cons_succ, List.set_cons_zero, List.set_cons_succ, List.length_cons, List.length_nil, List.map_cons, List.map_nil, List.append_nil, List.nil_append, List.cons_append, List.replicate_zero, List.replicate_succ, Nat.sub_self, Nat.reduceSub, Nat.reduceAdd, Nat.reduceLeDiff, Nat.reduceLT, ret_rt, ret_nx, tru_bl, q_add, q_mod, q_fdiv, q_mul, q_sub, q_lt, q_le, q_gt, q_ge, q_eq, q_ne, q_abs, q_int, q_tru, q_isi, q_len_tup, q_len_lst, q_len_sq, items_tup, items_lst, items_sq, q_tup_sq, tuple_lst, tuple_tup, rng1V_n, rng2V_n, compL_G, cmpM_range, cmpM_all, cmpM_if, cmpM_none, cmpR_all, cmpR_if, cmpR_none, compL_nil, pures_map, pure_vn, pure_sq, fin_pure, mem_tup, mem_lst, mem_sq, eq_bls, ne_bls, isn_non, isn_int, isn_bl, isn_tup, isn_lst, isi_tup, isi_lst, isi_bl, isi_str, isi_non, lenV_ok, tupV_ok, ofsV_tup, ofsV_lst, ofsV_sq, catV2_l, bin_cat, mulV2_1, idxt_n, idxl_n, idxs_n, List.getD_cons_zero, List.getD_cons_succ, idx_last, set_lastN, app_last, mthV_last, frzV_last, fzV_last, len_last, tru_last, ofs_last, fin_dead, int_blN, mul1_b, mul1_n, mem_bls, nmem_bls, nmem_tup, nmem_lst, nmem_sq, rng3V_n, cut_nat, cut_to, cut_from, eq_tn, eq_ln, eq_lot, eq_lnil_v, ne_lnil_v, eq_lnil_n, ne_lnil_n, Bool.decide_eq_true, ne_lot, ne_tn, all_bl, any_bl, b14_1, e1, e2, e3, q1, hz, q2, el, es, en1, ep, en2, ew, hlx, beq_self_eq_true, Bool.not_true, eq_lot, true_and, hF, q3, q4, q6, firstV, hFa, sm, q7, hy, List.any_cons, List.any_nil, kdB, Bool.or_false, sm2, show ∀ S, cmpop .ne (.lst []) (.lst []) S = .ok (.bl false) S from fun _ => rfl]
    exact ⟨_, β3, rfl, by omega, _, _, _, _, _, _, _, _, _, _, _, _, _, _, _, _, rfl⟩
  | cons b G =>
    rw [hy] at q7 fy
    rw [List.map_cons, List.length_cons] at fy
    have fy3 : G.length + 1 ≤ m := by simpa using fy
    have sm2 := fun S => same_fit 10 S (v := vn b) (.n b)
    have ne : ∀ S, cmpop .ne (.lst (vn b :: G.map vn)) (.lst []) S = .ok (.bl true) S := fun S => ne_lnil_v S (b :: G)
    simp -implicitDefEqProofs -dsimp (disch := (first | (simp -implicitDefEqProofs only [all_tt, pures_map, pures_app, frV_pure, pure_vn, pure_sq, pure_bl, pure_int, pure_non, pure_str, pure_tup, pure_lst, pures_nil, pures_cons, Bool.and_true, Bool.true_and, Bool.and_self]; done) | omega | (apply LenLe.ok; (focus (with_reducible (repeat (first | apply LenLe.map | apply LenLe.filter | apply LenLe.srt | apply LenLe.sst | apply LenLe.rev | apply LenLe.cons | apply LenLe.append | exact LenLe.range _ | exact LenLe.rep _ _ | exact LenLe.nil | exact LenLe.bl1 _ _ | exact LenLe.self _)))); omega) | (simp -implicitDefEqProofs only [List.length_cons, List.length_nil, List.length_map, List.length_range, List.length_replicate, List.length_append]; omega) | assumption)) only [ev_nat, ev_var, ev_glo, gloV_nat, gloV_str, ev_bl, ev_non, ev_str, ev_bin, ev_cmp, ev_chn, ev_neg, ev_nt, ev_and, ev_or, ev_ite, ev_tup, ev_idx, ev_slc, ev_cal, ev_calk, ev_bi, ev_mth, ev_nl, ev_frz, ev_tupR, ev_lens, ev_minD, ev_bk, bkV_tup, bkV_lst, ← List.map_reverse, List.reverse_cons, List.reverse_nil, evn_lc2, keepL_t, compLL_G, cmpLM_range, cmpLR_all, cmpLM_all, evs_nil, evs_cons, evs_star, starV_some, revV_lst, evk_nil, evk_cons, evo_no, evo_yes, evn_disp, evn_ofs, evn_cat, evn_mul, evn_rng, evn_srt, evn_sst, evn_srtr, evn_rev, evn_lc, evc_no, evc_yes, evi_ex, evi_r1, evi_r2, evi_r3, evi_en, evi_zp, setT_n, setT_t, setTV_some, setTs_nil, setTs_cons, setTC_some, exe_set, exe_par, exe_setS, exe_augS, augSG_loc, exe_aug, augG_some, exe_ex, exe_ret, exe_retN, exe_ite, exe_whl, exe_fr, exe_fz, whlG_nx, exe_pass, exe_brk, exe_cnt, exes_nil, exes_cons, ↓seqV_nx, ↓seqV_rt, ↓seqV_bk, ↓seqV_ct, tgV_some, varV_some, chnV_bl, keepC_t, keepC_p, keepC_n, optV_n, optV_i, zpV_tt, zpV_ll, zip_map, cutT, cutL, itV_tup, itV_lst, itV_sq, enV_tup, enV_lst, enV_sq, nlV_f, nlV_t, augV_n, setAll, wipeS, start0, Out.nox_ok, bd_ok, bd_exn, bd_assoc, ↓reduceIte, decide_true, decide_false, Bool.false_eq_true, List.getElem?_cons_zero, List.getElem?_cons_succ, List.set_cons_zero, List.set_cons_succ, List.length_cons, List.length_nil, List.map_cons, List.map_nil, List.append_nil, List.nil_append, List.cons_append, List.replicate_zero, List.replicate_succ, Nat.sub_self, Nat.reduceSub, Nat.reduceAdd, Nat.reduceLeDiff, Nat.reduceLT, ret_rt, ret_nx, tru_bl, q_add, q_mod, q_fdiv, q_mul, q_sub, q_lt, q_le, q_gt, q_ge, q_eq, q_ne, q_abs, q_int, q_tru, q_isi, q_len_tup, q_len_lst, q_len_sq, items_tup, items_lst, items_sq, q_tup_sq, tuple_lst, tuple_tup, rng1V_n, rng2V_n, compL_G, cmpM_range, cmpM_all, cmpM_if, cmpM_none, cmpR_all, cmpR_if, cmpR_none, compL_nil, pures_map, pure_vn, pure_sq, fin_pure, mem_tup, mem_lst, mem_sq, eq_bls, ne_bls, isn_non, isn_int, isn_bl, isn_tup, isn_lst, isi_tup, isi_lst, isi_bl, isi_str, isi_non, lenV_ok, tupV_ok, ofsV_tup, ofsV_lst, ofsV_sq, catV2_l, bin_cat, mulV2_1, idxt_n, idxl_n, idxs_n, List.getD_cons_zero, List.getD_cons_succ, idx_last, set_lastN, app_last, mthV_last, frzV_last, fzV_last, len_last, tru_last, ofs_last, fin_dead, int_blN, mul1_b, mul1_n, mem_bls, nmem_bls, nmem_tup, nmem_lst, nmem_sq, rng3V_n, cut_nat, cut_to, cut_from, eq_tn, eq_ln, eq_lot, eq_lnil_v, ne_lnil_v, eq_lnil_n, ne_lnil_n, Bool.decide_eq_true, ne_lot, ne_tn, all_bl, any_bl, b14_1, e1, e2, e3, q1, hz, q2, el, es, en1, ep, en2, ew, hlx, beq_self_eq_true, Bool.not_true, eq_lot, true_and, hF, q3, q4, q6, firstV, hFa, sm, q7, hy, List.any_cons, List.any_nil, kdB, Bool.or_false, sm2, ne]
    exact ⟨_, β3, rfl, by omega, _, _, _, _, _, _, _, _, _, _, _, _, _, _, _, _, rfl⟩
theorem right (S : Store) (β : Box) (hl : β.lim = 0) : ∃ β', run P 19 14 [.loc S.length] (S ++ [boxV β]) = .ok (.bl true) (S ++ [boxV β']) := by
  obtain ⟨r1, β1, e, l1, hr⟩ := Dw.forL (S := S) (T := []) (body := fun x r S => tgV (setT (.n 1) x r S) (fun r2 => exes P (run P 18) b14_1 r2 S) .mk) (h := vn) (c := 200) (top := 100000) (I := RI S.length) (fun x r β h1 h2 => turn_ok S x r β h1 h2) (List.range 12)
    [some (.loc S.length), none, none, none, none, none, none, none, none, none, none, none, none, none, none, none, none] β (by simp; omega) ⟨_, _, _, _, _, _, _, _, _, _, _, _, _, _, _, _, rfl⟩
  have e : forT (fun x r S => tgV (setT (.n 1) x r S) (fun r2 => exes P (run P 18) b14_1 r2 S) .mk) .mk ((List.range 12).map vn) [some (.loc S.length), none, none, none, none, none, none, none, none, none, none, none, none, none, none, none, none] (S ++ [boxV β]) = .ok (.nx, r1) (S ++ [boxV β1]) := e
  rw [run_eq P_14 rfl]
  simp -implicitDefEqProofs -dsimp (disch := (first | (simp -implicitDefEqProofs only [all_tt, pures_map, pures_app, frV_pure, pure_vn, pure_sq, pure_bl, pure_int, pure_non, pure_str, pure_tup, pure_lst, pures_nil, pures_cons, Bool.and_true, Bool.true_and, Bool.and_self]; done) | omega | (apply LenLe.ok; (focus (with_reducible (repeat (first | apply LenLe.map | apply LenLe.filter | apply LenLe.srt | apply LenLe.sst | apply LenLe.rev | apply LenLe.cons | apply LenLe.append | exact LenLe.range _ | exact LenLe.rep _ _ | exact LenLe.nil | exact LenLe.bl1 _ _ | exact LenLe.self _)))); omega) | (simp -implicitDefEqProofs only [List.length_cons, List.length_nil, List.length_map, List.length_range, List.length_replicate, List.length_append]; omega) | assumption)) only [ev_nat, ev_var, ev_glo, gloV_nat, gloV_str, ev_bl, ev_non, ev_str, ev_bin, ev_cmp, ev_chn, ev_neg, ev_nt, ev_and, ev_or, ev_ite, ev_tup, ev_idx, ev_slc, ev_cal, ev_calk, ev_bi, ev_mth, ev_nl, ev_frz, ev_tupR, ev_lens, ev_minD, ev_bk, bkV_tup, bkV_lst, ← List.map_reverse, List.reverse_cons, List.reverse_nil, evn_lc2, keepL_t, compLL_G, cmpLM_range, cmpLR_all, cmpLM_all, evs_nil, evs_cons, evs_star, starV_some, revV_lst, evk_nil, evk_cons, evo_no, evo_yes, evn_disp, evn_ofs, evn_cat, evn_mul, evn_rng, evn_srt, evn_sst, evn_srtr, evn_rev, evn_lc, evc_no, evc_yes, evi_ex, evi_r1, evi_r2, evi_r3, evi_en, evi_zp, setT_n, setT_t, setTV_some, setTs_nil, setTs_cons, setTC_some, exe_set, exe_par, exe_setS, exe_augS, augSG_loc, exe_aug, augG_some, exe_ex, exe_ret, exe_retN, exe_ite, exe_whl, exe_fr, exe_fz, whlG_nx, exe_pass, exe_brk, exe_cnt, exes_nil, exes_cons, ↓seqV_nx, ↓seqV_rt, ↓seqV_bk, ↓seqV_ct, tgV_some, varV_some, chnV_bl, keepC_t, keepC_p, keepC_n, optV_n, optV_i, zpV_tt, zpV_ll, zip_map, cutT, cutL, itV_tup, itV_lst, itV_sq, enV_tup, enV_lst, enV_sq, nlV_f, nlV_t, augV_n, setAll, wipeS, start0, Out.nox_ok, bd_ok, bd_exn, bd_assoc, ↓reduceIte, decide_true, decide_false, Bool.false_eq_true, List.getElem?_cons_zero, List.getElem?_cons_succ, List.set_cons_zero, List.set_cons_succ, List.length_cons, List.length_nil, List.map_cons, List.map_nil, List.append_nil, List.nil_append, List.cons_append, List.replicate_zero, List.replicate_succ, Nat.sub_self, Nat.reduceSub, Nat.reduceAdd, Nat.reduceLeDiff, Nat.reduceLT, ret_rt, ret_nx, tru_bl, q_add, q_mod, q_fdiv, q_mul, q_sub, q_lt, q_le, q_gt, q_ge, q_eq, q_ne, q_abs, q_int, q_tru, q_isi, q_len_tup, q_len_lst, q_len_sq, items_tup, items_lst, items_sq, q_tup_sq, tuple_lst, tuple_tup, rng1V_n, rng2V_n, compL_G, cmpM_range, cmpM_all, cmpM_if, cmpM_none, cmpR_all, cmpR_if, cmpR_none, compL_nil, pures_map, pure_vn, pure_sq, fin_pure, mem_tup, mem_lst, mem_sq, eq_bls, ne_bls, isn_non, isn_int, isn_bl, isn_tup, isn_lst, isi_tup, isi_lst, isi_bl, isi_str, isi_non, lenV_ok, tupV_ok, ofsV_tup, ofsV_lst, ofsV_sq, catV2_l, bin_cat, mulV2_1, idxt_n, idxl_n, idxs_n, List.getD_cons_zero, List.getD_cons_succ, idx_last, set_lastN, app_last, mthV_last, frzV_last, fzV_last, len_last, tru_last, ofs_last, fin_dead, int_blN, mul1_b, mul1_n, mem_bls, nmem_bls, nmem_tup, nmem_lst, nmem_sq, rng3V_n, cut_nat, cut_to, cut_from, eq_tn, eq_ln, eq_lot, eq_lnil_v, ne_lnil_v, eq_lnil_n, ne_lnil_n, Bool.decide_eq_true, ne_lot, ne_tn, all_bl, any_bl, d14, e]
  exact ⟨β1, fin_box0 (T := []) rfl⟩
end K10
namespace K10
open DI
theorem says : DI.Says P 20 15 63 := says_of hand right
end K10
namespace K10
open PySem
/-! ### the module as it stands, and the end -/
def top (i : Nat) : PySem.Stmt := PySem.Challenge.pw_saltlayers_k10_stretches_and_turned_lots.main.body.getD i (.Pass ⟨0, 0, 0, 0⟩)
def es : List DI.Ent := [⟨"set_of", top 1, N0, d0⟩, ⟨"turned", top 3, N1, d1⟩, ⟨"stretches", top 4, N2, d2⟩, ⟨"lot_of", top 5, N3, d3⟩, ⟨"turn_to", top 6, N4, d4⟩, ⟨"_law_box", top 8, N5, d5⟩, ⟨"_law_take", top 9, N6, d6⟩, ⟨"_law_cells", top 10, N7, d7⟩, ⟨"_law_of", top 11, N8, d8⟩, ⟨"_law_same", top 12, N9, d9⟩, ⟨"_law_buckets", top 13, N10, d10⟩, ⟨"_law_lot", top 14, N11, d11⟩, ⟨"_law_by_hand_right", top 15, N12, d12⟩, ⟨"_law_moved", top 16, N13, d13⟩, ⟨"_law_right", top 17, N14, d14⟩, ⟨"law", top 18, N15, d15⟩]
abbrev fa : List He.Fa := DI.faOf es cs
abbrev fn : List He.DefD := DI.fnsOf es
abbrev Rw : PySem.W.OpenRow := PySem.W.OpenLaw.row PySem.Challenge.rw_saltlayers_k10_stretches_and_turned_lots
abbrev hk : PySem.W.Hook := He.hookD 4 fa fn
def ob (s : PySem.W.SharedT) : He.AlD := He.obsDG 4 fa fn (HandSHeadRun.getT s)
theorem ob_eq (s : PySem.W.SharedT) : ob s = hk.obs s.abs := He.obsDG_eq (HandSHeadRun.getT_eq s)
abbrev loose : List PySem.Str := ["set_of", "turned", "stretches", "lot_of", "turn_to", "_law_box", "_law_take", "_law_cells", "_law_of", "_law_same", "_law_buckets", "_law_lot", "_law_by_hand_right", "_law_moved", "_law_right"]
theorem hrun (w : PySem.World) : HandSHeadRun.RunEq Rw (PySem.W.view Rw.prog [18]) hk ob 4000 loose w := by
  intro os
  kernel_rfl
theorem looked : es.all (DI.entOk P) = true := by kernel_rfl
end K10
open PySem PySem.W PySem.Calls PyProof.Rows in
theorem PySem.Challenge.cw_saltlayers_k10_stretches_and_turned_lots_holds : PySem.Challenge.rw_saltlayers_k10_stretches_and_turned_lots.Holds := by
  w_on; o_law
  refine HandSHeadRun.head_any (r := K10.Rw) (q := view K10.Rw.prog [18]) (H := K10.hk) (ob := K10.ob) (M := 4000) (loose := K10.loose)
    (d := HandSHeadRun.topDef K10.Rw.prog 18) (kwd := []) K10.ob_eq (by kernel_rfl) (fun s => by kernel_rfl) K10.hrun (by kernel_rfl) (by kernel_rfl) (by kernel_rfl)
    (by rfl) (by first | assumption | decide +kernel) (by decide +kernel) ⟨rfl, rfl, rfl, rfl, rfl, by decide +kernel⟩ ?hw ?hc
  case hw => w_witness2
  case hc =>
    refine L2.walk_ofE (l := PySem.Challenge.rw_saltlayers_k10_stretches_and_turned_lots) (n := 63) (k := 20) (x := "_law_script") (CX := C8.CX0) rfl (by decide) (by kernel_rfl) ⟨rfl, by decide, by decide⟩ ?F (fun _ _ _ _ z => z)
    intro w mg fa h Y G hmg0
    obtain ⟨K, KX, c⟩ := Y
    have hmg : mg ("law" : PySem.Str) = some (.ref fa) := by
      have e : (HandSHeadRun.topDef K10.Rw.prog 18).name = ("law" : PySem.Str) := by kernel_rfl
      rw [← e]
      exact hmg0
    obtain ⟨fd, hb, hF⟩ := DI.law_facts (es := K10.es) (cs := K10.cs) (wf := 100000) (k := 20) (f := 15) (x := "_law_script") (P := (PySem.Challenge.rw_saltlayers_k10_stretches_and_turned_lots).prog) (w := w) KX G (en := ⟨"law", K10.top 18, K10.N15, K10.d15⟩) hmg c rfl K10.looked rfl rfl
    exact ⟨K, fd, fun vs H Q _ => DI.spI (DI.mkPg (DI.tblOf K10.es) K10.cs 100000) K mg 20 15 vs H Q fun _ _ _ => False, KX, hb, fun H a ns hl hO hS => DI.sp_law (P := K10.P) (n := 63) (d := K10.d15) rfl rfl K10.says hl hO hS, hF⟩
