import PyProof.Rows.All
import PySem.Challenge.RW_tracehouse_k10_least_and_greatest_words
import HandS.ForMost
import HandS.ForExc
import HandS.EndTab
import HandS.AnyAll
import HandS.JoinGen
import KE.KDictKeyed
import HandS.TupAny
import HandS.IsInst
import KE.GoesNew
import KE.GoesEnum
import KE.GoesMore
import HandS.GenList
import KE.DataEq
import KE.DataFind
import KE.SortData
import KE.DataMinMax
import HandS.Replace
import PyProof.ListStr
import HandS.Defaults
import HandS.HeadHook4
import HandS.HeadWalk
import HandS.Head2
import HandS.DictComp
import HandS.StrMore
import PyProof.StrLawsIn
set_option linter.all false
section
/-! VD: plain data, and what the words of the programs do with them. Core Lean alone. -/
set_option linter.all false
namespace VD

/-- a datum that no one changes any more -/
inductive D where
  | non
  | bl (b : Bool)
  | int (i : Int)
  | str (s : List Nat)
  | tup (xs : List D)
  | lst (xs : List D)
  | dct (kvs : List (D × D))
  deriving Inhabited

/-- what a slot owns: a datum, or an object that is still changed -/
inductive M where
  | imm (d : D)
  | lst (xs : List D)
  | dct (kvs : List (D × D))
  | obj (c : Nat) (fs : List (Nat × M))
  deriving Inhabited

abbrev En := List (Option M)

/-- the largest length -/
def big : Nat := 16777216

/-! ### equality -/
mutual
def D.eq : D → D → Bool
  | .non, .non => true
  | .bl a, .bl b => a == b
  | .int a, .int b => a == b
  | .str a, .str b => a == b
  | .tup a, .tup b => D.eqL a b
  | .lst a, .lst b => D.eqL a b
  | .dct a, .dct b => D.eqK a b
  | _, _ => false
def D.eqL : List D → List D → Bool
  | [], [] => true
  | x :: xs, y :: ys => D.eq x y && D.eqL xs ys
  | _, _ => false
def D.eqK : List (D × D) → List (D × D) → Bool
  | [], [] => true
  | (k, v) :: xs, (l, w) :: ys => D.eq k l && D.eq v w && D.eqK xs ys
  | _, _ => false
end
mutual
theorem D.eq_iff : ∀ a b : D, D.eq a b = true ↔ a = b
  | .non, b => by cases b <;> simp [D.eq]
  | .bl x, b => by cases b <;> simp [D.eq]
  | .int x, b => by cases b <;> simp [D.eq]
  | .str x, b => by cases b <;> simp [D.eq]
  | .tup x, b => by cases b <;> simp [D.eq, D.eqL_iff x]
  | .lst x, b => by cases b <;> simp [D.eq, D.eqL_iff x]
  | .dct x, b => by cases b <;> simp [D.eq, D.eqK_iff x]
theorem D.eqL_iff : ∀ a b : List D, D.eqL a b = true ↔ a = b
  | [], b => by cases b <;> simp [D.eqL]
  | x :: xs, b => by cases b <;> simp [D.eqL, D.eq_iff x, D.eqL_iff xs]
theorem D.eqK_iff : ∀ a b : List (D × D), D.eqK a b = true ↔ a = b
  | [], b => by cases b <;> simp [D.eqK]
  | (k, v) :: xs, b => by
    cases b with
    | nil => simp [D.eqK]
    | cons p ys => obtain ⟨l, w⟩ := p; simp [D.eqK, D.eq_iff k, D.eq_iff v, D.eqK_iff xs, and_assoc]
end
instance : DecidableEq D := fun a b => if h : D.eq a b = true then isTrue ((D.eq_iff a b).mp h) else isFalse fun e => h ((D.eq_iff a b).mpr e)

/-! ### readers -/
abbrev FE := En → Option (D × En)
abbrev FT := En → Option (Bool × En)
abbrev FA := En → Option (List D × En)
abbrev FM := En → Option (M × En)
abbrev FO := En → Option (Option Int × En)
abbrev FI := En → Option (List D × En)
abbrev FG := D → En → Option En
/-- how a statement ends -/
inductive Fl where
  | nx | bk | ct | rt (m : M)
abbrev FS := En → Option (Fl × En)

/-- a slot -/
def slot (e : En) (i : Nat) : Option M := (e[i]?).getD none
def varF (i : Nat) : FE := fun e => match slot e i with
  | some (.imm d) => some (d, e)
  | _ => none
/-- a slot, what it owns is changed no more -/
def frzF (i : Nat) : FE := fun e => match slot e i with
  | some (.imm d) => some (d, e)
  | some (.lst xs) => some (.lst xs, e.set i (some (.imm (.lst xs))))
  | some (.dct xs) => some (.dct xs, e.set i (some (.imm (.dct xs))))
  | _ => none
def cF (d : D) : FE := fun e => some (d, e)
def op2 (op : D → D → Option D) (a b : FE) : FE := fun e => (a e).bind fun p => (b p.2).bind fun q => (op p.1 q.1).map fun d => (d, q.2)
def op1 (op : D → Option D) (a : FE) : FE := fun e => (a e).bind fun p => (op p.1).map fun d => (d, p.2)
def ts2 (op : D → D → Option Bool) (a b : FE) : FT := fun e => (a e).bind fun p => (b p.2).bind fun q => (op p.1 q.1).map fun d => (d, q.2)
def andT (a b : FT) : FT := fun e => (a e).bind fun p => if p.1 = true then b p.2 else some (false, p.2)
def orT (a b : FT) : FT := fun e => (a e).bind fun p => if p.1 = true then some (true, p.2) else b p.2
def notT (a : FT) : FT := fun e => (a e).bind fun p => some (!p.1, p.2)
/-- a test of an expression's truth -/
def truD : D → Option Bool
  | .non => some false
  | .bl b => some b
  | .int i => some (i != 0)
  | .str s => if s.length ≤ big then some (!s.isEmpty) else none
  | .tup xs => some (!xs.isEmpty)
  | .lst xs => some (!xs.isEmpty)
  | .dct _ => none
def truT (a : FE) : FT := fun e => (a e).bind fun p => (truD p.1).map fun b => (b, p.2)
/-- a datum that is a truth value, as a test -/
def blT (f : FE) : FT := fun e => (f e).bind fun p => match p.1 with
  | .bl b => some (b, p.2)
  | _ => none
def ts1 (op : D → Option Bool) (a : FE) : FT := fun e => (a e).bind fun q => (op q.1).map fun d => (d, q.2)
/-- a test as a value -/
def valF (a : FT) : FE := fun e => (a e).bind fun p => some (.bl p.1, p.2)
def ifF (c : FT) (a b : FE) : FE := fun e => (c e).bind fun p => if p.1 = true then a p.2 else b p.2
def nilA : FA := fun e => some ([], e)
def consA (a : FE) (r : FA) : FA := fun e => (a e).bind fun p => (r p.2).bind fun q => some (p.1 :: q.1, q.2)
def tupF (a : FA) : FE := fun e => (a e).bind fun p => if p.1.length ≤ big then some (.tup p.1, p.2) else none
def lstM (a : FA) : FM := fun e => (a e).bind fun p => if p.1.length ≤ big then some (.lst p.1, p.2) else none
/-- an expression whose value is a new object, used as a datum -/
def frzM (m : FM) : FE := fun e => (m e).bind fun p => match p.1 with
  | .imm d => some (d, p.2)
  | .lst xs => some (.lst xs, p.2)
  | .dct xs => some (.dct xs, p.2)
  | _ => none
def immM (a : FE) : FM := fun e => (a e).bind fun p => some (.imm p.1, p.2)

/-! ### operators -/
def two64 : Int := 18446744073709551616
def addD : D → D → Option D
  | .int i, .int j => some (.int (i + j))
  | .str a, .str b => if a.length + b.length ≤ big then some (.str (a ++ b)) else none
  | .tup a, .tup b => if a.length + b.length ≤ big then some (.tup (a ++ b)) else none
  | _, _ => none
def subD : D → D → Option D
  | .int i, .int j => some (.int (i - j))
  | _, _ => none
def mulD : D → D → Option D
  | .int i, .int j => if (-two64 < i ∧ i < two64) ∨ (-two64 < j ∧ j < two64) then some (.int (i * j)) else none
  | _, _ => none
def divD : D → D → Option D
  | .int i, .int j => if 0 < j ∧ j < 1073741824 then some (.int (i / j)) else none
  | _, _ => none
def modD : D → D → Option D
  | .int i, .int j => if 0 < j then some (.int (i % j)) else none
  | _, _ => none
def powD : D → D → Option D
  | .int i, .int j => if 0 ≤ j ∧ j ≤ 1000000 ∧ i.natAbs < two64.toNat then some (.int (i ^ j.toNat)) else none
  | _, _ => none
def negD : D → Option D
  | .int i => some (.int (-i))
  | _ => none
/-- lists that are made anew by + -/
def catM (a b : FE) : FM := fun e => (a e).bind fun p => (b p.2).bind fun q => match p.1, q.1 with
  | .lst xs, .lst ys => if xs.length + ys.length ≤ big then some (.lst (xs ++ ys), q.2) else none
  | _, _ => none

/-! ### comparisons -/
mutual
/-- == of data -/
def peq : D → D → Bool
  | .non, .non => true
  | .bl a, .bl b => a == b
  | .bl a, .int j => (if a then 1 else 0) == j
  | .int i, .bl b => i == (if b then 1 else 0)
  | .int i, .int j => i == j
  | .str x, .str y => decide (x = y)
  | .lst xs, .lst ys => peqL xs ys
  | .tup xs, .tup ys => peqL xs ys
  | .non, .bl _ | .non, .int _ | .non, .str _ | .non, .lst _ | .non, .tup _ | .non, .dct _ => false
  | .bl _, .non | .bl _, .str _ | .bl _, .lst _ | .bl _, .tup _ | .bl _, .dct _ => false
  | .int _, .non | .int _, .str _ | .int _, .lst _ | .int _, .tup _ | .int _, .dct _ => false
  | .str _, .non | .str _, .bl _ | .str _, .int _ | .str _, .lst _ | .str _, .tup _ | .str _, .dct _ => false
  | .lst _, .non | .lst _, .bl _ | .lst _, .int _ | .lst _, .str _ | .lst _, .tup _ | .lst _, .dct _ => false
  | .tup _, .non | .tup _, .bl _ | .tup _, .int _ | .tup _, .str _ | .tup _, .lst _ | .tup _, .dct _ => false
  | .dct _, _ => false
def peqL : List D → List D → Bool
  | [], [] => true
  | x :: xs, y :: ys => peq x y && peqL xs ys
  | [], _ :: _ => false
  | _ :: _, [] => false
end
mutual
/-- how deep -/
def dep : D → Nat
  | .tup xs => depL xs + 1
  | .lst xs => depL xs + 1
  | .dct _ => 101
  | _ => 0
def depL : List D → Nat
  | [] => 0
  | x :: xs => max (dep x) (depL xs)
end
mutual
/-- no truth value lies within (== is then the equality) -/
def nob : D → Bool
  | .bl _ => false
  | .tup xs => nobL xs
  | .lst xs => nobL xs
  | .dct _ => false
  | _ => true
def nobL : List D → Bool
  | [] => true
  | x :: xs => nob x && nobL xs
end
mutual
theorem peq_nob : ∀ a b : D, nob a = true → nob b = true → (peq a b = true ↔ a = b)
  | .non, b, _, hb => by cases b <;> simp [peq]
  | .bl _, _, h, _ => by simp [nob] at h
  | .int i, b, _, hb => by cases b <;> simp_all [peq, nob]
  | .str i, b, _, hb => by cases b <;> simp [peq]
  | .tup xs, b, h, hb => by
    cases b <;> simp only [peq, Bool.false_eq_true, reduceCtorEq]
    rw [peqL_nob _ _ (by simpa [nob] using h) (by simpa [nob] using hb)]
    simp
  | .lst xs, b, h, hb => by
    cases b <;> simp only [peq, Bool.false_eq_true, reduceCtorEq]
    rw [peqL_nob _ _ (by simpa [nob] using h) (by simpa [nob] using hb)]
    simp
  | .dct _, _, h, _ => by simp [nob] at h
theorem peqL_nob : ∀ a b : List D, nobL a = true → nobL b = true → (peqL a b = true ↔ a = b)
  | [], b, _, _ => by cases b <;> simp [peqL]
  | x :: xs, [], _, _ => by simp [peqL]
  | x :: xs, y :: ys, h, hb => by
    simp only [nobL, Bool.and_eq_true] at h hb
    simp [peqL, peq_nob x y h.1 hb.1, peqL_nob xs ys h.2 hb.2]
end
theorem peq_dec {a b : D} (ha : nob a = true) (hb : nob b = true) : peq a b = decide (a = b) := by
  rw [Bool.eq_iff_iff, decide_eq_true_iff]
  exact peq_nob a b ha hb
/-- the room for a comparison -/
def room : Nat := 100
def eqD (a b : D) : Option Bool := if dep a ≤ room ∧ dep b ≤ room then some (peq a b) else none
def neD (a b : D) : Option Bool := if dep a ≤ room ∧ dep b ≤ room then some (!peq a b) else none
def ltD : D → D → Option Bool
  | .int i, .int j => some (decide (i < j))
  | .str a, .str b => some (decide (a < b))
  | _, _ => none
def leD : D → D → Option Bool
  | .int i, .int j => some (decide (i ≤ j))
  | .str a, .str b => some (!decide (b < a))
  | _, _ => none
def gtD (a b : D) : Option Bool := ltD b a
def geD (a b : D) : Option Bool := leD b a
def isND (a : D) : Option Bool := some (decide (a = .non))
def isnotND (a : D) : Option Bool := some (!decide (a = .non))
def inD : D → D → Option Bool
  | .str [c], .str z => some (decide (c ∈ z))
  | x, .tup xs => if dep x ≤ room ∧ depL xs ≤ room then some (xs.any fun y => peq y x) else none
  | x, .lst xs => if dep x ≤ room ∧ depL xs ≤ room then some (xs.any fun y => peq y x) else none
  | _, _ => none
def notInD (a b : D) : Option Bool := (inD a b).map (!·)
/-- what a slot owns: in, not in -/
def inM : D → M → Option Bool
  | x, .imm d => inD x d
  | x, .lst xs => if dep x ≤ room ∧ depL xs ≤ room then some (xs.any fun y => peq y x) else none
  | x, .dct kvs => if dep x ≤ room then some (kvs.any fun p => peq p.1 x) else none
  | _, _ => none
def inS (a : FE) (i : Nat) : FT := fun e => (a e).bind fun p => (slot p.2 i).bind fun m => (inM p.1 m).map fun b => (b, p.2)
def notInS (a : FE) (i : Nat) : FT := fun e => (a e).bind fun p => (slot p.2 i).bind fun m => (inM p.1 m).map fun b => (!b, p.2)

/-! ### order -/
mutual
/-- a datum as a row of signs: the order of data is the order of these rows -/
def tok : D → List (Int ⊕ List Nat)
  | .non => []
  | .bl b => [.inl (if b = true then 1 else 0)]
  | .int n => [.inl n]
  | .str x => [.inr x]
  | .lst xs => tokL xs
  | .tup xs => tokL xs
  | .dct _ => []
def tokL : List D → List (Int ⊕ List Nat)
  | [] => [.inl 0]
  | x :: xs => .inl 1 :: (tok x ++ tokL xs)
end
def tokLt1 : Int ⊕ List Nat → Int ⊕ List Nat → Bool
  | .inl a, .inl b => decide (a < b)
  | .inr a, .inr b => decide (a < b)
  | .inl _, .inr _ => true
  | .inr _, .inl _ => false
def tokLt : List (Int ⊕ List Nat) → List (Int ⊕ List Nat) → Bool
  | [], [] => false
  | [], _ :: _ => true
  | _ :: _, [] => false
  | x :: r, y :: t => tokLt1 x y || (!tokLt1 y x && tokLt r t)
def dLt (a b : D) : Bool := tokLt (tok a) (tok b)
def dLe (a b : D) : Bool := !dLt b a
mutual
/-- of one kind, place by place -/
def alk : D → D → Bool
  | .non, .non => true
  | .bl _, .bl _ => true
  | .int _, .int _ => true
  | .str _, .str _ => true
  | .lst xs, .lst ys => alkL xs ys
  | .tup xs, .tup ys => alkL xs ys
  | _, _ => false
def alkL : List D → List D → Bool
  | x :: xs, y :: ys => alk x y && alkL xs ys
  | [], _ => true
  | _ :: _, [] => true
end
def tup1 : D → Bool
  | .tup (_ :: _) => true
  | _ => false
def untup : D → Bool
  | .tup _ => false
  | .non => false
  | _ => true
/-- what can be sorted -/
def sortable (ds : List D) : Bool := (ds.all fun a => ds.all fun b => alk a b) && (ds.all tup1 || ds.all untup) && ds.all (fun d => decide (dep d ≤ room)) && decide (ds.length ≤ big)
def sortL (ds : List D) : Option (List D) := if sortable ds = true then some (ds.mergeSort dLe) else none

/-! ### items, slices -/
def ixOf (n : Nat) (i : Int) : Option Nat := if 0 ≤ i then (if i < n then some i.toNat else none) else if -(n : Int) ≤ i then some (i + n).toNat else none
def atL {α : Type} (xs : List α) (i : Int) : Option α := (ixOf xs.length i).bind fun j => xs[j]?
def getD : D → D → Option D
  | .tup xs, .int i => atL xs i
  | .lst xs, .int i => atL xs i
  | .str s, .int i => if s.length ≤ big then (atL s i).map fun c => .str [c] else none
  | _, _ => none
def getM : M → D → Option D
  | .imm d, k => getD d k
  | .lst xs, .int i => atL xs i
  | _, _ => none
/-- slot[index] -/
def getS (i : Nat) (k : FE) : FE := fun e => (slot e i).bind fun _ => (k e).bind fun q => (slot q.2 i).bind fun m => (getM m q.1).map fun d => (d, q.2)
def sxOf (n d : Nat) : Option Int → Nat
  | none => d
  | some v => if v < 0 then (v + n).toNat else min v.toNat n
def cutL {α : Type} (xs : List α) (lo hi : Option Int) : List α := (xs.drop (sxOf xs.length 0 lo)).take (sxOf xs.length xs.length hi - sxOf xs.length 0 lo)
def noF : FO := fun e => some (none, e)
def someF (a : FE) : FO := fun e => (a e).bind fun p => match p.1 with
  | .int i => some (some i, p.2)
  | _ => none
def cutD (d : D) (lo hi : Option Int) : Option D := match d with
  | .str s => if s.length ≤ big then some (.str (cutL s lo hi)) else none
  | .tup xs => some (.tup (cutL xs lo hi))
  | _ => none
def cutF (a : FE) (lo hi : FO) : FE := fun e => (a e).bind fun p => (lo p.2).bind fun l => (hi l.2).bind fun h => (cutD p.1 l.1 h.1).map fun d => (d, h.2)

/-! ### built-ins -/
def lenD : D → Option Nat
  | .str s => if s.length ≤ big then some s.length else none
  | .tup xs => some xs.length
  | .lst xs => some xs.length
  | _ => none
def lenM : M → Option Nat
  | .imm d => lenD d
  | .lst xs => some xs.length
  | _ => none
def lenF (a : FE) : FE := op1 (fun d => (lenD d).map fun (n : Nat) => D.int (n : Int)) a
def lenS (i : Nat) : FE := fun e => (slot e i).bind fun m => (lenM m).map fun (n : Nat) => (D.int (n : Int), e)
def intD : D → Option D
  | .int i => some (.int i)
  | .bl b => some (.int (if b then 1 else 0))
  | _ => none

/-! ### calls -/
/-- an argument: a datum, or a slot that the callee may change -/
inductive Arg where
  | e (f : FE)
  | s (i : Nat)
abbrev Fn := List M → Option (M × List M)
def evArgs : List Arg → En → Option (List M × En)
  | [], e => some ([], e)
  | .e f :: r, e => (f e).bind fun p => (evArgs r p.2).bind fun q => some (.imm p.1 :: q.1, q.2)
  | .s i :: r, e => (slot e i).bind fun _ => (evArgs r e).bind fun q => (slot q.2 i).bind fun m => some (m :: q.1, q.2.set i none)
/-- the slots behind a call -/
def putArgs : List Arg → List M → En → En
  | [], _, e => e
  | _ :: _, [], e => e
  | .e _ :: r, _ :: ms, e => putArgs r ms e
  | .s i :: r, m :: ms, e => putArgs r ms (e.set i (some m))
def callM (F : Fn) (as : List Arg) : FM := fun e => (evArgs as e).bind fun p => (F p.1).bind fun r => some (r.1, putArgs as r.2 p.2)
/-- a call whose value is a datum -/
def immF (f : FM) : FE := fun e => (f e).bind fun p => match p.1 with
  | .imm d => some (d, p.2)
  | _ => none
def callF (F : Fn) (as : List Arg) : FE := immF (callM F as)

/-! ### statements -/
def nxS : FS := fun e => some (.nx, e)
def seqS (a b : FS) : FS := fun e => (a e).bind fun p => match p.1 with
  | .nx => b p.2
  | _ => some p
def setS (i : Nat) (a : FE) : FS := fun e => (a e).bind fun p => some (.nx, p.2.set i (some (.imm p.1)))
def setMS (i : Nat) (a : FM) : FS := fun e => (a e).bind fun p => some (.nx, p.2.set i (some p.1))
def asgS (g : FG) (a : FE) : FS := fun e => (a e).bind fun p => (g p.1 p.2).bind fun e' => some (.nx, e')
def augS (op : D → D → Option D) (i : Nat) (a : FE) : FS := fun e => match slot e i with
  | some (.imm d) => (a e).bind fun p => (op d p.1).bind fun r => some (.nx, p.2.set i (some (.imm r)))
  | _ => none
def retS (a : FE) : FS := fun e => (a e).bind fun p => some (.rt (.imm p.1), p.2)
def retMS (a : FM) : FS := fun e => (a e).bind fun p => some (.rt p.1, p.2)
def retNS : FS := fun e => some (.rt (.imm .non), e)
def bkS : FS := fun e => some (.bk, e)
def ctS : FS := fun e => some (.ct, e)
def dropS (a : FE) : FS := fun e => (a e).bind fun p => some (.nx, p.2)
def ifS (c : FT) (a b : FS) : FS := fun e => (c e).bind fun p => if p.1 = true then a p.2 else b p.2
/-- slot.append(x) -/
def isLst : Option M → Bool
  | some (.lst _) => true
  | _ => false
def appS (i : Nat) (a : FE) : FS := fun e => if isLst (slot e i) = true then (a e).bind fun p => (match slot p.2 i with
  | some (.lst xs) => if xs.length < big then some (.nx, p.2.set i (some (.lst (xs ++ [p.1])))) else none
  | _ => none) else none
/-- slot[k] = x: x first, then k -/
def putS (i : Nat) (k : FE) (a : FE) : FS := fun e => (a e).bind fun p => (slot p.2 i).bind fun _ => (k p.2).bind fun q => match slot q.2 i, q.1 with
  | some (.lst xs), .int z => (ixOf xs.length z).bind fun j => some (.nx, q.2.set i (some (.lst (xs.set j p.1))))
  | _, _ => none
/-- targets -/
def nameG (i : Nat) : FG := fun d e => some (e.set i (some (.imm d)))
def namesG : List Nat → List D → En → Option En
  | [], [], e => some e
  | i :: is, d :: ds, e => namesG is ds (e.set i (some (.imm d)))
  | _, _, _ => none
def tupG (is : List Nat) : FG := fun d e => match d with
  | .tup ds => namesG is ds e
  | _ => none
def forL (g : FG) (b : FS) : List D → FS
  | [], e => some (.nx, e)
  | x :: xs, e => (g x e).bind fun e1 => (b e1).bind fun p => match p.1 with
    | .nx => forL g b xs p.2
    | .ct => forL g b xs p.2
    | .bk => some (.nx, p.2)
    | .rt m => some (.rt m, p.2)
def forS (g : FG) (it : FI) (b : FS) : FS := fun e => (it e).bind fun p => forL g b p.1 p.2
def whileN (c : FT) (b : FS) : Nat → FS
  | 0, _ => none
  | n + 1, e => (c e).bind fun p => if p.1 = true then (b p.2).bind fun q => (match q.1 with
      | .nx => whileN c b n q.2
      | .ct => whileN c b n q.2
      | .bk => some (.nx, q.2)
      | .rt m => some (.rt m, q.2)) else some (.nx, p.2)

/-! ### what is walked -/
def itemsD : D → Option (List D)
  | .tup xs => some xs
  | .lst xs => some xs
  | .str s => some (s.map fun c => .str [c])
  | _ => none
def itF (a : FE) : FI := fun e => (a e).bind fun p => (itemsD p.1).map fun xs => (xs, p.2)
def two62 : Int := 4611686018427387904
def upto (lo : Int) : Nat → List D
  | 0 => []
  | n + 1 => .int lo :: upto (lo + 1) n
def rng1 (a : FE) : FI := fun e => (a e).bind fun p => match p.1 with
  | .int j => if -two62 ≤ j ∧ j < two62 then some (upto 0 j.toNat, p.2) else none
  | _ => none
def rng2 (a b : FE) : FI := fun e => (a e).bind fun p => (b p.2).bind fun q => match p.1, q.1 with
  | .int i, .int j => if -two62 ≤ i ∧ i < two62 ∧ -two62 ≤ j ∧ j < two62 then some (upto i (j - i).toNat, q.2) else none
  | _, _ => none
def numd (lo : Int) : List D → List D
  | [] => []
  | x :: xs => .tup [.int lo, x] :: numd (lo + 1) xs
def enumF (a : FE) : FI := fun e => (a e).bind fun p => (itemsD p.1).map fun xs => (numd 0 xs, p.2)
def zipL : List D → List D → List D
  | x :: xs, y :: ys => .tup [x, y] :: zipL xs ys
  | _, _ => []
def zipF (a b : FE) : FI := fun e => (a e).bind fun p => (b p.2).bind fun q => (itemsD p.1).bind fun xs => (itemsD q.1).map fun ys => (zipL xs ys, q.2)

/-! ### comprehensions: own: the comprehension's own slots -/
def wipeE (e : En) : List Nat → En
  | [] => e
  | i :: is => (wipeE e is).set i none
/-- the slots of the comprehension as they stood ahead of it -/
def keepO : Option M → Option M
  | some (.imm d) => some (.imm d)
  | _ => none
def backE (e0 : En) : En → List Nat → En
  | e, [] => e
  | e, i :: is => backE e0 (e.set i (keepO (slot e0 i))) is
def allTs : List FT → FT
  | [], e => some (true, e)
  | t :: ts, e => (t e).bind fun p => if p.1 = true then allTs ts p.2 else some (false, p.2)
def compL (g : FG) (t : FT) (x : FE) (own : List Nat) : List D → List D → En → Option (List D × En)
  | [], acc, e => some (acc, e)
  | d :: ds, acc, e => (g d e).bind fun e1 => (t e1).bind fun p => if p.1 = true then (x p.2).bind fun q => if acc.length < big then compL g t x own ds (acc ++ [q.1]) (wipeE q.2 own) else none else compL g t x own ds acc (wipeE p.2 own)
def yesT : FT := fun e => some (true, e)
def compM (g : FG) (it : FI) (t : FT) (x : FE) (own : List Nat) : FM := fun e => (it e).bind fun p => (compL g t x own p.1 [] (wipeE p.2 own)).bind fun q => some (.lst q.1, backE p.2 q.2 own)

/-! ### defs -/
/-- what the parameters' slots own behind the call: a datum stays -/
def backM : List M → En → Option (List M)
  | [], _ => some []
  | _ :: _, [] => none
  | m :: ms, o :: e => match m, o with
    | .imm d, _ => (backM ms e).map fun l => .imm d :: l
    | _, some m' => (backM ms e).map fun l => m' :: l
    | _, none => none
def defF (n : Nat) (b : FS) : Fn := fun ms => (b (ms.map some ++ List.replicate (n - ms.length) none)).bind fun p => match p.1 with
  | .rt m => (backM ms p.2).map fun l => (m, l)
  | .nx => (backM ms p.2).map fun l => (.imm .non, l)
  | _ => none

/-! ### generator expressions: what is handed out, whether the reader stopped, the slots behind -/
abbrev FGn := (D → Option Bool) → En → Option ((List D × Bool) × En)
def genL1 (g : FG) (t : FT) (x : FE) (own : List Nat) (stop : D → Option Bool) : List D → En → Option ((List D × Bool) × En)
  | [], e => some (([], false), e)
  | d :: ds, e => (g d e).bind fun e1 => (t e1).bind fun p => if p.1 = true then (x p.2).bind fun q => (stop q.1).bind fun b => if b = true then some (([q.1], true), wipeE q.2 own) else
      (genL1 g t x own stop ds (wipeE q.2 own)).bind fun r => some ((q.1 :: r.1.1, r.1.2), r.2)
    else genL1 g t x own stop ds (wipeE p.2 own)
def genM1 (g : FG) (it : FI) (t : FT) (x : FE) (own : List Nat) : FGn := fun stop e => (it e).bind fun p => (genL1 g t x own stop p.1 (wipeE p.2 own)).bind fun r => some (r.1, backE p.2 r.2 own)
def genL2 (g : FG) (t : FT) (it1 : FI) (g1 : FG) (t1 : FT) (x : FE) (own own1 : List Nat) (stop : D → Option Bool) : List D → En → Option ((List D × Bool) × En)
  | [], e => some (([], false), e)
  | d :: ds, e => (g d e).bind fun e1 => (t e1).bind fun p => if p.1 = true then (it1 p.2).bind fun q => (genL1 g1 t1 x own1 stop q.1 (wipeE q.2 own1)).bind fun r => if r.1.2 = true then some (r.1, wipeE r.2 own) else
      (genL2 g t it1 g1 t1 x own own1 stop ds (wipeE r.2 own)).bind fun z => some ((r.1.1 ++ z.1.1, z.1.2), z.2)
    else genL2 g t it1 g1 t1 x own own1 stop ds (wipeE p.2 own)
def genM2 (g : FG) (it : FI) (t : FT) (it1 : FI) (g1 : FG) (t1 : FT) (x : FE) (own own1 : List Nat) : FGn := fun stop e => (it e).bind fun p => (genL2 g t it1 g1 t1 x own own1 stop p.1 (wipeE p.2 own)).bind fun r => some (r.1, backE p.2 r.2 own)
def goOn : D → Option Bool := fun _ => some false
def stopAny : D → Option Bool
  | .bl b => some b
  | _ => none
def stopAll : D → Option Bool
  | .bl b => some (!b)
  | _ => none
def anyF (f : FGn) : FT := fun e => (f stopAny e).map fun r => (r.1.2, r.2)
def allF (f : FGn) : FT := fun e => (f stopAll e).map fun r => (!r.1.2, r.2)
def tupGF (f : FGn) : FE := fun e => (f goOn e).bind fun r => if r.1.1.length ≤ big then some (.tup r.1.1, r.2) else none
def lstGM (f : FGn) : FM := fun e => (f goOn e).bind fun r => if r.1.1.length ≤ big then some (.lst r.1.1, r.2) else none
/-! ### more built-ins -/
def min2D : D → D → Option D
  | .int i, .int j => some (.int (if j < i then j else i))
  | .str a, .str b => some (.str (if b < a then b else a))
  | _, _ => none
def max2D : D → D → Option D
  | .int i, .int j => some (.int (if j > i then j else i))
  | .str a, .str b => some (.str (if a < b then b else a))
  | _, _ => none
def strsD : List D → Option (List (List Nat))
  | [] => some []
  | .str s :: r => (strsD r).map fun l => s :: l
  | _ :: _ => none
/-- sep.join -/
def glue (sep : List Nat) : List (List Nat) → List Nat
  | [] => []
  | [x] => x
  | x :: y :: r => x ++ sep ++ glue sep (y :: r)
def joinL (sep : List Nat) (ds : List D) : Option (List Nat) := (strsD ds).bind fun l => if (l.map fun z => z.length + sep.length).sum ≤ big ∧ l.length ≤ big then some (glue sep l) else none
def joinGF (a : FE) (f : FGn) : FE := fun e => (a e).bind fun p => match p.1 with
  | .str sep => (f goOn p.2).bind fun r => (joinL sep r.1.1).map fun z => (.str z, r.2)
  | _ => none
def joinF (a b : FE) : FE := fun e => (a e).bind fun p => (b p.2).bind fun q => match p.1, itemsD q.1 with
  | .str sep, some ds => (joinL sep ds).map fun z => (.str z, q.2)
  | _, _ => none
def srtM (a : FE) : FM := fun e => (a e).bind fun p => (itemsD p.1).bind fun ds => (sortL ds).map fun l => (.lst l, p.2)
def srtGM (f : FGn) : FM := fun e => (f goOn e).bind fun r => (sortL r.1.1).map fun l => (.lst l, r.2)
/-- what a slot owns, as a row of data -/
def itemsM : M → Option (List D)
  | .imm d => itemsD d
  | .lst xs => some xs
  | .dct kvs => some (kvs.map (·.1))
  | _ => none
def srtS (i : Nat) : FM := fun e => (slot e i).bind fun m => (itemsM m).bind fun ds => (sortL ds).map fun l => (.lst l, e)
/-- tuple(x), list(x) -/
def tupOf (a : FE) : FE := fun e => (a e).bind fun p => (itemsD p.1).bind fun ds => if ds.length ≤ big then some (.tup ds, p.2) else none
def tupOfM (f : FM) : FE := fun e => (f e).bind fun p => (itemsM p.1).bind fun ds => if ds.length ≤ big then some (.tup ds, p.2) else none
def tupS (i : Nat) : FE := fun e => (slot e i).bind fun m => (itemsM m).bind fun ds => if ds.length ≤ big then some (.tup ds, e) else none
def lstOf (a : FE) : FM := fun e => (a e).bind fun p => (itemsD p.1).bind fun ds => if ds.length ≤ big then some (.lst ds, p.2) else none
def lstS (i : Nat) : FM := fun e => (slot e i).bind fun m => (itemsM m).bind fun ds => if ds.length ≤ big then some (.lst ds, e) else none
def lenFM (f : FM) : FE := fun e => (f e).bind fun p => (lenM p.1).map fun (n : Nat) => (D.int (n : Int), p.2)
/-- x.count(y), x.index(y) -/
def countD : D → D → Option D
  | .str z, .str [c] => if z.length ≤ big then some (.int (z.countP (· == c))) else none
  | .tup xs, y => if dep y ≤ room ∧ depL xs ≤ room then some (.int (xs.countP fun x => peq x y)) else none
  | .lst xs, y => if dep y ≤ room ∧ depL xs ≤ room then some (.int (xs.countP fun x => peq x y)) else none
  | _, _ => none
def indexD : D → D → Option D
  | .str z, .str [c] => if z.length ≤ big ∧ c ∈ z then some (.int (z.idxOf c)) else none
  | _, _ => none
/-- isinstance -/
def isTup : D → Bool | .tup _ => true | _ => false
def isBl : D → Bool | .bl _ => true | _ => false
def isInt : D → Bool | .bl _ => true | .int _ => true | _ => false
def isStr : D → Bool | .str _ => true | _ => false
def isiT (p : D → Bool) (a : FE) : FT := ts1 (fun d => some (p d)) a
/-- the items of a list, new or frozen -/
def lstItems : M → Option (List D)
  | .lst xs => some xs
  | .imm (.lst xs) => some xs
  | _ => none
def srtFM (f : FM) : FM := fun e => (f e).bind fun p => (lstItems p.1).bind fun ds => (sortL ds).map fun l => (.lst l, p.2)
/-- a slot as an object that is only read -/
def seeS (i : Nat) (g : M → Option M) : FM := fun e => (slot e i).bind fun m => (g m).map fun r => (r, e)
def srtOfM (m : M) : Option M := (lstItems m).bind fun ds => (sortL ds).map fun l => .lst l
end VD
end

section
set_option Elab.async false
set_option linter.all false
set_option maxRecDepth 100000
/-! VLa: data upon the abstract heap. -/
namespace VL
open PySem PySem.Spec PyProof.Rows L2 VD

/-- a text by its signs -/
abbrev st (s : List Nat) : Str := ⟨s.toArray⟩

/-- the written part of a program's heap, the program, the world -/
structure Kx where
  fr : PySem.W.Frag
  P : Program
  w : World
/-- of a context -/
def kxOf (X : Cx) : Kx := ⟨X.K, X.prog, X.w⟩
theorem frK {X : Cx} {K : Kx} (h : kxOf X = K) : X.K = K.fr := by rw [← h]; rfl
/-- a list that nobody changes any more -/
def FzL (K : Kx) (H : Hp) (a : Addr) (xs : List V) : Prop :=
  (∃ o, H a = some (.frz o (.lst xs))) ∨
    ∃ (o : Obj) (its : Array Value) (n : Nat), K.fr.lookup a = some o ∧ o.cls = .type "list" ∧ o.dict = none ∧ o.data = .seq its n ∧ its.size ≤ sizeLine ∧ Vals xs its.toList
theorem FzL.sq {K : Kx} {H : Hp} {a : Addr} {xs : List V} (h : FzL K H a xs) : SqL K.fr H a xs := by
  rcases h with ⟨o, h⟩ | h
  · exact .inl (.inr ⟨o, h⟩)
  · exact .inr h

/-! dicts -/
mutual
def nk : D → NestedKey
  | .non => .none
  | .bl b => .num (if b = true then 1 else 0)
  | .int i => .num i
  | .str s => .text (st s)
  | .tup xs => .tup (nkL xs)
  | .lst _ => .none
  | .dct _ => .none
def nkL : List D → List NestedKey
  | [] => []
  | x :: xs => nk x :: nkL xs
end
def flatK : D → Option Key
  | .int i => some (.inl i)
  | .str s => some (.inr (st s))
  | _ => none
/-- a dict whose keys are tuples, by its entries -/
def dtO (P : Program) (w : World) (a : Addr) (xs : List (NestedKey × Addr × Value)) : HO :=
  .ext fun h => xs.length ≤ sizeLine ∧ (a == sysModules) = false ∧ ∃ o es ep, h.get? a = some o ∧ o.ExactDict ∧ o.data = .dict es ep ∧ es.toList = xs.map (entryOfKey (nestedKind P w)) ∧ (xs.map (·.1)).Nodup
/-- what stands at the dict a: its keys and values -/
inductive Sh (K : Kx) (a : Addr) (kvs : List (D × D)) : HO → List (V × V) → Prop where
  | flat (l : List (Key × V)) (h : kvs.map (fun p => flatK p.1) = l.map fun p => some p.1) : Sh K a kvs (.dK l) (l.map fun p => (kV p.1, p.2))
  | tups (xs : List (NestedKey × Addr × Value)) (ks : List (V × V)) (h : xs.map (·.1) = kvs.map fun p => nk p.1) (h2 : ∀ p ∈ kvs, ∃ ds, p.1 = .tup ds) (r : Paired (fun (q : V × V) (x : NestedKey × Addr × Value) => q.1 = .ref x.2.1 ∧ RelV q.2 x.2.2) ks xs) : Sh K a kvs (dtO K.P K.w a xs) ks

mutual
/-- v is the datum d; this stays so -/
def Im (K : Kx) (H : Hp) : D → V → Prop
  | .non, v => v = .non
  | .bl b, v => v = .bl b
  | .int i, v => v = .int i
  | .str s, v => v = .str (st s)
  | .tup ds, v => ∃ a vs, v = .ref a ∧ H a = some (.tup vs) ∧ ImL K H ds vs
  | .lst ds, v => ∃ a vs, v = .ref a ∧ FzL K H a vs ∧ ImL K H ds vs
  | .dct kvs, v => ∃ a o u ks, v = .ref a ∧ H a = some (.frz o u) ∧ Sh K a kvs u ks ∧ ImK K H kvs ks
def ImL (K : Kx) (H : Hp) : List D → List V → Prop
  | [], vs => vs = []
  | d :: ds, vs => ∃ v vr, vs = v :: vr ∧ Im K H d v ∧ ImL K H ds vr
def ImK (K : Kx) (H : Hp) : List (D × D) → List (V × V) → Prop
  | [], ks => ks = []
  | (k, d) :: r, ks => ∃ u v vr, ks = (u, v) :: vr ∧ Im K H k u ∧ Im K H d v ∧ ImK K H r vr
end

/-- what stays for ever stays -/
structure Ext (H H' : Hp) : Prop where
  tups : ∀ b xs, H b = some (.tup xs) → H' b = some (.tup xs)
  frzs : ∀ b o u, H b = some (.frz o u) → H' b = some (.frz o u)
theorem Ext.refl (H : Hp) : Ext H H := ⟨fun _ _ h => h, fun _ _ _ h => h⟩
theorem Ext.trans {H H1 H2 : Hp} (a : Ext H H1) (b : Ext H1 H2) : Ext H H2 := ⟨fun _ _ h => b.tups _ _ (a.tups _ _ h), fun _ _ _ h => b.frzs _ _ _ (a.frzs _ _ _ h)⟩
theorem Ext.new {H : Hp} {p : Addr} {o : HO} (n : H p = none) : Ext H (upd H p o) :=
  ⟨fun b xs h => by rw [upd_ne (ne_of_none h n)]; exact h, fun b o xs h => by rw [upd_ne (ne_of_none h n)]; exact h⟩
theorem FzL.ext {K : Kx} {H H' : Hp} {a : Addr} {xs : List V} (e : Ext H H') (h : FzL K H a xs) : FzL K H' a xs := by
  rcases h with ⟨o, h⟩ | h
  · exact .inl ⟨o, e.frzs _ _ _ h⟩
  · exact .inr h

section
variable {K : Kx} {H H' : Hp}
mutual
theorem Im.ext (e : Ext H H') : ∀ {d : D} {v : V}, Im K H d v → Im K H' d v
  | .non, _, h => by simpa only [Im] using h
  | .bl _, _, h => by simpa only [Im] using h
  | .int _, _, h => by simpa only [Im] using h
  | .str _, _, h => by simpa only [Im] using h
  | .tup ds, v, h => by
    simp only [Im] at h ⊢
    obtain ⟨a, vs, e1, e2, e3⟩ := h
    exact ⟨a, vs, e1, e.tups _ _ e2, ImL.ext e e3⟩
  | .lst ds, v, h => by
    simp only [Im] at h ⊢
    obtain ⟨a, vs, e1, e2, e3⟩ := h
    exact ⟨a, vs, e1, e2.ext e, ImL.ext e e3⟩
  | .dct kvs, v, h => by
    simp only [Im] at h ⊢
    obtain ⟨a, o, u, ks, e1, e2, e3, e4⟩ := h
    exact ⟨a, o, u, ks, e1, e.frzs _ _ _ e2, e3, ImK.ext e e4⟩
theorem ImL.ext (e : Ext H H') : ∀ {ds : List D} {vs : List V}, ImL K H ds vs → ImL K H' ds vs
  | [], _, h => by simpa only [ImL] using h
  | d :: ds, vs, h => by
    simp only [ImL] at h ⊢
    obtain ⟨v, vr, e1, e2, e3⟩ := h
    exact ⟨v, vr, e1, Im.ext e e2, ImL.ext e e3⟩
theorem ImK.ext (e : Ext H H') : ∀ {ds : List (D × D)} {vs : List (V × V)}, ImK K H ds vs → ImK K H' ds vs
  | [], _, h => by simpa only [ImK] using h
  | (k, d) :: ds, vs, h => by
    simp only [ImK] at h ⊢
    obtain ⟨u, v, vr, e1, e2, e3, e4⟩ := h
    exact ⟨u, v, vr, e1, Im.ext e e2, Im.ext e e3, ImK.ext e e4⟩
end
theorem ImL.nil : ImL K H [] [] := by simp only [ImL]
theorem ImL.cons {d : D} {v : V} {ds : List D} {vs : List V} (h : Im K H d v) (hs : ImL K H ds vs) : ImL K H (d :: ds) (v :: vs) := by
  simp only [ImL]; exact ⟨v, vs, rfl, h, hs⟩
theorem ImL.length : ∀ {ds : List D} {vs : List V}, ImL K H ds vs → ds.length = vs.length
  | [], vs, h => by simp only [ImL] at h; subst h; rfl
  | d :: ds, vs, h => by
    simp only [ImL] at h
    obtain ⟨v, vr, rfl, _, h3⟩ := h
    simp [ImL.length h3]
theorem ImL.get : ∀ {ds : List D} {vs : List V} {i : Nat} {d : D}, ImL K H ds vs → ds[i]? = some d → ∃ v, vs[i]? = some v ∧ Im K H d v
  | [], vs, i, d, h, e => by simp at e
  | x :: ds, vs, i, d, h, e => by
    simp only [ImL] at h
    obtain ⟨v, vr, rfl, h2, h3⟩ := h
    cases i with
    | zero => simp at e; subst e; exact ⟨v, rfl, h2⟩
    | succ i => simpa using ImL.get (i := i) h3 (by simpa using e)
theorem ImL.append : ∀ {ds es : List D} {vs ws : List V}, ImL K H ds vs → ImL K H es ws → ImL K H (ds ++ es) (vs ++ ws)
  | [], _, vs, _, h, h2 => by simp only [ImL] at h; subst h; exact h2
  | d :: ds, _, vs, _, h, h2 => by
    simp only [ImL] at h
    obtain ⟨v, vr, rfl, h3, h4⟩ := h
    exact ImL.cons h3 (ImL.append h4 h2)
theorem ImL.set : ∀ {ds : List D} {vs : List V} (i : Nat) {d : D} {v : V}, ImL K H ds vs → Im K H d v → ImL K H (ds.set i d) (vs.set i v)
  | [], vs, i, d, v, h, _ => by simp only [ImL] at h; subst h; simpa using ImL.nil
  | x :: ds, vs, i, d, v, h, hd => by
    simp only [ImL] at h
    obtain ⟨y, vr, rfl, h3, h4⟩ := h
    cases i with
    | zero => exact ImL.cons hd h4
    | succ i => exact ImL.cons h3 (ImL.set i h4 hd)
theorem ImL.take : ∀ {ds : List D} {vs : List V} (n : Nat), ImL K H ds vs → ImL K H (ds.take n) (vs.take n)
  | _, _, 0, _ => by simpa using ImL.nil
  | [], vs, n + 1, h => by simp only [ImL] at h; subst h; simpa using ImL.nil
  | x :: ds, vs, n + 1, h => by
    simp only [ImL] at h
    obtain ⟨y, vr, rfl, h3, h4⟩ := h
    exact ImL.cons h3 (ImL.take n h4)
theorem ImL.drop : ∀ {ds : List D} {vs : List V} (n : Nat), ImL K H ds vs → ImL K H (ds.drop n) (vs.drop n)
  | _, _, 0, h => by simpa using h
  | [], vs, n + 1, h => by simp only [ImL] at h; subst h; simpa using ImL.nil
  | x :: ds, vs, n + 1, h => by
    simp only [ImL] at h
    obtain ⟨y, vr, rfl, h3, h4⟩ := h
    simpa using ImL.drop n h4
end

/-! ### own contents -/
/-- the object at v is m; its own addresses are as -/
def RM (K : Kx) (H : Hp) : M → V → List Addr → Prop
  | .imm d, v, as => as = [] ∧ Im K H d v
  | .lst ds, v, as => ∃ a vs, v = .ref a ∧ as = [a] ∧ H a = some (.lst vs) ∧ ImL K H ds vs
  | .dct kvs, v, as => ∃ a u ks, v = .ref a ∧ as = [a] ∧ H a = some u ∧ Sh K a kvs u ks ∧ ImK K H kvs ks
  | _, _, _ => False
/-- the slots -/
def SlR (K : Kx) (H : Hp) : En → L2.St → List Addr → Prop
  | [], σ, as => σ = [] ∧ as = []
  | none :: e, σ, as => ∃ o r, σ = o :: r ∧ SlR K H e r as
  | some m :: e, σ, as => ∃ v r a1 a2, σ = some v :: r ∧ as = a1 ++ a2 ∧ RM K H m v a1 ∧ SlR K H e r a2
/-- own objects that no slot holds -/
def TmR (K : Kx) (H : Hp) : List (M × V) → List Addr → Prop
  | [], as => as = []
  | p :: r, as => ∃ a1 a2, as = a1 ++ a2 ∧ RM K H p.1 p.2 a1 ∧ TmR K H r a2

/-- H' from H: all but A stays, tables stay tables -/
structure Keep (A : List Addr) (H H' : Hp) : Prop where
  same : ∀ b o, H b = some o → b ∉ A → (∀ ps, o ≠ .tbl ps) → H' b = some o
  tab : ∀ P, GxR.TabG H P → GxR.TabG H' P
  ext : Ext H H'
  dom : ∀ b, H b ≠ none → H' b ≠ none
theorem upd_some {H : Hp} {a b : Addr} {o : HO} (h : H b ≠ none) : upd H a o b ≠ none := by
  unfold upd
  split
  · simp
  · exact h
theorem Keep.refl (A : List Addr) (H : Hp) : Keep A H H := ⟨fun _ _ h _ _ => h, fun _ h => h, Ext.refl H, fun _ h => h⟩
theorem Keep.trans {A : List Addr} {H H1 H2 : Hp} (a : Keep A H H1) (b : Keep A H1 H2) : Keep A H H2 :=
  ⟨fun c o h n t => b.same c o (a.same c o h n t) n t, fun P h => b.tab P (a.tab P h), a.ext.trans b.ext, fun c h => b.dom c (a.dom c h)⟩
theorem TabG.ne {H : Hp} {P p : Addr} (t : GxR.TabG H P) (h : ∀ ps, H p ≠ some (.tbl ps)) : P ≠ p := by
  obtain ⟨ps, e, _⟩ := t
  intro z
  subst z
  exact h ps e
theorem Keep.new {A : List Addr} {H : Hp} {p : Addr} {o : HO} (n : H p = none) : Keep A H (upd H p o) :=
  ⟨fun b u h _ _ => by rw [upd_ne (ne_of_none h n)]; exact h, fun P t => by
    have q : P ≠ p := TabG.ne t fun ps z => by rw [n] at z; cases z
    obtain ⟨ps, e, k⟩ := t
    exact ⟨ps, by rw [upd_ne q]; exact e, k⟩, Ext.new n, fun _ h => upd_some h⟩
/-- an own list changes -/
theorem Keep.chg {A : List Addr} {H : Hp} {a : Addr} {u o : HO} (hA : a ∈ A) (h : H a = some u) (m : Mut (some u)) : Keep A H (upd H a o) := by
  have nt : ∀ ps, H a ≠ some (.tbl ps) := fun ps z => by rw [h] at z; cases z; exact m
  refine ⟨fun b v e n _ => ?_, fun P t => ?_, ⟨fun b xs e => ?_, fun b o' u' e => ?_⟩, fun _ h => upd_some h⟩
  · rw [upd_ne fun z => n (by rw [z]; exact hA)]; exact e
  · have q := TabG.ne t nt
    obtain ⟨ps, e, k⟩ := t
    exact ⟨ps, by rw [upd_ne q]; exact e, k⟩
  · rw [upd_ne fun z => by rw [z, h] at e; cases e; exact m]; exact e
  · rw [upd_ne fun z => by rw [z, h] at e; cases e; exact m]; exact e

/-- where the slots stand: A, H0 what the caller lent and how the heap stood then; fx: the lent slots keep their values; ts: what is held beside the slots -/
structure ST (K : Kx) (T : List Addr) (A : List Addr) (H0 : Hp) (fx : List (Nat × V)) (ts : List (M × V)) (e : En) (σ : L2.St) (H : Hp) : Prop where
  sl : ∃ as bs, SlR K H e σ as ∧ TmR K H ts bs ∧ (as ++ bs).Nodup ∧ ∀ a ∈ as ++ bs, a ∈ A ∨ H0 a = none
  kp : Keep A H0 H
  tb : ∀ P ∈ T, GxR.TabG H P
  fx : ∀ p ∈ fx, σ[p.1]? = some (some p.2)

section
variable {K : Kx} {H H' : Hp}
/-- what the own addresses hold -/
def OwnO : HO → Prop
  | .lst _ => True
  | .dK _ => True
  | .ext _ => True
  | _ => False
theorem Sh.own {a : Addr} {kvs : List (D × D)} {u : HO} {ks : List (V × V)} (h : Sh K a kvs u ks) : OwnO u := by cases h <;> trivial
theorem RM.own : ∀ {m : M} {v : V} {as : List Addr}, RM K H m v as → ∀ a ∈ as, ∃ o, H a = some o ∧ OwnO o
  | .imm d, v, as, h, a, ha => by obtain ⟨rfl, _⟩ := h; simp at ha
  | .lst ds, v, as, h, a, ha => by
    obtain ⟨b, vs, _, rfl, e, _⟩ := h
    simp at ha
    subst ha
    exact ⟨_, e, trivial⟩
  | .dct _, v, as, h, a, ha => by
    obtain ⟨b, u, ks, _, rfl, e, sh, _⟩ := h
    simp at ha
    subst ha
    exact ⟨_, e, sh.own⟩
  | .obj _ _, _, _, h, _, _ => h.elim
theorem SlR.own : ∀ {e : En} {σ : L2.St} {as : List Addr}, SlR K H e σ as → ∀ a ∈ as, ∃ o, H a = some o ∧ OwnO o
  | [], σ, as, h, a, ha => by obtain ⟨_, rfl⟩ := h; simp at ha
  | none :: e, σ, as, h, a, ha => by
    obtain ⟨o, r, rfl, h⟩ := h
    exact SlR.own h a ha
  | some m :: e, σ, as, h, a, ha => by
    obtain ⟨v, r, a1, a2, rfl, rfl, h1, h2⟩ := h
    rcases List.mem_append.mp ha with z | z
    · exact h1.own a z
    · exact SlR.own h2 a z
theorem TmR.own : ∀ {ts : List (M × V)} {as : List Addr}, TmR K H ts as → ∀ a ∈ as, ∃ o, H a = some o ∧ OwnO o
  | [], as, h, a, ha => by simp only [TmR] at h; subst h; simp at ha
  | p :: r, as, h, a, ha => by
    obtain ⟨a1, a2, rfl, h1, h2⟩ := h
    rcases List.mem_append.mp ha with z | z
    · exact h1.own a z
    · exact TmR.own h2 a z
theorem OwnO.mut {o : HO} (h : OwnO o) : Mut (some o) := by cases o <;> first | exact h | trivial
theorem OwnO.nt {o : HO} (h : OwnO o) (ps) : o ≠ .tbl ps := by rintro rfl; exact h
/-- the own objects stand as they stood -/
theorem RM.keep (x : Ext H H') : ∀ {m : M} {v : V} {as : List Addr}, RM K H m v as → (∀ a ∈ as, H' a = H a) → RM K H' m v as
  | .imm d, v, as, h, _ => ⟨h.1, h.2.ext x⟩
  | .lst ds, v, as, h, k => by
    obtain ⟨b, vs, e0, rfl, e, h2⟩ := h
    exact ⟨b, vs, e0, rfl, by rw [k b (by simp)]; exact e, h2.ext x⟩
  | .dct _, v, as, h, k => by
    obtain ⟨b, u, ks, e0, rfl, e, sh, h2⟩ := h
    exact ⟨b, u, ks, e0, rfl, by rw [k b (by simp)]; exact e, sh, h2.ext x⟩
  | .obj _ _, _, _, h, _ => h
theorem SlR.keep (x : Ext H H') : ∀ {e : En} {σ : L2.St} {as : List Addr}, SlR K H e σ as → (∀ a ∈ as, H' a = H a) → SlR K H' e σ as
  | [], σ, as, h, _ => h
  | none :: e, σ, as, h, k => by
    obtain ⟨o, r, rfl, h⟩ := h
    exact ⟨o, r, rfl, SlR.keep x h k⟩
  | some m :: e, σ, as, h, k => by
    obtain ⟨v, r, a1, a2, rfl, rfl, h1, h2⟩ := h
    exact ⟨v, r, a1, a2, rfl, rfl, h1.keep x fun a ha => k a (List.mem_append_left _ ha), SlR.keep x h2 fun a ha => k a (List.mem_append_right _ ha)⟩
theorem TmR.keep (x : Ext H H') : ∀ {ts : List (M × V)} {as : List Addr}, TmR K H ts as → (∀ a ∈ as, H' a = H a) → TmR K H' ts as
  | [], as, h, _ => h
  | p :: r, as, h, k => by
    obtain ⟨a1, a2, rfl, h1, h2⟩ := h
    exact ⟨a1, a2, rfl, h1.keep x fun a ha => k a (List.mem_append_left _ ha), TmR.keep x h2 fun a ha => k a (List.mem_append_right _ ha)⟩
theorem SlR.length : ∀ {e : En} {σ : L2.St} {as : List Addr}, SlR K H e σ as → e.length = σ.length
  | [], σ, as, h => by obtain ⟨rfl, _⟩ := h; rfl
  | none :: e, σ, as, h => by
    obtain ⟨o, r, rfl, h⟩ := h
    simp [SlR.length h]
  | some m :: e, σ, as, h => by
    obtain ⟨v, r, a1, a2, rfl, rfl, h1, h2⟩ := h
    simp [SlR.length h2]
theorem SlR.get : ∀ {e : En} {σ : L2.St} {as : List Addr} {i : Nat} {m : M}, SlR K H e σ as → slot e i = some m →
    ∃ v a1 a2 a3, σ[i]? = some (some v) ∧ as = a1 ++ a2 ++ a3 ∧ RM K H m v a2 ∧
      (∀ (H' : Hp) (o' : Option M) (w : Option V) (b : List Addr), Ext H H' → (∀ a ∈ a1 ++ a3, H' a = H a) → (match o' with | none => b = [] | some m' => ∃ v', w = some v' ∧ RM K H' m' v' b) → SlR K H' (e.set i o') (σ.set i w) (a1 ++ b ++ a3))
  | [], σ, as, i, m, h, e => by simp [slot] at e
  | none :: r, σ, as, i, m, h, e => by
    obtain ⟨o, s, rfl, h⟩ := h
    cases i with
    | zero => simp [slot] at e
    | succ i =>
      obtain ⟨v, a1, a2, a3, h1, h2, h3, h4⟩ := SlR.get (i := i) h (by simpa [slot] using e)
      refine ⟨v, a1, a2, a3, by simpa using h1, h2, h3, fun H' o' w b x k hb => ?_⟩
      exact ⟨o, s.set i w, by simp, h4 H' o' w b x k hb⟩
  | some n :: r, σ, as, i, m, h, e => by
    obtain ⟨v, s, b1, b2, rfl, rfl, g1, g2⟩ := h
    cases i with
    | zero =>
      simp [slot] at e
      subst e
      refine ⟨v, [], b1, b2, rfl, by simp, g1, fun H' o' w b x k hb => ?_⟩
      have g3 := g2.keep x fun a ha => k a (by simpa using ha)
      cases o' with
      | none => simp at hb; subst hb; exact ⟨w, s, rfl, by simpa using g3⟩
      | some m' =>
        obtain ⟨v', rfl, hb⟩ := hb
        exact ⟨v', s, b, b2, by simp, by simp, hb, g3⟩
    | succ i =>
      obtain ⟨u, a1, a2, a3, h1, h2, h3, h4⟩ := SlR.get (i := i) g2 (by simpa [slot] using e)
      refine ⟨u, b1 ++ a1, a2, a3, by simpa using h1, by rw [h2]; simp, h3, fun H' o' w b x k hb => ?_⟩
      refine ⟨v, s.set i w, b1, a1 ++ b ++ a3, by simp, by simp, g1.keep x fun a ha => k a (by simp [ha]), h4 H' o' w b x (fun a ha => k a ?_) hb⟩
      rcases List.mem_append.mp ha with z | z
      · simp [z]
      · simp [z]
end
end VL
end

section
set_option Elab.async false
set_option linter.all false
set_option maxRecDepth 100000
/-! VLb: steps of the state. -/
namespace VL
open PySem PySem.Spec L2 VD

structure Gx where
  K : Kx
  T : List Addr
  Pr : List Nat
structure Bx where
  A : List Addr
  H0 : Hp
  fx : List (Nat × V)
  ts : List (M × V)
structure SS (G : Gx) (B : Bx) (e : En) (σ : L2.St) (H : Hp) : Prop where
  sl : ∃ as bs, SlR G.K H e σ as ∧ TmR G.K H B.ts bs ∧ (as ++ bs).Nodup ∧ ∀ a ∈ as ++ bs, a ∈ B.A ∨ B.H0 a = none
  kp : Keep B.A B.H0 H
  tb : ∀ P ∈ G.T, GxR.TabG H P
  fx : ∀ p ∈ B.fx, σ[p.1]? = some (some p.2) ∧ p.1 ∈ G.Pr
abbrev Bx.put (B : Bx) (m : M) (v : V) : Bx := { B with ts := (m, v) :: B.ts }

/-- new objects alone -/
def Grow (H H' : Hp) : Prop := ∀ b o, H b = some o → H' b = some o
theorem Grow.refl (H : Hp) : Grow H H := fun _ _ h => h
theorem Grow.trans {H H1 H2 : Hp} (a : Grow H H1) (b : Grow H1 H2) : Grow H H2 := fun _ _ h => b _ _ (a _ _ h)
theorem Grow.new {H : Hp} {p : Addr} {o : HO} (n : H p = none) : Grow H (upd H p o) := fun b u h => by rw [upd_ne (ne_of_none h n)]; exact h
theorem Grow.ext {H H' : Hp} (g : Grow H H') : Ext H H' := ⟨fun _ _ h => g _ _ h, fun _ _ _ h => g _ _ h⟩
theorem Grow.keep {A : List Addr} {H H' : Hp} (g : Grow H H') : Keep A H H' := ⟨fun _ _ h _ _ => g _ _ h, fun P ⟨ps, h, k⟩ => ⟨ps, g _ _ h, k⟩, g.ext, fun b h z => by
  cases q : H b with
  | none => exact h q
  | some o => rw [g _ _ q] at z; cases z⟩

section
variable {G : Gx} {B : Bx} {e : En} {σ : L2.St} {H H' : Hp}
theorem SS.grow (s : SS G B e σ H) (g : Grow H H') : SS G B e σ H' := by
  obtain ⟨as, bs, h1, h2, h3, h4⟩ := s.sl
  refine ⟨⟨as, bs, h1.keep g.ext fun a ha => ?_, h2.keep g.ext fun a ha => ?_, h3, h4⟩, s.kp.trans g.keep, fun P hP => (Grow.keep (A := []) g).tab P (s.tb P hP), s.fx⟩
  · obtain ⟨o, h, _⟩ := h1.own a ha
    rw [h]; exact g _ _ h
  · obtain ⟨o, h, _⟩ := h2.own a ha
    rw [h]; exact g _ _ h
theorem SS.push {d : D} {v : V} (s : SS G B e σ H) (h : Im G.K H d v) : SS G (B.put (.imm d) v) e σ H := by
  obtain ⟨as, bs, h1, h2, h3, h4⟩ := s.sl
  exact ⟨⟨as, bs, h1, ⟨[], bs, rfl, ⟨rfl, h⟩, h2⟩, h3, h4⟩, s.kp, s.tb, s.fx⟩
theorem SS.pop {m : M} {v : V} (s : SS G (B.put m v) e σ H) : SS G B e σ H := by
  obtain ⟨as, bs, h1, ⟨b1, b2, rfl, h5, h2⟩, h3, h4⟩ := s.sl
  refine ⟨⟨as, b2, h1, h2, ?_, fun a ha => h4 a ?_⟩, s.kp, s.tb, s.fx⟩
  · exact h3.sublist (List.Sublist.append_left (List.sublist_append_right b1 b2) as)
  · rcases List.mem_append.mp ha with z | z
    · exact List.mem_append_left _ z
    · exact List.mem_append_right _ (List.mem_append_right _ z)
theorem SS.imm {d : D} {v : V} (s : SS G (B.put (.imm d) v) e σ H) : Im G.K H d v := by
  obtain ⟨as, bs, h1, ⟨b1, b2, rfl, h5, h2⟩, h3, h4⟩ := s.sl
  exact h5.2
theorem SlR.at {K : Kx} : ∀ {e : En} {σ : L2.St} {as : List Addr} {i : Nat}, SlR K H e σ as → i < e.length →
    ∃ a1 a2 a3, as = a1 ++ a2 ++ a3 ∧ (∀ m, slot e i = some m → ∃ v, σ[i]? = some (some v) ∧ RM K H m v a2) ∧ (slot e i = none → a2 = []) ∧
      ∀ (o' : Option M) (w : Option V) (b : List Addr), (match o' with | none => b = [] | some m' => ∃ v', w = some v' ∧ RM K H m' v' b) → SlR K H (e.set i o') (σ.set i w) (a1 ++ b ++ a3)
  | [], σ, as, i, h, hi => by simp at hi
  | none :: r, σ, as, i, h, hi => by
    obtain ⟨o, s, rfl, h⟩ := h
    cases i with
    | zero =>
      refine ⟨[], [], as, by simp, fun m q => by simp [slot] at q, fun _ => rfl, fun o' w b hb => ?_⟩
      cases o' with
      | none => simp at hb; subst hb; exact ⟨w, s, rfl, by simpa using h⟩
      | some m' =>
        obtain ⟨v', rfl, hb⟩ := hb
        exact ⟨v', s, b, as, by simp, by simp, hb, h⟩
    | succ i =>
      obtain ⟨a1, a2, a3, h1, h2, h3, h4⟩ := SlR.at (i := i) h (by simpa using hi)
      exact ⟨a1, a2, a3, h1, fun m q => by simpa using h2 m (by simpa [slot] using q), fun q => h3 (by simpa [slot] using q), fun o' w b hb => ⟨o, s.set i w, by simp, h4 o' w b hb⟩⟩
  | some n :: r, σ, as, i, h, hi => by
    obtain ⟨v, s, b1, b2, rfl, rfl, g1, g2⟩ := h
    cases i with
    | zero =>
      refine ⟨[], b1, b2, by simp, fun m q => ?_, fun q => by simp [slot] at q, fun o' w b hb => ?_⟩
      · simp [slot] at q
        subst q
        exact ⟨v, rfl, g1⟩
      · cases o' with
        | none => simp at hb; subst hb; exact ⟨w, s, rfl, by simpa using g2⟩
        | some m' =>
          obtain ⟨v', rfl, hb⟩ := hb
          exact ⟨v', s, b, b2, by simp, by simp, hb, g2⟩
    | succ i =>
      obtain ⟨a1, a2, a3, h1, h2, h3, h4⟩ := SlR.at (i := i) g2 (by simpa using hi)
      exact ⟨b1 ++ a1, a2, a3, by rw [h1]; simp, fun m q => by simpa using h2 m (by simpa [slot] using q), fun q => h3 (by simpa [slot] using q), fun o' w b hb => ⟨v, s.set i w, b1, a1 ++ b ++ a3, by simp, by simp, g1, h4 o' w b hb⟩⟩
theorem slot_lt {i : Nat} {m : M} (h : slot e i = some m) : i < e.length := by
  unfold slot at h
  cases q : e[i]? with
  | none => rw [q] at h; simp at h
  | some o => exact (List.getElem?_eq_some_iff.mp q).1
theorem perm3 (a1 a2 a3 bs : List Addr) : (a1 ++ a2 ++ a3 ++ bs).Perm (a1 ++ [] ++ a3 ++ (a2 ++ bs)) := by
  simp only [List.append_nil, List.append_assoc]
  refine List.Perm.append_left a1 ?_
  rw [← List.append_assoc, ← List.append_assoc]
  exact List.Perm.append_right bs List.perm_append_comm
theorem SS.take {i : Nat} {m : M} (s : SS G B e σ H) (h : slot e i = some m) : ∃ v, σ[i]? = some (some v) ∧ SS G (B.put m v) (e.set i none) σ H := by
  obtain ⟨as, bs, h1, h2, h3, h4⟩ := s.sl
  obtain ⟨a1, a2, a3, rfl, g1, _, g3⟩ := h1.at (slot_lt h)
  obtain ⟨v, hv, rm⟩ := g1 m h
  have q := g3 none (some v) [] rfl
  have hs : σ.set i (some v) = σ := by
    obtain ⟨hi, ei⟩ := List.getElem?_eq_some_iff.mp hv
    rw [← ei]
    exact List.set_getElem_self hi
  rw [hs] at q
  have pm := perm3 a1 a2 a3 bs
  exact ⟨v, hv, ⟨_, _, q, ⟨a2, bs, rfl, rm, h2⟩, (pm.nodup_iff).mp h3, fun a ha => h4 a (pm.mem_iff.mpr ha)⟩, s.kp, s.tb, s.fx⟩
/-- what is held is stored at the slot i -/
theorem SS.store {i : Nat} {m : M} {v : V} (s : SS G (B.put m v) e σ H) (hi : i < e.length) (np : i ∉ G.Pr) : SS G B (e.set i (some m)) (σ.set i (some v)) H := by
  obtain ⟨as, bs, h1, ⟨b1, b2, rfl, h5, h2⟩, h3, h4⟩ := s.sl
  obtain ⟨a1, a2, a3, rfl, g1, _, g3⟩ := h1.at hi
  have q := g3 (some m) (some v) b1 ⟨v, rfl, h5⟩
  have pm := perm3 a1 b1 a3 b2
  have sb : (a1 ++ [] ++ a3 ++ (b1 ++ b2)).Sublist (a1 ++ a2 ++ a3 ++ (b1 ++ b2)) :=
    List.Sublist.append_right (List.Sublist.append_right (List.Sublist.append_left (List.nil_sublist _) _) _) _
  refine ⟨⟨_, _, q, h2, pm.nodup_iff.mpr (h3.sublist sb), fun a ha => h4 a (sb.subset (pm.mem_iff.mp ha))⟩, s.kp, s.tb, fun p hp => ⟨?_, (s.fx p hp).2⟩⟩
  rw [List.getElem?_set_ne fun z => np (by rw [z]; exact (s.fx p hp).2)]
  exact (s.fx p hp).1
/-- it comes back to the slot whose value it is -/
theorem SS.give {i : Nat} {m : M} {v : V} (s : SS G (B.put m v) e σ H) (hi : i < e.length) (hv : σ[i]? = some (some v)) : SS G B (e.set i (some m)) σ H := by
  obtain ⟨as, bs, h1, ⟨b1, b2, rfl, h5, h2⟩, h3, h4⟩ := s.sl
  obtain ⟨a1, a2, a3, rfl, g1, _, g3⟩ := h1.at hi
  have q := g3 (some m) (some v) b1 ⟨v, rfl, h5⟩
  have hs : σ.set i (some v) = σ := by
    obtain ⟨hi, ei⟩ := List.getElem?_eq_some_iff.mp hv
    rw [← ei]
    exact List.set_getElem_self hi
  rw [hs] at q
  have pm := perm3 a1 b1 a3 b2
  have sb : (a1 ++ [] ++ a3 ++ (b1 ++ b2)).Sublist (a1 ++ a2 ++ a3 ++ (b1 ++ b2)) :=
    List.Sublist.append_right (List.Sublist.append_right (List.Sublist.append_left (List.nil_sublist _) _) _) _
  exact ⟨⟨_, _, q, h2, pm.nodup_iff.mpr (h3.sublist sb), fun a ha => h4 a (sb.subset (pm.mem_iff.mp ha))⟩, s.kp, s.tb, s.fx⟩
/-- a slot forgotten -/
theorem SS.forget {i : Nat} (s : SS G B e σ H) (hi : i < e.length) (w : Option V) (np : i ∉ G.Pr) : SS G B (e.set i none) (σ.set i w) H := by
  obtain ⟨as, bs, h1, h2, h3, h4⟩ := s.sl
  obtain ⟨a1, a2, a3, rfl, g1, _, g3⟩ := h1.at hi
  have q := g3 none w [] rfl
  have sb : (a1 ++ [] ++ a3 ++ bs).Sublist (a1 ++ a2 ++ a3 ++ bs) :=
    List.Sublist.append_right (List.Sublist.append_right (List.Sublist.append_left (List.nil_sublist _) _) _) _
  refine ⟨⟨_, _, q, h2, h3.sublist sb, fun a ha => h4 a (sb.subset ha)⟩, s.kp, s.tb, fun p hp => ⟨?_, (s.fx p hp).2⟩⟩
  rw [List.getElem?_set_ne fun z => np (by rw [z]; exact (s.fx p hp).2)]
  exact (s.fx p hp).1
theorem SS.var {i : Nat} {d : D} (s : SS G B e σ H) (h : slot e i = some (.imm d)) : ∃ v, σ[i]? = some (some v) ∧ Im G.K H d v := by
  obtain ⟨v, h1, h2⟩ := s.take h
  exact ⟨v, h1, h2.imm⟩
/-- a held list -/
theorem SS.lstAt {ds : List D} {v : V} (s : SS G (B.put (.lst ds) v) e σ H) : ∃ a vs, v = .ref a ∧ H a = some (.lst vs) ∧ ImL G.K H ds vs ∧ (a ∈ B.A ∨ B.H0 a = none) := by
  obtain ⟨as, bs, h1, ⟨b1, b2, rfl, ⟨a, vs, h5, rfl, h6, h7⟩, h2⟩, h3, h4⟩ := s.sl
  exact ⟨a, vs, h5, h6, h7, h4 a (by simp)⟩
theorem Keep.fresh {A : List Addr} {H0 H : Hp} {a : Addr} {u o : HO} (k : Keep A H0 H) (hA : a ∈ A ∨ H0 a = none) (h : H a = some u) (m : Mut (some u)) : Keep A H0 (upd H a o) := by
  rcases hA with hA | hA
  · exact k.trans (Keep.chg hA h m)
  · have nt : ∀ ps, H a ≠ some (.tbl ps) := fun ps z => by rw [h] at z; cases z; exact m
    refine ⟨fun b v e n t => ?_, fun P t => ?_, ⟨fun b xs e => ?_, fun b o' u' e => ?_⟩, fun b z => upd_some (k.dom b z)⟩
    · rw [upd_ne (ne_of_none e hA)]; exact k.same b v e n t
    · have t' := k.tab P t
      have q := TabG.ne t' nt
      obtain ⟨ps, e, kk⟩ := t'
      exact ⟨ps, by rw [upd_ne q]; exact e, kk⟩
    · rw [upd_ne (ne_of_none e hA)]; exact k.ext.tups _ _ e
    · rw [upd_ne (ne_of_none e hA)]; exact k.ext.frzs _ _ _ e
theorem Ext.chg {H : Hp} {a : Addr} {u o : HO} (h : H a = some u) (m : Mut (some u)) : Ext H (upd H a o) := (Keep.chg (A := [a]) (by simp) h m).ext
/-- a held object is changed (or changed no more) -/
theorem SS.changeM {m : M} {v : V} {a : Addr} {u o : HO} (s : SS G (B.put m v) e σ H) (hm0 : ∀ as, RM G.K H m v as → as = [a]) (h : H a = some u) (mu : Mut (some u)) (m' : M)
    (hm : RM G.K (upd H a o) m' v [a] ∨ RM G.K (upd H a o) m' v []) : SS G (B.put m' v) e σ (upd H a o) ∧ Ext H (upd H a o) := by
  obtain ⟨as, bs, h1, ⟨b1, b2, rfl, h5, h2⟩, h3, h4⟩ := s.sl
  have h5 : RM G.K H m v b1 := h5
  obtain rfl := hm0 b1 h5
  have x : Ext H (upd H a o) := Ext.chg h mu
  obtain ⟨n1, n2, n3⟩ := List.nodup_append.mp h3
  have na : a ∉ as := fun z => n3 a z a (by simp) rfl
  have nb : a ∉ b2 := fun z => by
    simp only [List.singleton_append, List.nodup_cons] at n2
    exact n2.1 z
  have g1 := h1.keep x fun b hb => upd_ne fun z => na (by rw [← z]; exact hb)
  have g2 := h2.keep x fun b hb => upd_ne fun z => nb (by rw [← z]; exact hb)
  have kp := s.kp.fresh (o := o) (h4 a (by simp)) h mu
  have tb : ∀ P ∈ G.T, GxR.TabG (upd H a o) P := fun P hP => (Keep.chg (A := [a]) (by simp) h mu).tab P (s.tb P hP)
  refine ⟨?_, x⟩
  rcases hm with hm | hm
  · exact ⟨⟨as, [a] ++ b2, g1, ⟨[a], b2, rfl, hm, g2⟩, h3, h4⟩, kp, tb, s.fx⟩
  · refine ⟨⟨as, [] ++ b2, g1, ⟨[], b2, rfl, hm, g2⟩, h3.sublist (List.Sublist.append_left (by simpa using List.sublist_cons_self a b2) as), fun b hb => h4 b ?_⟩, kp, tb, s.fx⟩
    rcases List.mem_append.mp hb with z | z
    · exact List.mem_append_left _ z
    · exact List.mem_append_right _ (List.mem_append_right _ (by simpa using z))
/-- a held list is changed (or changed no more) -/
theorem SS.change {ds : List D} {v : V} {a : Addr} {vs : List V} {o : HO} (s : SS G (B.put (.lst ds) v) e σ H) (ev : v = .ref a) (h : H a = some (.lst vs)) (m' : M)
    (hm : RM G.K (upd H a o) m' v [a] ∨ RM G.K (upd H a o) m' v []) : SS G (B.put m' v) e σ (upd H a o) ∧ Ext H (upd H a o) :=
  s.changeM (fun as ⟨a', _, e1, e2, _⟩ => by rw [ev] at e1; cases e1; exact e2) h trivial m' hm
/-- a held dict -/
theorem SS.dctAt {kvs : List (D × D)} {v : V} (s : SS G (B.put (.dct kvs) v) e σ H) : ∃ a u ks, v = .ref a ∧ H a = some u ∧ Sh G.K a kvs u ks ∧ ImK G.K H kvs ks := by
  obtain ⟨as, bs, h1, ⟨b1, b2, rfl, ⟨a, u, ks, h5, rfl, h6, h7, h8⟩, h2⟩, h3, h4⟩ := s.sl
  exact ⟨a, u, ks, h5, h6, h7, h8⟩
theorem SS.changeD {kvs : List (D × D)} {v : V} {a : Addr} {u o : HO} (s : SS G (B.put (.dct kvs) v) e σ H) (ev : v = .ref a) (h : H a = some u) (mu : Mut (some u)) (m' : M)
    (hm : RM G.K (upd H a o) m' v [a] ∨ RM G.K (upd H a o) m' v []) : SS G (B.put m' v) e σ (upd H a o) ∧ Ext H (upd H a o) :=
  s.changeM (fun as ⟨a', _, _, e1, e2, _⟩ => by rw [ev] at e1; cases e1; exact e2) h mu m' hm
/-- a new object -/
theorem SS.newM {m : M} {o : HO} {p : Addr} (s : SS G B e σ H) (n : H p = none) (hm : RM G.K (upd H p o) m (.ref p) [p]) : SS G (B.put m (.ref p)) e σ (upd H p o) := by
  have g : Grow H (upd H p o) := Grow.new n
  obtain ⟨as, bs, h1, h2, h3, h4⟩ := s.sl
  have n0 : B.H0 p = none := by
    cases q : B.H0 p with
    | none => rfl
    | some u => exact absurd n (s.kp.dom p (by rw [q]; simp))
  have k1 : ∀ a ∈ as, upd H p o a = H a := fun a ha => by
    obtain ⟨o, h, _⟩ := h1.own a ha
    exact upd_ne (ne_of_none h n)
  have k2 : ∀ a ∈ bs, upd H p o a = H a := fun a ha => by
    obtain ⟨o, h, _⟩ := h2.own a ha
    exact upd_ne (ne_of_none h n)
  have ne : ∀ a ∈ as ++ bs, a ≠ p := fun a ha => by
    rcases List.mem_append.mp ha with z | z
    · obtain ⟨o, h, _⟩ := h1.own a z
      exact ne_of_none h n
    · obtain ⟨o, h, _⟩ := h2.own a z
      exact ne_of_none h n
  have pm : (as ++ ([p] ++ bs)).Perm (p :: (as ++ bs)) := by
    simpa using List.perm_middle (l₁ := as) (a := p) (l₂ := bs)
  refine ⟨⟨as, [p] ++ bs, h1.keep g.ext k1, ⟨[p], bs, rfl, hm, h2.keep g.ext k2⟩, pm.nodup_iff.mpr (List.nodup_cons.mpr ⟨fun z => ne p z rfl, h3⟩), fun a ha => ?_⟩, s.kp.trans g.keep, fun P hP => (Grow.keep (A := []) g).tab P (s.tb P hP), s.fx⟩
  rcases List.mem_cons.mp (pm.mem_iff.mp ha) with z | z
  · exact .inr (by rw [z]; exact n0)
  · exact h4 a z
/-- a new list -/
theorem SS.new {ds : List D} {vs : List V} {p : Addr} (s : SS G B e σ H) (n : H p = none) (h : ImL G.K H ds vs) : SS G (B.put (.lst ds) (.ref p)) e σ (upd H p (.lst vs)) :=
  s.newM n ⟨p, vs, rfl, rfl, upd_same, h.ext (Ext.new n)⟩
end
end VL
end

section
set_option Elab.async false
set_option linter.all false
set_option maxRecDepth 100000
/-! VLc: canonical readings and the expressions. -/
namespace VL
open PySem PySem.Spec L2 VD

theorem bnd {α β : Type} {o : Option α} {f : α → Option β} {b : β} (h : o.bind f = some b) : ∃ a, o = some a ∧ f a = some b := by
  cases o with
  | none => cases h
  | some a => exact ⟨a, rfl, h⟩
theorem mpd {α β : Type} {o : Option α} {f : α → β} {b : β} (h : o.map f = some b) : ∃ a, o = some a ∧ f a = b := by
  cases o with
  | none => cases h
  | some a => exact ⟨a, rfl, by simpa using h⟩
theorem iff_some {α : Type} {c : Prop} [Decidable c] {a b : α} (h : (if c then some a else none) = some b) : c ∧ a = b := by
  split at h
  · exact ⟨‹_›, by simpa using h⟩
  · cases h
theorem big_eq : big = sizeLine := by rw [sizeLine_eq]; rfl
theorem st_len (s : List Nat) : (st s).length = s.length := by simp [st, Str.length]
theorem st_toList (s : List Nat) : (st s).cps.toList = s := by simp [st]
theorem st_app (a b : List Nat) : st a ++ st b = st (a ++ b) := by
  show (⟨a.toArray ++ b.toArray⟩ : Str) = ⟨(a ++ b).toArray⟩
  simp
theorem st_inj {a b : List Nat} (h : st a = st b) : a = b := by
  have := congrArg (fun x : Str => x.cps.toList) h
  simpa [st] using this

/-! ### readings -/
def tV (G : Gx) (f : FE) : TE := fun σ H Q => ∃ B e d e', SS G B e σ H ∧ f e = some (d, e') ∧ ∀ v H', SS G B e' σ H' → Im G.K H' d v → Ext H H' → Q v H'
def tM (G : Gx) (f : FM) : TE := fun σ H Q => ∃ B e m e', SS G B e σ H ∧ f e = some (m, e') ∧ ∀ v H', SS G (B.put m v) e' σ H' → Ext H H' → Q v H'
def tT (G : Gx) (f : FT) : TT := fun σ H Q => ∃ B e b e', SS G B e σ H ∧ f e = some (b, e') ∧ ∀ H', SS G B e' σ H' → Ext H H' → Q b H'
def tO (G : Gx) (f : FO) : TO := fun σ H Q => ∃ B e o e', SS G B e σ H ∧ f e = some (o, e') ∧ ∀ H', SS G B e' σ H' → Ext H H' → Q o H'
def tL (G : Gx) (f : FA) : TA := fun σ H Q => ∃ B e ds e', SS G B e σ H ∧ f e = some (ds, e') ∧ ∀ vs H', SS G B e' σ H' → ImL G.K H' ds vs → Ext H H' → Q vs H'
/-- slots of arguments hold the arguments -/
def ArgV (σ : L2.St) : List VD.Arg → List V → Prop
  | [], vs => vs = []
  | .e _ :: r, vs => ∃ v vr, vs = v :: vr ∧ ArgV σ r vr
  | .s i :: r, vs => ∃ v vr, vs = v :: vr ∧ σ[i]? = some (some v) ∧ ArgV σ r vr
def Bx.puts (B : Bx) : List M → List V → Bx
  | m :: ms, v :: vs => (B.puts ms vs).put m v
  | _, _ => B
def tA (G : Gx) (as : List VD.Arg) : TA := fun σ H Q => ∃ B e ms e', SS G B e σ H ∧ evArgs as e = some (ms, e') ∧ ∀ vs H', SS G (B.puts ms vs) e' σ H' → ms.length = vs.length → ArgV σ as vs → Ext H H' → Q vs H'
def Post (G : Gx) (B : Bx) (e' : En) (H : Hp) (D : Ends) : Fl → Prop
  | .nx => ∀ σ' H', SS G B e' σ' H' → Ext H H' → D.nx σ' H'
  | .bk => ∀ σ' H', SS G B e' σ' H' → Ext H H' → D.bk σ' H'
  | .ct => ∀ σ' H', SS G B e' σ' H' → Ext H H' → D.ct σ' H'
  | .rt m => ∀ σ' v H', SS G (B.put m v) e' σ' H' → Ext H H' → D.rt v H'
def tS (G : Gx) (f : FS) : TS := fun D σ H => ∃ B e fl e', SS G B e σ H ∧ f e = some (fl, e') ∧ Post G B e' H D fl

section
variable {X : Cx} {e : Expr} {t t' : TE} {tt tt' : TT} {ta ta' : TA} {ts ts' : TS} {s : Stmt} {ss : List Stmt}
theorem PE.le (h : PE X e t) (k : ∀ σ H Q, t' σ H Q → t σ H Q) : PE X e t' := ⟨fun pins s σ H Q I hq => h.run pins s σ H Q I (k _ _ _ hq)⟩
theorem PT.le (h : PT X e tt) (k : ∀ σ H Q, tt' σ H Q → tt σ H Q) : PT X e tt' := ⟨fun pins s σ H Q I hq => h.run pins s σ H Q I (k _ _ _ hq)⟩
theorem PW.le (h : PW X e tt) (k : ∀ σ H Q, tt' σ H Q → tt σ H Q) : PW X e tt' := ⟨fun w pins s σ H Q I hq => h.run w pins s σ H Q I (k _ _ _ hq)⟩
theorem PA.le {es : List Expr} (h : PA X es ta) (k : ∀ σ H Q, ta' σ H Q → ta σ H Q) : PA X es ta' := ⟨fun p pins s σ H Q I hq => h.run p pins s σ H Q I (k _ _ _ hq)⟩
theorem PO.le {o : Option Expr} {to to' : TO} (h : PO X o to) (k : ∀ σ H Q, to' σ H Q → to σ H Q) : PO X o to' := by
  obtain ⟨h⟩ := h
  constructor
  intros
  apply h
  · assumption
  · exact k _ _ _ ‹_›
theorem PS.le (h : PS X s ts) (k : ∀ D σ H, ts' D σ H → ts D σ H) : PS X s ts' := ⟨fun pins s σ H D I hq => h.run pins s σ H D I (k _ _ _ hq)⟩
theorem PSs.le (h : PSs X ss ts) (k : ∀ D σ H, ts' D σ H → ts D σ H) : PSs X ss ts' := ⟨fun pins s σ H D I hq => h.run pins s σ H D I (k _ _ _ hq)⟩
end

/-! ### names, constants -/
section
variable {X : Cx} {G : Gx} {pos : Pos}
theorem v_var (i : Nat) {x : Str} (hN : X.N[i]? = some x := by rfl) (hv : Vis X.env.scope x := by first | exact Or.inl rfl | exact Or.inr (Or.inl rfl) | exact Or.inr (Or.inr rfl)) (hd : (x == ("__debug__" : Str)) = false := by decide)
    (hcd : (x == ("__classdict__" : Str)) = false := by decide) : PE X (.Name x pos) (tV G (varF i)) := by
  refine PE.le (pe_var (i := i) hN hv hd hcd) fun σ H Q ⟨B, e, d, e', s, h, k⟩ => ?_
  unfold varF at h
  split at h
  · rename_i d0 hs
    cases h
    obtain ⟨v, h1, h2⟩ := s.var hs
    exact ⟨v, h1, k v H s h2 (Ext.refl H)⟩
  · cases h
theorem v_int {i : Int} {j} : PE X (.Constant (.int i) j pos) (tV G (cF (.int i))) :=
  PE.le pe_int fun σ H Q ⟨B, e, d, e', s, h, k⟩ => by cases h; exact k _ _ s (by simp only [Im]) (Ext.refl H)
theorem v_bl {b : Bool} {j} : PE X (.Constant (.bool b) j pos) (tV G (cF (.bl b))) :=
  PE.le pe_bl fun σ H Q ⟨B, e, d, e', s, h, k⟩ => by cases h; exact k _ _ s (by simp only [Im]) (Ext.refl H)
theorem v_non {j} : PE X (.Constant .none j pos) (tV G (cF .non)) :=
  PE.le pe_non fun σ H Q ⟨B, e, d, e', s, h, k⟩ => by cases h; exact k _ _ s (by simp only [Im]) (Ext.refl H)
theorem v_str {x : Str} {z : List Nat} {j} (hz : x = st z := by decide +kernel) : PE X (.Constant (.str x) j pos) (tV G (cF (.str z))) :=
  PE.le pe_str fun σ H Q ⟨B, e, d, e', s, h, k⟩ => by cases h; subst hz; exact k _ _ s (by simp only [Im]) (Ext.refl H)
/-- a name of the module that holds a text -/
theorem v_gstr {x : Str} {y : Str} {tk : Tok} {z : List Nat} (hg : Gl X x) (hm : X.mg x = some (.str y tk)) (hz : y = st z := by decide +kernel) (hd : (x == ("__debug__" : Str)) = false := by decide) : PE X (.Name x pos) (tV G (cF (.str z))) :=
  PE.le (pe_glob (v := .str y) hg hm ⟨_, rfl⟩ hd) fun σ H Q ⟨B, e, d, e', s, h, k⟩ => by cases h; subst hz; exact k _ _ s (by simp only [Im]) (Ext.refl H)
end

/-! ### operators -/
section
variable {X : Cx} {G : Gx} {pos : Pos} {a b c : Expr} {fa fb fc : FE}
theorem v_op2 {ex : Expr} {op : D → D → Option D} {r : R2} (h : PE X ex (tOp r (tV G fa) (tV G fb)))
    (hop : ∀ (a b d : D) (v w : V) (H : Hp) (Q : VK), op a b = some d → Im G.K H a v → Im G.K H b w → (∀ u H', Grow H H' → Im G.K H' d u → Q u H') → r v w H Q) : PE X ex (tV G (op2 op fa fb)) := by
  refine PE.le h fun σ H Q ⟨B, e, d, e', s, h, k⟩ => ?_
  obtain ⟨⟨a1, e1⟩, h1, h⟩ := bnd h
  obtain ⟨⟨b1, e2⟩, h2, h⟩ := bnd h
  obtain ⟨d1, h3, h⟩ := mpd h
  cases h
  exact ⟨B, e, a1, e1, s, h1, fun v H1 s1 i1 x1 => ⟨B, e1, b1, e2, s1, h2, fun w H2 s2 i2 x2 => hop a1 b1 _ v w H2 Q h3 (i1.ext x2) i2 fun u H3 g i3 => k u H3 (s2.grow g) i3 ((x1.trans x2).trans g.ext)⟩⟩
theorem v_op1 {ex : Expr} {op : D → Option D} {r : V → Hp → VK → Prop} (h : PE X ex (fun σ H Q => tV G fa σ H fun v H1 => r v H1 Q))
    (hop : ∀ (a d : D) (v : V) (H : Hp) (Q : VK), op a = some d → Im G.K H a v → (∀ u H', Grow H H' → Im G.K H' d u → Q u H') → r v H Q) : PE X ex (tV G (op1 op fa)) := by
  refine PE.le h fun σ H Q ⟨B, e, d, e', s, h, k⟩ => ?_
  obtain ⟨⟨a1, e1⟩, h1, h⟩ := bnd h
  obtain ⟨d1, h3, h⟩ := mpd h
  cases h
  exact ⟨B, e, a1, e1, s, h1, fun v H1 s1 i1 x1 => hop a1 _ v H1 Q h3 i1 fun u H3 g i3 => k u H3 (s1.grow g) i3 (x1.trans g.ext)⟩
theorem OpR.or {f : Value → Value → Sem Value} {r r' : R2} (h : OpR X f r) (h' : OpR X f r') : OpR X f (fun x y H Q => r x y H Q ∨ r' x y H Q) :=
  fun pins s σ H x y v u Q I rx ry q => q.elim (fun q => h pins s σ H x y v u Q I rx ry q) fun q => h' pins s σ H x y v u Q I rx ry q
theorem Im.int_ {K : Kx} {H : Hp} {i : Int} {v : V} (h : Im K H (.int i) v) : v = .int i := by simpa only [Im] using h
theorem Im.str_ {K : Kx} {H : Hp} {z : List Nat} {v : V} (h : Im K H (.str z) v) : v = .str (st z) := by simpa only [Im] using h
theorem Im.bl_ {K : Kx} {H : Hp} {b : Bool} {v : V} (h : Im K H (.bl b) v) : v = .bl b := by simpa only [Im] using h
theorem Im.non_ {K : Kx} {H : Hp} {v : V} (h : Im K H .non v) : v = .non := by simpa only [Im] using h
theorem Im.tup_ {K : Kx} {H : Hp} {ds : List D} {v : V} (h : Im K H (.tup ds) v) : ∃ a vs, v = .ref a ∧ H a = some (.tup vs) ∧ ImL K H ds vs := by simpa only [Im] using h
theorem Im.lst_ {K : Kx} {H : Hp} {ds : List D} {v : V} (h : Im K H (.lst ds) v) : ∃ a vs, v = .ref a ∧ FzL K H a vs ∧ ImL K H ds vs := by simpa only [Im] using h
theorem Im.int {K : Kx} {H : Hp} (i : Int) : Im K H (.int i) (.int i) := by simp only [Im]
theorem Im.str {K : Kx} {H : Hp} (z : List Nat) : Im K H (.str z) (.str (st z)) := by simp only [Im]
theorem Im.bl {K : Kx} {H : Hp} (b : Bool) : Im K H (.bl b) (.bl b) := by simp only [Im]
theorem Im.non {K : Kx} {H : Hp} : Im K H .non .non := by simp only [Im]
theorem Im.tup {K : Kx} {H : Hp} {ds : List D} {a : Addr} {vs : List V} (h : H a = some (.tup vs)) (h2 : ImL K H ds vs) : Im K H (.tup ds) (.ref a) := by
  simp only [Im]; exact ⟨a, vs, rfl, h, h2⟩
theorem Im.newTup {K : Kx} {H : Hp} {ds : List D} {p : Addr} {vs : List V} (n : H p = none) (h2 : ImL K H ds vs) : Im K (upd H p (.tup vs)) (.tup ds) (.ref p) :=
  Im.tup upd_same (h2.ext (Ext.new n))
theorem ImL.eq_nil {K : Kx} {H : Hp} {ds : List D} {vs : List V} (h : ImL K H ds vs) : ds = [] ↔ vs = [] := by
  have := h.length
  constructor
  · rintro rfl
    exact List.length_eq_zero_iff.mp this.symm
  · rintro rfl
    exact List.length_eq_zero_iff.mp this

theorem v_add (ha : PE X a (tV G fa)) (hb : PE X b (tV G fb)) (hK : kxOf X = G.K) : PE X (.BinOp a .Add b pos) (tV G (op2 addD fa fb)) := by
  refine v_op2 (pe_op (OpR.or op_add (OpR.or op_add_str op_catA)) ha hb) fun a b d v w H Q h i1 i2 k => ?_
  rw [frK hK]
  unfold addD at h
  split at h
  · cases h
    exact .inl ⟨_, _, i1.int_, i2.int_, k _ _ (Grow.refl H) (Im.int _)⟩
  · obtain ⟨hz, rfl⟩ := iff_some h
    refine .inr (.inl ⟨_, _, i1.str_, i2.str_, by rw [st_len, st_len, ← big_eq]; exact hz, ?_⟩)
    rw [st_app]
    exact k _ _ (Grow.refl H) (Im.str _)
  · obtain ⟨hz, rfl⟩ := iff_some h
    obtain ⟨p, xs, rfl, h1, h2⟩ := i1.tup_
    obtain ⟨q, ys, rfl, h3, h4⟩ := i2.tup_
    refine .inr (.inr ⟨p, q, xs, ys, rfl, rfl, SqT.of h1, SqT.of h3, by rw [← h2.length, ← h4.length, ← big_eq]; exact hz, fun z => ?_, fun _ z => ?_, fun _ _ n hn => ?_⟩)
    · have z' := h2.eq_nil.mpr z
      subst z'
      exact k _ _ (Grow.refl H) (Im.tup h3 h4)
    · have z' := h4.eq_nil.mpr z
      subst z'
      rw [List.append_nil] at k
      exact k _ _ (Grow.refl H) (Im.tup h1 h2)
    · exact k _ _ (Grow.new hn) (Im.newTup hn (h2.append h4))
  · cases h
theorem v_sub (ha : PE X a (tV G fa)) (hb : PE X b (tV G fb)) : PE X (.BinOp a .Sub b pos) (tV G (op2 subD fa fb)) := by
  refine v_op2 (pe_op op_sub ha hb) fun a b d v w H Q h i1 i2 k => ?_
  unfold subD at h
  split at h
  · cases h
    exact ⟨_, _, i1.int_, i2.int_, k _ _ (Grow.refl H) (Im.int _)⟩
  · cases h
theorem v_mul (ha : PE X a (tV G fa)) (hb : PE X b (tV G fb)) : PE X (.BinOp a .Mult b pos) (tV G (op2 mulD fa fb)) := by
  refine v_op2 (pe_op op_mul ha hb) fun a b d v w H Q h i1 i2 k => ?_
  unfold mulD at h
  split at h
  · obtain ⟨hz, rfl⟩ := iff_some h
    exact ⟨_, _, i1.int_, i2.int_, hz, k _ _ (Grow.refl H) (Im.int _)⟩
  · cases h
theorem v_fdiv (ha : PE X a (tV G fa)) (hb : PE X b (tV G fb)) : PE X (.BinOp a .FloorDiv b pos) (tV G (op2 divD fa fb)) := by
  refine v_op2 (pe_op op_fdiv ha hb) fun a b d v w H Q h i1 i2 k => ?_
  unfold divD at h
  split at h
  · obtain ⟨hz, rfl⟩ := iff_some h
    exact ⟨_, _, i1.int_, i2.int_, hz, k _ _ (Grow.refl H) (Im.int _)⟩
  · cases h
theorem v_mod (ha : PE X a (tV G fa)) (hb : PE X b (tV G fb)) : PE X (.BinOp a .Mod b pos) (tV G (op2 modD fa fb)) := by
  refine v_op2 (pe_op op_mod ha hb) fun a b d v w H Q h i1 i2 k => ?_
  unfold modD at h
  split at h
  · obtain ⟨hz, rfl⟩ := iff_some h
    exact ⟨_, _, i1.int_, i2.int_, hz, k _ _ (Grow.refl H) (Im.int _)⟩
  · cases h
theorem v_pow (ha : PE X a (tV G fa)) (hb : PE X b (tV G fb)) : PE X (.BinOp a .Pow b pos) (tV G (op2 powD fa fb)) := by
  refine v_op2 (pe_op op_pow ha hb) fun a b d v w H Q h i1 i2 k => ?_
  unfold powD at h
  split at h
  · obtain ⟨⟨h1, h2, h3⟩, rfl⟩ := iff_some h
    exact ⟨_, _, i1.int_, i2.int_, ⟨h1, h2, h3⟩, k _ _ (Grow.refl H) (Im.int _)⟩
  · cases h
theorem v_neg (ha : PE X a (tV G fa)) : PE X (.UnaryOp .USub a pos) (tV G (op1 negD fa)) := by
  refine v_op1 (pe_un un_neg ha) fun a d v H Q h i1 k => ?_
  unfold negD at h
  split at h
  · cases h
    exact ⟨_, i1.int_, k _ _ (Grow.refl H) (Im.int _)⟩
  · cases h

/-! ### tests -/
theorem t_op2 {ex : Expr} {op : D → D → Option Bool} {r : R2} (h : PE X ex (tOp r (tV G fa) (tV G fb)))
    (hop : ∀ (a b : D) (d : Bool) (v w : V) (H : Hp) (Q : VK), op a b = some d → Im G.K H a v → Im G.K H b w → Q (.bl d) H → r v w H Q) : PE X ex (tV G (valF (ts2 op fa fb))) := by
  refine PE.le h fun σ H Q ⟨B, e, d, e', s, h, k⟩ => ?_
  unfold valF at h
  obtain ⟨⟨c1, e0⟩, hA, hB⟩ := bnd h
  unfold ts2 at hA
  obtain ⟨⟨a1, e1⟩, h1, hA⟩ := bnd hA
  obtain ⟨⟨b1, e2⟩, h2, hA⟩ := bnd hA
  obtain ⟨d1, h3, hA⟩ := mpd hA
  cases hA
  cases hB
  exact ⟨B, e, a1, e1, s, h1, fun v H1 s1 i1 x1 => ⟨B, e1, b1, e2, s1, h2, fun w H2 s2 i2 x2 => hop a1 b1 _ v w H2 Q h3 (i1.ext x2) i2 (k _ H2 s2 (Im.bl _) (x1.trans x2))⟩⟩
/-- a value of a test, as a test -/
theorem t_val {ex : Expr} {f : FT} (h : PE X ex (tV G (valF f))) (he : ∀ whole, isTrue ex X.env whole = (do let v ← whole; standAt ex.pos; holding [v] (truthy v)) := by intro _; rfl) : PT X ex (tT G f) := by
  refine PT.le (pt_val h he) fun σ H Q ⟨B, e, b, e', s, h, k⟩ => ?_
  refine ⟨B, e, .bl b, e', s, by unfold valF; rw [h]; rfl, fun v H' s' i x => ⟨b, i.bl_, k H' s' x⟩⟩
theorem t_cmp {op : CmpOp} {f : FT} (h : PE X (.Compare a [op] [b] pos) (tV G (valF f))) (he : ∀ whole, isTrue (.Compare a [op] [b] pos) X.env whole = (do let v ← whole; standAt (Expr.Compare a [op] [b] pos).pos; holding [v] (truthy v)) := by intro _; rfl) : PT X (.Compare a [op] [b] pos) (tT G f) := t_val h he
end
end VL
end

section
set_option Elab.async false
set_option linter.all false
set_option maxRecDepth 100000
/-! VLd: comparisons, tests, items, slices, built-ins. -/
namespace VL
open PySem PySem.Spec L2 VD
section
variable {X : Cx} {G : Gx} {pos : Pos} {a b c : Expr} {fa fb fc : FE}
theorem c_lt (ha : PE X a (tV G fa)) (hb : PE X b (tV G fb)) : PE X (.Compare a [.Lt] [b] pos) (tV G (valF (ts2 ltD fa fb))) := by
  refine t_op2 (pe_cmpR (OpR.or op_lt op_lt_str) ha hb (nomark _)) fun a b d v w H Q h i1 i2 k => ?_
  unfold ltD at h
  split at h
  · cases h; exact .inl ⟨_, _, i1.int_, i2.int_, k⟩
  · cases h; exact .inr ⟨_, _, i1.str_, i2.str_, by rw [st_toList, st_toList]; exact k⟩
  · cases h
theorem c_le (ha : PE X a (tV G fa)) (hb : PE X b (tV G fb)) : PE X (.Compare a [.LtE] [b] pos) (tV G (valF (ts2 leD fa fb))) := by
  refine t_op2 (pe_cmpR (OpR.or op_le op_le_str) ha hb (nomark _)) fun a b d v w H Q h i1 i2 k => ?_
  unfold leD at h
  split at h
  · cases h; exact .inl ⟨_, _, i1.int_, i2.int_, k⟩
  · cases h; exact .inr ⟨_, _, i1.str_, i2.str_, by rw [st_toList, st_toList]; exact k⟩
  · cases h
theorem c_gt (ha : PE X a (tV G fa)) (hb : PE X b (tV G fb)) : PE X (.Compare a [.Gt] [b] pos) (tV G (valF (ts2 gtD fa fb))) := by
  refine t_op2 (pe_cmpR (OpR.or op_gt op_gt_str) ha hb (nomark _)) fun a b d v w H Q h i1 i2 k => ?_
  unfold gtD ltD at h
  split at h
  · cases h; exact .inl ⟨_, _, i1.int_, i2.int_, k⟩
  · cases h; exact .inr ⟨_, _, i1.str_, i2.str_, by rw [st_toList, st_toList]; exact k⟩
  · cases h
theorem c_ge (ha : PE X a (tV G fa)) (hb : PE X b (tV G fb)) : PE X (.Compare a [.GtE] [b] pos) (tV G (valF (ts2 geD fa fb))) := by
  refine t_op2 (pe_cmpR (OpR.or op_ge op_ge_str) ha hb (nomark _)) fun a b d v w H Q h i1 i2 k => ?_
  unfold geD leD at h
  split at h
  · cases h; exact .inl ⟨_, _, i1.int_, i2.int_, k⟩
  · cases h; exact .inr ⟨_, _, i1.str_, i2.str_, by rw [st_toList, st_toList]; exact k⟩
  · cases h
theorem Im.non_iff {K : Kx} {H : Hp} {d : D} {v : V} (h : Im K H d v) : decide (v = .non) = decide (d = .non) := by
  cases d with
  | non => cases h.non_; rfl
  | bl _ => cases h.bl_; rfl
  | int _ => cases h.int_; rfl
  | str _ => cases h.str_; rfl
  | tup _ => obtain ⟨a, vs, rfl, _⟩ := h.tup_; rfl
  | lst _ => obtain ⟨a, vs, rfl, _⟩ := h.lst_; rfl
  | dct _ => simp only [Im] at h; obtain ⟨a, o, u, ks, rfl, _⟩ := h; rfl
theorem c_isN {j : Nat} {p : Pos} (ha : PE X a (tV G fa)) : PE X (.Compare a [.Is] [.Constant .none j p] pos) (tV G (valF (ts1 isND fa))) := by
  refine PE.le (pe_cmp (pc_isN ha)) fun σ H Q ⟨B, e, d, e', s, h, k⟩ => ?_
  unfold valF at h
  obtain ⟨⟨c1, e0⟩, hA, hB⟩ := bnd h
  obtain ⟨⟨a1, e1⟩, h1, hC⟩ := bnd hA
  cases hC
  cases hB
  exact ⟨B, e, a1, e1, s, h1, fun v H1 s1 i1 x1 => by
    show Q (.bl (decide (v = .non))) H1
    rw [i1.non_iff]
    exact k _ H1 s1 (Im.bl _) x1⟩
theorem c_isnotN {j : Nat} {p : Pos} (ha : PE X a (tV G fa)) : PE X (.Compare a [.IsNot] [.Constant .none j p] pos) (tV G (valF (ts1 isnotND fa))) := by
  refine PE.le (pe_cmp (pc_notN ha)) fun σ H Q ⟨B, e, d, e', s, h, k⟩ => ?_
  unfold valF at h
  obtain ⟨⟨c1, e0⟩, hA, hB⟩ := bnd h
  obtain ⟨⟨a1, e1⟩, h1, hC⟩ := bnd hA
  cases hC
  cases hB
  exact ⟨B, e, a1, e1, s, h1, fun v H1 s1 i1 x1 => by
    show Q (.bl (!decide (v = .non))) H1
    rw [i1.non_iff]
    exact k _ H1 s1 (Im.bl _) x1⟩
/-! ### tests -/
variable {ft fu : FT} {rest : List Expr}
theorem t_and1 (h : PT X a (tT G ft)) : PW X (.BoolOp .And [a] pos) (tT G ft) := pw_and1 h
theorem t_or1 (h : PT X a (tT G ft)) : PW X (.BoolOp .Or [a] pos) (tT G ft) := pw_or1 h
theorem t_and (ha : PT X a (tT G ft)) (hb : PW X (.BoolOp .And (b :: rest) pos) (tT G fu)) : PW X (.BoolOp .And (a :: b :: rest) pos) (tT G (andT ft fu)) := by
  refine PW.le (pw_and ha hb) fun σ H Q ⟨B, e, d, e', s, h, k⟩ => ?_
  obtain ⟨⟨c1, e1⟩, h1, h⟩ := bnd h
  refine ⟨B, e, c1, e1, s, h1, fun H1 s1 x1 => ?_⟩
  cases c1 with
  | true => exact iteT ⟨B, e1, d, e', s1, by simpa using h, fun H2 s2 x2 => k H2 s2 (x1.trans x2)⟩
  | false =>
    refine iteF ?_
    cases h
    exact k H1 s1 x1
theorem t_or (ha : PT X a (tT G ft)) (hb : PW X (.BoolOp .Or (b :: rest) pos) (tT G fu)) : PW X (.BoolOp .Or (a :: b :: rest) pos) (tT G (orT ft fu)) := by
  refine PW.le (pw_or ha hb) fun σ H Q ⟨B, e, d, e', s, h, k⟩ => ?_
  obtain ⟨⟨c1, e1⟩, h1, h⟩ := bnd h
  refine ⟨B, e, c1, e1, s, h1, fun H1 s1 x1 => ?_⟩
  cases c1 with
  | false => exact iteF ⟨B, e1, d, e', s1, by simpa using h, fun H2 s2 x2 => k H2 s2 (x1.trans x2)⟩
  | true =>
    refine iteT ?_
    cases h
    exact k H1 s1 x1
theorem t_not (ha : PT X a (tT G ft)) : PT X (.UnaryOp .Not a pos) (tT G (notT ft)) := by
  refine PT.le (pt_not ha) fun σ H Q ⟨B, e, d, e', s, h, k⟩ => ?_
  obtain ⟨⟨c1, e1⟩, h1, h⟩ := bnd h
  cases h
  exact ⟨B, e, c1, e1, s, h1, fun H1 s1 x1 => k H1 s1 x1⟩
/-- bools by and, or, not, as values -/
theorem w_one {op : BoolOp} (h : PE X a (tV G (valF ft))) : PE X (.BoolOp op [a] pos) (tV G (valF ft)) := pe_one h
theorem valF_e {e e' : En} {d : D} (h : valF ft e = some (d, e')) : ∃ b, ft e = some (b, e') ∧ d = .bl b := by
  unfold valF at h
  obtain ⟨⟨c1, e0⟩, hA, hB⟩ := bnd h
  cases hB
  exact ⟨c1, hA, rfl⟩
theorem valF_i {e e' : En} {b : Bool} (h : ft e = some (b, e')) : valF ft e = some (.bl b, e') := by
  unfold valF; rw [h]; rfl
theorem w_and (ha : PE X a (tV G (valF ft))) (hb : PE X (.BoolOp .And (b :: rest) pos) (tV G (valF fu))) : PE X (.BoolOp .And (a :: b :: rest) pos) (tV G (valF (andT ft fu))) := by
  refine PE.le (pe_and ha hb) fun σ H Q ⟨B, e, d, e', s, h, k⟩ => ?_
  obtain ⟨b, h', hd⟩ := valF_e h
  subst hd
  clear h
  obtain ⟨⟨c1, e1⟩, h1, h⟩ := bnd h'
  refine ⟨B, e, .bl c1, e1, s, valF_i h1, fun v H1 s1 i1 x1 => ⟨c1, i1.bl_, ?_⟩⟩
  cases c1 with
  | true => exact iteT ⟨B, e1, .bl b, e', s1, valF_i (by simpa using h), fun w H2 s2 i2 x2 => k w H2 s2 i2 (x1.trans x2)⟩
  | false =>
    refine iteF ?_
    cases h
    exact k _ H1 s1 (Im.bl _) x1
theorem w_or (ha : PE X a (tV G (valF ft))) (hb : PE X (.BoolOp .Or (b :: rest) pos) (tV G (valF fu))) : PE X (.BoolOp .Or (a :: b :: rest) pos) (tV G (valF (orT ft fu))) := by
  refine PE.le (pe_or ha hb) fun σ H Q ⟨B, e, d, e', s, h, k⟩ => ?_
  obtain ⟨b, h', hd⟩ := valF_e h
  subst hd
  clear h
  obtain ⟨⟨c1, e1⟩, h1, h⟩ := bnd h'
  refine ⟨B, e, .bl c1, e1, s, valF_i h1, fun v H1 s1 i1 x1 => ⟨c1, i1.bl_, ?_⟩⟩
  cases c1 with
  | false => exact iteF ⟨B, e1, .bl b, e', s1, valF_i (by simpa using h), fun w H2 s2 i2 x2 => k w H2 s2 i2 (x1.trans x2)⟩
  | true =>
    refine iteT ?_
    cases h
    exact k _ H1 s1 (Im.bl _) x1
theorem w_not (ha : PE X a (tV G (valF ft))) : PE X (.UnaryOp .Not a pos) (tV G (valF (notT ft))) := by
  refine PE.le (pe_not ha) fun σ H Q ⟨B, e, d, e', s, h, k⟩ => ?_
  obtain ⟨b, h', hd⟩ := valF_e h
  subst hd
  clear h
  obtain ⟨⟨c1, e1⟩, h1, h⟩ := bnd h'
  cases h
  exact ⟨B, e, .bl c1, e1, s, valF_i h1, fun v H1 s1 i1 x1 => ⟨c1, i1.bl_, k _ H1 s1 (Im.bl _) x1⟩⟩
theorem t_bl (h : PE X a (tV G fa)) (he : ∀ whole, isTrue a X.env whole = (do let v ← whole; standAt a.pos; holding [v] (truthy v)) := by intro _; rfl) : PT X a (tT G (blT fa)) := by
  refine PT.le (pt_val h he) fun σ H Q ⟨B, e, b, e', s, h, k⟩ => ?_
  obtain ⟨⟨d, e1⟩, h1, h⟩ := bnd h
  cases d <;> simp only [Option.some.injEq, Prod.mk.injEq, reduceCtorEq] at h
  obtain ⟨rfl, rfl⟩ := h
  exact ⟨B, e, _, _, s, h1, fun v H' s' i x => ⟨_, i.bl_, k H' s' x⟩⟩
theorem t_tru (h : PE X a (tV G fa)) (hK : kxOf X = G.K) (he : ∀ whole, isTrue a X.env whole = (do let v ← whole; standAt a.pos; holding [v] (truthy v)) := by intro _; rfl) : PT X a (tT G (truT fa)) := by
  refine PT.le (pt_truth h he) fun σ H Q ⟨B, e, b, e', s, h, k⟩ => ?_
  rw [frK hK]
  obtain ⟨⟨d, e1⟩, h1, h⟩ := bnd h
  obtain ⟨c, h2, h3⟩ := mpd h
  cases h3
  refine ⟨B, e, d, _, s, h1, fun v H' s' i x => ⟨b, ?_, k H' s' x⟩⟩
  clear h1 h
  cases d with
  | non => cases h2; cases i.non_; rfl
  | bl b => cases h2; cases i.bl_; rfl
  | int z => cases h2; cases i.int_; rfl
  | str z =>
    obtain ⟨hz, rfl⟩ := iff_some h2
    cases i.str_
    refine ⟨by rw [st_len, ← big_eq]; exact hz, ?_⟩
    rw [st_len]
    cases z with
    | nil => rfl
    | cons x z => simp; omega
  | tup xs =>
    cases h2
    obtain ⟨p, vs, rfl, g1, g2⟩ := i.tup_
    refine .inr (.inl ⟨vs, SqT.of g1, ?_⟩)
    have := g2.eq_nil
    cases xs <;> cases vs <;> simp_all
  | lst xs =>
    cases h2
    obtain ⟨p, vs, rfl, g1, g2⟩ := i.lst_
    refine .inl ⟨vs, g1.sq, ?_⟩
    have := g2.eq_nil
    cases xs <;> cases vs <;> simp_all
  | dct _ => cases h2
theorem v_if {cc : Expr} (hc : PT X cc (tT G ft)) (ha : PE X a (tV G fa)) (hb : PE X b (tV G fb)) : PE X (.IfExp cc a b pos) (tV G (ifF ft fa fb)) := by
  refine PE.le (pe_ifExp hc ha hb) fun σ H Q ⟨B, e, d, e', s, h, k⟩ => ?_
  obtain ⟨⟨c1, e1⟩, h1, h⟩ := bnd h
  refine ⟨B, e, c1, e1, s, h1, fun H1 s1 x1 => ?_⟩
  cases c1 with
  | true => exact iteT ⟨B, e1, d, e', s1, by simpa using h, fun w H2 s2 i2 x2 => k w H2 s2 i2 (x1.trans x2)⟩
  | false => exact iteF ⟨B, e1, d, e', s1, by simpa using h, fun w H2 s2 i2 x2 => k w H2 s2 i2 (x1.trans x2)⟩

/-! ### items, slices -/
theorem ixN_eq (n : Nat) (i : Int) : ixN n i = ixOf n i := rfl
theorem ImL.atL_ {K : Kx} {H : Hp} {ds : List D} {vs : List V} {i : Int} {d : D} (h : ImL K H ds vs) (e : atL ds i = some d) : ∃ v, atI vs i = some v ∧ Im K H d v := by
  unfold atL at e
  obtain ⟨j, h1, h2⟩ := bnd e
  obtain ⟨v, h3, h4⟩ := h.get h2
  refine ⟨v, ?_, h4⟩
  unfold atI
  rw [ixN_eq, ← h.length, h1]
  exact h3
theorem get_rIx {K : Kx} {H : Hp} {x y d : D} {v w : V} {Q : VK} (h : VD.getD x y = some d) (i1 : Im K H x v) (i2 : Im K H y w) (k : ∀ u, Im K H d u → Q u H) : rIx K.fr v w H Q := by
  unfold VD.getD at h
  split at h
  · obtain ⟨a, vs, rfl, h1, h2⟩ := i1.tup_
    obtain ⟨u, h3, h4⟩ := h2.atL_ h
    exact .inr (.inl ⟨a, vs, _, u, rfl, i2.int_, SqT.of h1, h3, k u h4⟩)
  · obtain ⟨a, vs, rfl, h1, h2⟩ := i1.lst_
    obtain ⟨u, h3, h4⟩ := h2.atL_ h
    exact .inl ⟨a, vs, _, u, rfl, i2.int_, h1.sq, h3, k u h4⟩
  · rename_i z _
    obtain ⟨hz, h⟩ : z.length ≤ big ∧ (atL z _).map (fun c => D.str [c]) = some d := by
      split at h
      · exact ⟨by assumption, h⟩
      · cases h
    obtain ⟨c, h2, rfl⟩ := mpd h
    refine .inr (.inr ⟨_, _, c, i1.str_, i2.int_, by rw [st_len, ← big_eq]; exact hz, by rw [st_toList]; exact h2, k _ (Im.str [c])⟩)
  · cases h
theorem v_get (ha : PE X a (tV G fa)) (hb : PE X b (tV G fb)) (hK : kxOf X = G.K) (hs : PlainIx b := by exact fun _ _ => rfl) : PE X (.Subscript a b pos) (tV G (op2 VD.getD fa fb)) := by
  refine v_op2 (pe_ix ix_seq ha hb hs) fun a b d v w H Q h i1 i2 k => ?_
  rw [frK hK]
  exact get_rIx h i1 i2 fun u i => k u H (Grow.refl H) i
/-- an item of a slot -/
theorem v_getS (i : Nat) {x : Str} {p : Pos} (hb : PE X b (tV G fb)) (hK : kxOf X = G.K) (hs : PlainIx b := by exact fun _ _ => rfl) (hN : X.N[i]? = some x := by rfl) (hv : Vis X.env.scope x := by first | exact Or.inl rfl | exact Or.inr (Or.inl rfl) | exact Or.inr (Or.inr rfl)) (hd : (x == ("__debug__" : Str)) = false := by decide)
    (hcd : (x == ("__classdict__" : Str)) = false := by decide) : PE X (.Subscript (.Name x p) b pos) (tV G (getS i fb)) := by
  refine PE.le (pe_ix ix_seq (pe_var (i := i) hN hv hd hcd) hb hs) fun σ H Q ⟨B, e, d, e', s, h, k⟩ => ?_
  rw [frK hK]
  unfold getS at h
  obtain ⟨m0, h0, hA⟩ := bnd h
  obtain ⟨⟨b1, e1⟩, h1, hB⟩ := bnd hA
  obtain ⟨m, h2, hC⟩ := bnd hB
  obtain ⟨d1, h3, hD⟩ := mpd hC
  cases hD
  obtain ⟨v, hv, _⟩ := s.take h0
  refine ⟨v, hv, B, e, b1, e1, s, h1, fun w H1 s1 i1 x1 => ?_⟩
  obtain ⟨v', hv', s2⟩ := s1.take h2
  rw [hv] at hv'
  cases hv'
  cases m with
  | imm d0 => exact get_rIx h3 s2.imm i1 fun u i => k u H1 s1 i x1
  | lst xs =>
    obtain ⟨a, vs, rfl, g1, g2, _⟩ := s2.lstAt
    cases b1 <;> simp only [getM, reduceCtorEq] at h3
    obtain ⟨u, g3, g4⟩ := g2.atL_ h3
    exact .inl ⟨a, vs, _, u, rfl, i1.int_, SqL.of g1, g3, k u H1 s1 g4 x1⟩
  | dct _ => cases h3
  | obj _ _ => cases h3
end
end VL
end

section
set_option Elab.async false
set_option linter.all false
set_option maxRecDepth 100000
/-! VLe: slices, displays, calls. -/
namespace VL
open PySem PySem.Spec L2 VD
section
variable {X : Cx} {G : Gx} {pos : Pos} {a b c : Expr} {fa fb fc : FE}

/-! ### slices -/
theorem o_none : PO X none (tO G noF) := PO.le po_none fun σ H Q ⟨B, e, o, e', s, h, k⟩ => by cases h; exact k H s (Ext.refl H)
theorem o_some (ha : PE X a (tV G fa)) : PO X (some a) (tO G (someF fa)) := by
  refine PO.le (po_some ha) fun σ H Q ⟨B, e, o, e', s, h, k⟩ => ?_
  obtain ⟨⟨d, e1⟩, h1, h2⟩ := bnd h
  cases d <;> simp only [Option.some.injEq, Prod.mk.injEq, reduceCtorEq] at h2
  obtain ⟨rfl, rfl⟩ := h2
  exact ⟨B, e, _, _, s, h1, fun v H' s' i x => ⟨_, i.int_, k H' s' x⟩⟩
theorem sx_eq (n d : Nat) (o : Option Int) : HT.sIx n d o = sxOf n d o := by
  cases o with
  | none => rfl
  | some v =>
    show (if v < 0 then (v + n).toNat else min v.toNat n) = (if v < 0 then (v + n).toNat else min v.toNat n)
    rfl
theorem cutV_eq (xs : List V) (lo hi : Option Int) : cutV xs lo hi = cutL xs lo hi := by
  unfold cutV cutL
  rw [sx_eq, sx_eq]
theorem cutS_st (z : List Nat) (lo hi : Option Int) : cutS (st z) lo hi = st (cutL z lo hi) := by
  unfold cutS
  rw [st_len, st_toList, sx_eq, sx_eq]
  rfl
theorem cutL_length {α : Type} (xs : List α) (lo hi : Option Int) : (cutL xs lo hi).length ≤ xs.length := by
  unfold cutL
  rw [List.length_take, List.length_drop]
  omega
theorem ImL.cut {K : Kx} {H : Hp} {ds : List D} {vs : List V} (h : ImL K H ds vs) (lo hi : Option Int) : ImL K H (cutL ds lo hi) (cutL vs lo hi) := by
  unfold cutL
  rw [h.length]
  exact (h.drop _).take _
theorem SlR_or {r r' : V → Option Int → Option Int → Hp → VK → Prop} (h : L2.SlR X r) (h' : L2.SlR X r') : L2.SlR X (fun x lo hi H Q => r x lo hi H Q ∨ r' x lo hi H Q) := L2.SlR.or h h'
theorem cut_ok {K : Kx} {H : Hp} {x d : D} {lo hi : Option Int} {v : V} {Q : VK} (h : cutD x lo hi = some d) (i : Im K H x v) (k : ∀ u H', Grow H H' → Im K H' d u → Q u H') : rSlS v lo hi H Q ∨ rSlA K.fr v lo hi H Q := by
  unfold cutD at h
  split at h
  · obtain ⟨hz, rfl⟩ := iff_some h
    refine .inl ⟨_, i.str_, by rw [st_len, ← big_eq]; exact hz, ?_⟩
    rw [cutS_st]
    exact k _ H (Grow.refl H) (Im.str _)
  · cases h
    rename_i xs
    obtain ⟨p, vs, rfl, h1, h2⟩ := i.tup_
    refine .inr ⟨p, vs, rfl, SqT.of h1, fun z => ?_, fun _ n hn => ?_⟩
    · refine k _ H (Grow.refl H) ?_
      have e : cutL xs lo hi = xs := by
        have l := h2.length
        unfold cutL
        rw [sx_eq, sx_eq] at z
        rw [l, z.1, z.2]
        simp [← l]
      rw [e]
      exact Im.tup h1 h2
    · rw [cutV_eq]
      exact k _ _ (Grow.new hn) (Im.newTup hn (h2.cut lo hi))
  · cases h
theorem v_cut {lo hi : Option Expr} {fl fh : FO} {p2 : Pos} (ha : PE X a (tV G fa)) (hl : PO X lo (tO G fl)) (hh : PO X hi (tO G fh)) (hK : kxOf X = G.K) : PE X (.Subscript a (.Slice lo hi none p2) pos) (tV G (cutF fa fl fh)) := by
  refine PE.le (pe_slice (SlR_or sl_str sl_tupA) ha hl hh) fun σ H Q ⟨B, e, d, e', s, h, k⟩ => ?_
  rw [frK hK]
  unfold cutF at h
  obtain ⟨⟨d1, e1⟩, h1, hA⟩ := bnd h
  obtain ⟨⟨l, e2⟩, h2, hB⟩ := bnd hA
  obtain ⟨⟨u, e3⟩, h3, hC⟩ := bnd hB
  obtain ⟨d2, h4, hD⟩ := mpd hC
  cases hD
  exact ⟨B, e, d1, e1, s, h1, fun v H1 s1 i1 x1 => ⟨B, e1, l, e2, s1, h2, fun H2 s2 x2 => ⟨B, e2, u, e3, s2, h3, fun H3 s3 x3 => cut_ok h4 (i1.ext (x2.trans x3)) fun w H4 g i4 => k w H4 (s3.grow g) i4 (((x1.trans x2).trans x3).trans g.ext)⟩⟩⟩

/-! ### displays -/
theorem l_nil : PA X [] (tL G nilA) := PA.le pa_nil fun σ H Q ⟨B, e, o, e', s, h, k⟩ => by cases h; exact k [] H s ImL.nil (Ext.refl H)
theorem l_cons {es : List Expr} {fr : FA} (ha : PE X a (tV G fa)) (hr : PA X es (tL G fr)) (hs : starEach (a :: es) X.env = (false, eval a X.env) :: starEach es X.env := by rfl) : PA X (a :: es) (tL G (consA fa fr)) := by
  refine PA.le (pa_cons ha hr hs) fun σ H Q ⟨B, e, ds, e', s, h, k⟩ => ?_
  obtain ⟨⟨d, e1⟩, h1, hA⟩ := bnd h
  obtain ⟨⟨ds1, e2⟩, h2, hB⟩ := bnd hA
  cases hB
  exact ⟨B, e, d, e1, s, h1, fun v H1 s1 i1 x1 => ⟨B, e1, ds1, e2, s1, h2, fun vs H2 s2 i2 x2 => k (v :: vs) H2 s2 (ImL.cons (i1.ext x2) i2) (x1.trans x2)⟩⟩
theorem v_tup {es : List Expr} {fr : FA} {x1 : Nat} (h : PA X es (tL G fr)) : PE X (.Tuple es x1 pos) (tV G (tupF fr)) := by
  refine PE.le (pe_tup h) fun σ H Q ⟨B, e, d, e', s, h, k⟩ => ?_
  obtain ⟨⟨ds, e1⟩, h1, hA⟩ := bnd h
  obtain ⟨hz, hB⟩ := iff_some hA
  cases hB
  exact ⟨B, e, ds, e1, s, h1, fun vs H1 s1 i1 x1 => ⟨by rw [← i1.length, ← big_eq]; exact hz, fun p hp => k _ _ (s1.grow (Grow.new hp)) (Im.newTup hp i1) (x1.trans (Ext.new hp))⟩⟩
theorem m_lst {es : List Expr} {fr : FA} (h : PA X es (tL G fr)) : PE X (.List es pos) (tM G (lstM fr)) := by
  refine PE.le (pe_lst h) fun σ H Q ⟨B, e, m, e', s, h, k⟩ => ?_
  obtain ⟨⟨ds, e1⟩, h1, hA⟩ := bnd h
  obtain ⟨hz, hB⟩ := iff_some hA
  cases hB
  exact ⟨B, e, ds, e1, s, h1, fun vs H1 s1 i1 x1 => ⟨by rw [← i1.length, ← big_eq]; exact hz, fun p hp => k _ _ (s1.new hp i1) (x1.trans (Ext.new hp))⟩⟩
theorem m_imm (ha : PE X a (tV G fa)) : PE X a (tM G (immM fa)) := by
  refine PE.le ha fun σ H Q ⟨B, e, m, e', s, h, k⟩ => ?_
  obtain ⟨⟨d, e1⟩, h1, hA⟩ := bnd h
  cases hA
  exact ⟨B, e, d, e1, s, h1, fun v H1 s1 i1 x1 => k v H1 (s1.push i1) x1⟩

/-! ### what is made is changed no more -/
/-- a new object is frozen -/
theorem v_frz {f : FM} (h : PE X a (tM G f)) : PE X a (tV G (frzM f)) := by
  refine ⟨fun pins s σ H Q I hq => ?_⟩
  obtain ⟨B, e, d, e', ss, h1, k⟩ := hq
  obtain ⟨⟨m, e1⟩, h2, h3⟩ := bnd h1
  refine thn (h.run pins s σ H (fun v H' => SS G (B.put m v) e1 σ H' ∧ Ext H H') I ⟨B, e, m, e1, ss, h2, fun v H' s' x => ⟨s', x⟩⟩) fun u s1 ⟨v, H1, I1, r, s2, x⟩ => ?_
  cases m with
  | imm d0 =>
    cases h3
    exact ⟨v, H1, I1, r, k v H1 s2.pop s2.imm x⟩
  | lst xs =>
    cases h3
    obtain ⟨p, vs, rfl, g1, g2, _⟩ := s2.lstAt
    obtain ⟨o, I2⟩ := I1.lock g1 trivial
    obtain ⟨s3, x2⟩ := s2.change (o := .frz o (.lst vs)) rfl g1 (.imm (.lst xs)) (.inr ⟨rfl, by
      simp only [Im]
      exact ⟨p, vs, rfl, .inl ⟨o, upd_same⟩, g2.ext (Ext.chg g1 trivial)⟩⟩)
    exact ⟨_, _, I2, r, k _ _ s3.pop s3.imm (x.trans x2)⟩
  | dct xs =>
    cases h3
    obtain ⟨p, u0, ks, rfl, g1, g2, g3⟩ := s2.dctAt
    have mu : Mut (some u0) := g2.own.mut
    obtain ⟨o, I2⟩ := I1.lock g1 mu
    obtain ⟨s3, x2⟩ := s2.changeD (o := .frz o u0) rfl g1 mu (.imm (.dct xs)) (.inr ⟨rfl, by
      simp only [Im]
      exact ⟨p, o, u0, ks, rfl, upd_same, g2, g3.ext (Ext.chg g1 mu)⟩⟩)
    exact ⟨_, _, I2, r, k _ _ s3.pop s3.imm (x.trans x2)⟩
  | obj _ _ => cases h3
theorem v_varz (i : Nat) {x : Str} (hN : X.N[i]? = some x := by rfl) (hv : Vis X.env.scope x := by first | exact Or.inl rfl | exact Or.inr (Or.inl rfl) | exact Or.inr (Or.inr rfl)) (hd : (x == ("__debug__" : Str)) = false := by decide)
    (hcd : (x == ("__classdict__" : Str)) = false := by decide) : PE X (.Name x pos) (tV G (frzF i)) := by
  refine ⟨fun pins s σ H Q I hq => ?_⟩
  obtain ⟨B, e, d, e', ss, h1, k⟩ := hq
  have go : ∀ {m : M} {v : V}, slot e i = some m → σ[i]? = some (some v) → SS G (B.put m v) (e.set i none) σ H → frzF i e = some (d, e') → ∃ H2, Inv X pins σ H2 s ∧ Q v H2 := fun {m v} hs hv s2 h1 => by
    unfold frzF at h1
    rw [hs] at h1
    have hi : i < (e.set i none).length := by rw [List.length_set]; exact slot_lt hs
    cases m with
    | imm d0 =>
      cases h1
      exact ⟨H, I, k v H ss s2.imm (Ext.refl H)⟩
    | lst xs =>
      cases h1
      obtain ⟨p, vs, rfl, g1, g2, _⟩ := s2.lstAt
      obtain ⟨o, I2⟩ := I.lock g1 trivial
      obtain ⟨s3, x2⟩ := s2.change (o := .frz o (.lst vs)) rfl g1 (.imm (.lst xs)) (.inr ⟨rfl, by
        simp only [Im]
        exact ⟨p, vs, rfl, .inl ⟨o, upd_same⟩, g2.ext (Ext.chg g1 trivial)⟩⟩)
      have s4 := s3.give hi hv
      rw [List.set_set] at s4
      exact ⟨_, I2, k _ _ s4 s3.imm x2⟩
    | dct xs =>
      cases h1
      obtain ⟨p, u0, ks, rfl, g1, g2, g3⟩ := s2.dctAt
      have mu : Mut (some u0) := g2.own.mut
      obtain ⟨o, I2⟩ := I.lock g1 mu
      obtain ⟨s3, x2⟩ := s2.changeD (o := .frz o u0) rfl g1 mu (.imm (.dct xs)) (.inr ⟨rfl, by
        simp only [Im]
        exact ⟨p, o, u0, ks, rfl, upd_same, g2, g3.ext (Ext.chg g1 mu)⟩⟩)
      have s4 := s3.give hi hv
      rw [List.set_set] at s4
      exact ⟨_, I2, k _ _ s4 s3.imm x2⟩
    | obj _ _ => cases h1
  obtain ⟨m, hs⟩ : ∃ m, slot e i = some m := by
    unfold frzF at h1
    cases q : slot e i with
    | none => rw [q] at h1; cases h1
    | some m => exact ⟨m, rfl⟩
  obtain ⟨v, hv', s2⟩ := ss.take hs
  obtain ⟨H2, I2, q2⟩ := go hs hv' s2 h1
  refine thn ((pe_var (i := i) hN hv hd hcd).run pins s σ H2 Q I2 ⟨v, hv', q2⟩) fun u s1 hq => hq

/-! ### built-ins -/
theorem v_len (ha : PA X [a] (tL G (consA fa nilA))) (hK : kxOf X = G.K) {p : Pos} (hg : Gl X "len") (hm : X.mg "len" = none) (he : starEach [a] X.env = (false, eval a X.env) :: starEach [] X.env := by rfl)
    (hpl : (backTo pos (starEach [] X.env)).any (·.1) = false := by rfl) : PE X (.Call (.Name "len" p) [a] [] pos) (tV G (lenF fa)) := by
  refine PE.le (pe_callB call_len hg hm PySem.boot_len ha (he := he) (hpl := hpl)) fun σ H Q ⟨B, e, d, e', s, h, k⟩ => ?_
  obtain ⟨⟨d1, e1⟩, h1, hA⟩ := bnd h
  obtain ⟨d2, h2, hB⟩ := mpd hA
  cases hB
  obtain ⟨n, h3, hC⟩ := mpd h2
  subst hC
  refine ⟨B, e, [d1], e1, s, by unfold consA nilA; rw [h1]; rfl, fun vs H1 s1 i1 x1 => ?_⟩
  simp only [ImL] at i1
  obtain ⟨v, vr, rfl, i2, rfl⟩ := i1
  refine ⟨v, n, rfl, ?_, k _ H1 s1 (Im.int _) x1⟩
  rw [frK hK]
  cases d1 with
  | str z =>
    obtain ⟨hz, rfl⟩ := iff_some h3
    cases i2.str_
    exact ⟨by rw [st_len, ← big_eq]; exact hz, by rw [st_len]⟩
  | tup xs =>
    cases h3
    obtain ⟨p, ws, rfl, g1, g2⟩ := i2.tup_
    exact .inr ⟨ws, SqT.of g1, g2.length⟩
  | lst xs =>
    cases h3
    obtain ⟨p, ws, rfl, g1, g2⟩ := i2.lst_
    exact .inl ⟨ws, g1.sq, g2.length⟩
  | dct _ => cases h3
  | _ => cases h3
theorem v_lenS (i : Nat) {x : Str} {p p2 : Pos} (hK : kxOf X = G.K) (hg : Gl X "len") (hm : X.mg "len" = none) (hN : X.N[i]? = some x := by rfl) (hv : Vis X.env.scope x := by first | exact Or.inl rfl | exact Or.inr (Or.inl rfl) | exact Or.inr (Or.inr rfl)) (hd : (x == ("__debug__" : Str)) = false := by decide)
    (hcd : (x == ("__classdict__" : Str)) = false := by decide) (he : starEach [.Name x p2] X.env = (false, eval (.Name x p2) X.env) :: starEach [] X.env := by rfl)
    (hpl : (backTo pos (starEach [] X.env)).any (·.1) = false := by rfl) : PE X (.Call (.Name "len" p) [.Name x p2] [] pos) (tV G (lenS i)) := by
  refine PE.le (pe_callB call_len hg hm PySem.boot_len (pa_cons (pe_var (i := i) hN hv hd hcd) pa_nil he) (he := he) (hpl := hpl)) fun σ H Q ⟨B, e, d, e', s, h, k⟩ => ?_
  obtain ⟨m, hs, hA⟩ := bnd h
  obtain ⟨n, h3, hB⟩ := mpd hA
  cases hB
  obtain ⟨v, hv', s2⟩ := s.take hs
  refine ⟨v, hv', v, n, rfl, ?_, k _ H s (Im.int _) (Ext.refl H)⟩
  rw [frK hK]
  cases m with
  | imm d1 =>
    have i2 := s2.imm
    cases d1 with
    | str z =>
      obtain ⟨hz, rfl⟩ := iff_some h3
      cases i2.str_
      exact ⟨by rw [st_len, ← big_eq]; exact hz, by rw [st_len]⟩
    | tup xs =>
      cases h3
      obtain ⟨p, ws, rfl, g1, g2⟩ := i2.tup_
      exact .inr ⟨ws, SqT.of g1, g2.length⟩
    | lst xs =>
      cases h3
      obtain ⟨p, ws, rfl, g1, g2⟩ := i2.lst_
      exact .inl ⟨ws, g1.sq, g2.length⟩
    | dct _ => cases h3
    | _ => cases h3
  | lst xs =>
    cases h3
    obtain ⟨a, ws, rfl, g1, g2, _⟩ := s2.lstAt
    exact .inl ⟨ws, SqL.of g1, g2.length⟩
  | dct xs => cases h3
  | obj _ _ => cases h3
/-- one argument, one datum: a built-in function or type -/
theorem v_intc (ha : PE X a (tV G fa)) {p : Pos} (hg : Gl X "int") (hm : X.mg "int" = none) (he : starEach [a] X.env = (false, eval a X.env) :: starEach [] X.env := by rfl)
    (hpl : (backTo pos (starEach [] X.env)).any (·.1) = false := by rfl) : PE X (.Call (.Name "int" p) [a] [] pos) (tV G (op1 intD fa)) := by
  refine PE.le (pe_callTy call_int1 hg hm (by decide +kernel) (pa_cons ha pa_nil he) (he := he) (hpl := hpl)) fun σ H Q ⟨B, e, d, e', s, h, k⟩ => ?_
  obtain ⟨⟨d1, e1⟩, h1, hA⟩ := bnd h
  obtain ⟨d2, h2, hB⟩ := mpd hA
  cases hB
  refine ⟨B, e, d1, e1, s, h1, fun v H1 s1 i1 x1 => ?_⟩
  unfold intD at h2
  cases d1 with
  | int i =>
    cases h2
    cases i1.int_
    exact .inl ⟨i, rfl, k _ H1 s1 (Im.int _) x1⟩
  | bl b =>
    cases h2
    cases i1.bl_
    exact .inr ⟨b, rfl, k _ H1 s1 (Im.int _) x1⟩
  | _ => cases h2
end
end VL
end

section
set_option Elab.async false
set_option linter.all false
set_option maxRecDepth 100000
/-! VLf: calls of defs. -/
namespace VL
open PySem PySem.Spec L2 VD
section
variable {K : Kx} {H H' : Hp}
theorem puts_tm {B : Bx} : ∀ {ms : List M} {vs : List V} {bs : List Addr}, ms.length = vs.length → TmR K H (B.puts ms vs).ts bs → ∃ a1 b1, bs = a1 ++ b1 ∧ SlR K H (ms.map some) (vs.map some) a1 ∧ TmR K H B.ts b1
  | [], [], bs, _, h => ⟨[], bs, rfl, ⟨rfl, rfl⟩, h⟩
  | m :: ms, v :: vs, bs, l, h => by
    obtain ⟨a1, a2, rfl, h1, h2⟩ := h
    obtain ⟨c1, c2, rfl, h3, h4⟩ := puts_tm (B := B) (by simpa using l) h2
    exact ⟨a1 ++ c1, c2, by simp, ⟨v, vs.map some, a1, c1, rfl, rfl, h1, h3⟩, h4⟩
  | [], v :: vs, _, l, _ => by simp at l
  | m :: ms, [], _, l, _ => by simp at l
theorem tm_puts {B : Bx} : ∀ {ms : List M} {vs : List V} {a1 b1 : List Addr}, SlR K H (ms.map some) (vs.map some) a1 → TmR K H B.ts b1 → TmR K H (B.puts ms vs).ts (a1 ++ b1)
  | [], [], a1, b1, h, h2 => by obtain ⟨_, rfl⟩ := h; exact h2
  | m :: ms, v :: vs, a1, b1, h, h2 => by
    obtain ⟨u, r, c1, c2, e, rfl, h3, h4⟩ := h
    simp only [List.map_cons, List.cons.injEq, Option.some.injEq] at e
    obtain ⟨rfl, rfl⟩ := e
    exact ⟨c1, c2 ++ b1, by simp, h3, tm_puts h4 h2⟩
  | [], v :: vs, _, _, h, _ => by obtain ⟨e, _⟩ := h; simp at e
  | m :: ms, [], _, _, h, _ => by obtain ⟨_, _, _, _, e, _⟩ := h; simp at e
theorem puts_A {B : Bx} : ∀ (ms : List M) (vs : List V), (B.puts ms vs).A = B.A ∧ (B.puts ms vs).H0 = B.H0 ∧ (B.puts ms vs).fx = B.fx
  | [], _ => ⟨rfl, rfl, rfl⟩
  | m :: ms, v :: vs => puts_A ms vs
  | m :: ms, [] => ⟨rfl, rfl, rfl⟩
theorem Keep.call {A a1 : List Addr} {H0 H H' : Hp} (h : ∀ a ∈ a1, a ∈ A ∨ H0 a = none) (k : Keep A H0 H) (k' : Keep a1 H H') : Keep A H0 H' := by
  refine ⟨fun b o e n t => k'.same b o (k.same b o e n t) (fun z => ?_) t, fun P t => k'.tab P (k.tab P t), k.ext.trans k'.ext, fun b z => k'.dom b (k.dom b z)⟩
  rcases h b z with q | q
  · exact n q
  · rw [q] at e; cases e
end

/-- the promise of a def: F says what it gives; Pr: the parameters that may be lent -/
def spV (K : Kx) (T : List Addr) (Pr : List Nat) (n : Nat) (F : Fn) : Sp := fun vs H Q _ => ∃ ms r ms' as, F ms = some (r, ms') ∧ ms.length = n ∧ vs.length = n ∧ SlR K H (ms.map some) (vs.map some) as ∧ as.Nodup ∧
  (∀ (i : Nat) m, ms[i]? = some m → (∃ d, m = M.imm d) ∨ i ∈ Pr) ∧ (∀ P ∈ T, GxR.TabG H P) ∧
  ∀ v H', Keep as H H' → (∀ P ∈ T, GxR.TabG H' P) → (∃ as' bs, SlR K H' (ms'.map some) (vs.map some) as' ∧ RM K H' r v bs ∧ (as' ++ bs).Nodup ∧ ∀ a ∈ as' ++ bs, a ∈ as ∨ H a = none) → Q v H'
/-- the arguments that may be lent, by places -/
def argsOk (Pr : List Nat) : Nat → List VD.Arg → Bool
  | _, [] => true
  | k, .e _ :: r => argsOk Pr (k + 1) r
  | k, .s _ :: r => Pr.contains k && argsOk Pr (k + 1) r
section
variable {X : Cx} {G : Gx} {pos : Pos} {a : Expr} {fa : FE}
theorem a_nil : PA X [] (tA G []) := PA.le pa_nil fun σ H Q ⟨B, e, ms, e', s, h, k⟩ => by cases h; exact k [] H s rfl rfl (Ext.refl H)
theorem a_e {es : List Expr} {as : List VD.Arg} (ha : PE X a (tV G fa)) (hr : PA X es (tA G as)) (hs : starEach (a :: es) X.env = (false, eval a X.env) :: starEach es X.env := by rfl) : PA X (a :: es) (tA G (.e fa :: as)) := by
  refine PA.le (pa_cons ha hr hs) fun σ H Q ⟨B, e, ms, e', s, h, k⟩ => ?_
  obtain ⟨⟨d, e1⟩, h1, hA⟩ := bnd h
  obtain ⟨⟨ms1, e2⟩, h2, hB⟩ := bnd hA
  cases hB
  exact ⟨B, e, d, e1, s, h1, fun v H1 s1 i1 x1 => ⟨B, e1, ms1, e2, s1, h2, fun vs H2 s2 l2 g2 x2 => k (v :: vs) H2 (SS.push s2 (i1.ext x2)) (by simp [l2]) ⟨v, vs, rfl, g2⟩ (x1.trans x2)⟩⟩
theorem a_s (i : Nat) {x : Str} {p : Pos} {es : List Expr} {as : List VD.Arg} (hr : PA X es (tA G as)) (hN : X.N[i]? = some x := by rfl) (hv : Vis X.env.scope x := by first | exact Or.inl rfl | exact Or.inr (Or.inl rfl) | exact Or.inr (Or.inr rfl)) (hd : (x == ("__debug__" : Str)) = false := by decide)
    (hcd : (x == ("__classdict__" : Str)) = false := by decide) (hs : starEach (.Name x p :: es) X.env = (false, eval (.Name x p) X.env) :: starEach es X.env := by rfl) : PA X (.Name x p :: es) (tA G (.s i :: as)) := by
  refine PA.le (pa_cons (pe_var (i := i) hN hv hd hcd) hr hs) fun σ H Q ⟨B, e, ms, e', s, h, k⟩ => ?_
  obtain ⟨m0, h0, hA⟩ := bnd h
  obtain ⟨⟨ms1, e1⟩, h2, hB⟩ := bnd hA
  obtain ⟨m, h3, hC⟩ := bnd hB
  cases hC
  obtain ⟨v, hv', _⟩ := s.take h0
  refine ⟨v, hv', B, e, ms1, e1, s, h2, fun vs H2 s2 l2 g2 x2 => ?_⟩
  obtain ⟨v', hv2, s3⟩ := s2.take h3
  rw [hv'] at hv2
  cases hv2
  exact k (v :: vs) H2 s3 (by simp [l2]) ⟨v, vs, rfl, hv', g2⟩ x2
theorem ev_len : ∀ {as : List VD.Arg} {e e' : En} {ms : List M}, evArgs as e = some (ms, e') → ms.length = as.length
  | [], _, _, _, h => by cases h; rfl
  | .e f :: r, e, e', ms, h => by
    obtain ⟨⟨d, e1⟩, h1, hA⟩ := bnd h
    obtain ⟨⟨ms1, e2⟩, h2, hB⟩ := bnd hA
    cases hB
    simp [ev_len h2]
  | .s i :: r, e, e', ms, h => by
    obtain ⟨m0, h0, hA⟩ := bnd h
    obtain ⟨⟨ms1, e1⟩, h2, hB⟩ := bnd hA
    obtain ⟨m, h3, hC⟩ := bnd hB
    cases hC
    simp [ev_len h2]
theorem ev_ok {Pr : List Nat} : ∀ {as : List VD.Arg} {e e' : En} {ms : List M} {k : Nat}, evArgs as e = some (ms, e') → argsOk Pr k as = true → ∀ (i : Nat) m, ms[i]? = some m → (∃ d, m = M.imm d) ∨ k + i ∈ Pr
  | [], _, _, _, _, h, _, i, m, hm => by cases h; simp at hm
  | .e f :: r, e, e', ms, k, h, ok, i, m, hm => by
    obtain ⟨⟨d, e1⟩, h1, hA⟩ := bnd h
    obtain ⟨⟨ms1, e2⟩, h2, hB⟩ := bnd hA
    cases hB
    cases i with
    | zero => simp at hm; exact .inl ⟨d, hm.symm⟩
    | succ i =>
      rcases ev_ok (k := k + 1) h2 ok i m (by simpa using hm) with z | z
      · exact .inl z
      · exact .inr (by rw [show k + (i + 1) = k + 1 + i by omega]; exact z)
  | .s j :: r, e, e', ms, k, h, ok, i, m, hm => by
    obtain ⟨m0, h0, hA⟩ := bnd h
    obtain ⟨⟨ms1, e1⟩, h2, hB⟩ := bnd hA
    obtain ⟨m1, h3, hC⟩ := bnd hB
    cases hC
    unfold argsOk at ok
    rw [Bool.and_eq_true] at ok
    cases i with
    | zero => exact .inr (by simpa using ok.1)
    | succ i =>
      rcases ev_ok (k := k + 1) h2 ok.2 i m (by simpa using hm) with z | z
      · exact .inl z
      · exact .inr (by rw [show k + (i + 1) = k + 1 + i by omega]; exact z)
/-- the lent objects come back to their slots -/
theorem SS.putBack {B : Bx} {σ : L2.St} {H : Hp} : ∀ {as : List VD.Arg} {ms : List M} {vs : List V} {e : En}, SS G (B.puts ms vs) e σ H → ms.length = vs.length → ArgV σ as vs → SS G B (putArgs as ms e) σ H
  | [], ms, vs, e, s, l, h => by
    have h : vs = [] := h
    subst h
    have : ms = [] := List.length_eq_zero_iff.mp l
    subst this
    exact s
  | .e f :: r, ms, vs, e, s, l, h => by
    obtain ⟨v, vr, rfl, h2⟩ := h
    cases ms with
    | nil => simp at l
    | cons m ms => exact SS.putBack (as := r) (SS.pop s) (by simpa using l) h2
  | .s i :: r, ms, vs, e, s, l, h => by
    obtain ⟨v, vr, rfl, hv, h2⟩ := h
    cases ms with
    | nil => simp at l
    | cons m ms =>
      refine SS.putBack (as := r) (SS.give s ?_ hv) (by simpa using l) h2
      obtain ⟨as, bs, g1, _⟩ := s.sl
      rw [g1.length]
      exact (List.getElem?_eq_some_iff.mp hv).1
theorem run_call {B : Bx} {e : En} {σ : L2.St} {H : Hp} {ms : List M} {vs : List V} {Pr : List Nat} {n : Nat} {F : Fn} {Q : VK} {E : XK} {r : M} {ms' : List M} (s : SS G (B.puts ms vs) e σ H) (l : ms.length = vs.length) (ln : ms.length = n) (hF : F ms = some (r, ms'))
    (hPr : ∀ (i : Nat) m, ms[i]? = some m → (∃ d, m = M.imm d) ∨ i ∈ Pr) (k : ∀ v H', SS G ((B.put r v).puts ms' vs) e σ H' → ms'.length = vs.length → Ext H H' → Q v H') : spV G.K G.T Pr n F vs H Q E := by
  obtain ⟨as0, bs, h1, h2, h3, h4⟩ := s.sl
  obtain ⟨a1, b1, rfl, g1, g2⟩ := puts_tm l h2
  obtain ⟨pA, pH, pf⟩ := puts_A (B := B) ms vs
  have n1 : a1.Nodup := (List.nodup_append.mp (List.nodup_append.mp h3).2.1).1
  refine ⟨ms, r, ms', a1, hF, ln, by rw [← l]; exact ln, g1, n1, hPr, s.tb, fun v H' kp tb ⟨as', bs', c1, c2, c3, c4⟩ => ?_⟩
  obtain ⟨d1, d2, d3⟩ := List.nodup_append.mp h3
  obtain ⟨d4, d5, d6⟩ := List.nodup_append.mp d2
  have k0 : ∀ a ∈ as0, H' a = H a := fun a ha => by
    obtain ⟨o, ho, w⟩ := h1.own a ha
    rw [ho]
    exact kp.same a o ho (fun z => d3 a ha a (List.mem_append_left _ z) rfl) w.nt
  have k1 : ∀ a ∈ b1, H' a = H a := fun a ha => by
    obtain ⟨o, ho, w⟩ := g2.own a ha
    rw [ho]
    exact kp.same a o ho (fun z => d6 a z a ha rfl) w.nt
  have l' : ms'.length = vs.length := by simpa using c1.length
  obtain ⟨qA, qH, qf⟩ := puts_A (B := B.put r v) ms' vs
  have ne0 : ∀ a ∈ as' ++ bs', a ∉ as0 ∧ a ∉ b1 := fun a ha => by
    rcases c4 a ha with z | z
    · exact ⟨fun q => d3 a q a (List.mem_append_left _ z) rfl, fun q => d6 a z a q rfl⟩
    · refine ⟨fun q => ?_, fun q => ?_⟩
      · obtain ⟨o, ho, _⟩ := h1.own a q; rw [z] at ho; cases ho
      · obtain ⟨o, ho, _⟩ := g2.own a q; rw [z] at ho; cases ho
  have old : ∀ a, H a = none → B.H0 a = none := fun a z => by
    cases q : B.H0 a with
    | none => rfl
    | some u =>
      have := s.kp.dom a
      rw [pH, q] at this
      exact absurd z (this (by simp))
  refine k v H' ⟨⟨as0, as' ++ (bs' ++ b1), h1.keep kp.ext k0, tm_puts c1 ⟨bs', b1, rfl, c2, g2.keep kp.ext k1⟩, ?_, fun a ha => ?_⟩, ?_, tb, fun p hp => ?_⟩ l' kp.ext
  · rw [← List.append_assoc as' bs' b1]
    refine List.nodup_append.mpr ⟨d1, List.nodup_append.mpr ⟨c3, d5, fun x hx y hy e => (ne0 x hx).2 (e ▸ hy)⟩, fun x hx y hy e => ?_⟩
    subst e
    rcases List.mem_append.mp hy with z | z
    · exact (ne0 x z).1 hx
    · exact d3 x hx x (List.mem_append_right _ z) rfl
  · rw [qA, qH]
    show a ∈ B.A ∨ B.H0 a = none
    rw [pA, pH] at h4
    rcases List.mem_append.mp ha with z | z
    · exact h4 a (List.mem_append_left _ z)
    · rw [← List.append_assoc as' bs' b1] at z
      rcases List.mem_append.mp z with z | z
      · rcases c4 a z with q | q
        · exact h4 a (by simp [q])
        · exact .inr (old a q)
      · exact h4 a (by simp [z])
  · rw [qA, qH]
    show Keep B.A B.H0 H'
    have kk := s.kp
    rw [pA, pH] at kk h4
    exact Keep.call (fun a ha => h4 a (by simp [ha])) kk kp
  · rw [qf] at hp
    have := s.fx p
    rw [pf] at this
    exact this hp
theorem m_call {k : Nat} {f : Addr} {fd : FuncData} {ps : List Str} {x : Str} {p : Pos} {e : Expr} {es : List Expr} {as : List VD.Arg} {F : Fn} {Pr : List Nat} {n : Nat}
    (Fo : FnOk X.prog X.w X.K X.mg X.base CX0 k f fd ps (spV G.K G.T Pr n F)) (hr : Room k X.A) (hg : Gl X x) (hm : X.mg x = some (.ref f)) (hk : PySem.W.keepIn X.K (.ref f) = true) (hb : Binds X.K fd ps [])
    (ha : PA X (e :: es) (tA G as)) (hn : as.length = n) (hok : argsOk Pr 0 as = true) (hdb : (x == ("__debug__" : Str)) = false := by decide) (he : starEach (e :: es) X.env = (false, eval e X.env) :: starEach es X.env := by rfl) (hpl : (backTo pos (starEach es X.env)).any (·.1) = false := by rfl) :
    PE X (.Call (.Name x p) (e :: es) [] pos) (tM G (callM F as)) := by
  refine PE.le (pe_call Fo hr hg hm hk hb .nil pass0 ha hdb he hpl) fun σ H Q ⟨B, e0, m, e', s, h, k⟩ => ?_
  obtain ⟨⟨ms, e1⟩, h1, hA⟩ := bnd h
  obtain ⟨⟨r, ms'⟩, h2, hB⟩ := bnd hA
  cases hB
  refine ⟨B, e0, ms, e1, s, h1, fun vs H1 s1 l1 g1 x1 => ?_⟩
  show spV G.K G.T Pr n F (vs ++ []) H1 Q E0
  rw [List.append_nil]
  exact run_call s1 l1 (by rw [ev_len h1, hn]) h2 (fun i m hm => by simpa using ev_ok h1 hok i m hm) fun v H' s2 l2 x2 => k v H' (SS.putBack s2 l2 g1) (x1.trans x2)
theorem v_of_m {ex : Expr} {f : FM} (h : PE X ex (tM G f)) : PE X ex (tV G (immF f)) := by
  refine PE.le h fun σ H Q ⟨B, e0, d, e', s, h, k⟩ => ?_
  obtain ⟨⟨m, e1⟩, h1, hA⟩ := bnd h
  cases m <;> simp only [Option.some.injEq, Prod.mk.injEq, reduceCtorEq] at hA
  obtain ⟨rfl, rfl⟩ := hA
  exact ⟨B, e0, _, _, s, h1, fun v H' s' x => k v H' s'.pop s'.imm x⟩
end

/-! ### a def by its body -/
def fxOf : Nat → List M → List V → List (Nat × V)
  | k, m :: ms, v :: vs => match m with
    | .imm _ => fxOf (k + 1) ms vs
    | _ => (k, v) :: fxOf (k + 1) ms vs
  | _, _, _ => []
theorem fxOf_ok {Pr : List Nat} : ∀ {ms : List M} {vs : List V} {k : Nat}, (∀ (i : Nat) m, ms[i]? = some m → (∃ d, m = M.imm d) ∨ k + i ∈ Pr) → ∀ p ∈ fxOf k ms vs, (∃ i, p.1 = k + i ∧ vs[i]? = some p.2) ∧ p.1 ∈ Pr
  | [], _, _, _, p, hp => by simp [fxOf] at hp
  | _ :: _, [], _, _, p, hp => by simp [fxOf] at hp
  | m :: ms, v :: vs, k, h, p, hp => by
    have next : ∀ p ∈ fxOf (k + 1) ms vs, (∃ i, p.1 = k + i ∧ (v :: vs)[i]? = some p.2) ∧ p.1 ∈ Pr := fun p hp => by
      obtain ⟨⟨i, e1, e2⟩, h2⟩ := fxOf_ok (Pr := Pr) (ms := ms) (vs := vs) (k := k + 1) (fun i m hm => by
        rcases h (i + 1) m (by simpa using hm) with z | z
        · exact .inl z
        · exact .inr (by rw [show k + 1 + i = k + (i + 1) by omega]; exact z)) p hp
      exact ⟨⟨i + 1, by omega, by simpa using e2⟩, h2⟩
    cases m with
    | imm d => exact next p hp
    | _ =>
      rcases List.mem_cons.mp hp with z | z
      · subst z
        rcases h 0 _ rfl with ⟨d, q⟩ | q
        · cases q
        · exact ⟨⟨0, rfl, rfl⟩, q⟩
      · exact next p z
/-- the lent slots keep their values -/
def OwnV : List M → List V → L2.St → Prop
  | m :: ms, v :: vs, o :: σ => match m with
    | .imm _ => OwnV ms vs σ
    | _ => o = some v ∧ OwnV ms vs σ
  | _, _, _ => True
theorem ownV_of : ∀ {ms : List M} {vs : List V} {σ0 σ : L2.St} {k : Nat}, σ0.length = k → (∀ p ∈ fxOf k ms vs, (σ0 ++ σ)[p.1]? = some (some p.2)) → OwnV ms vs σ
  | [], _, _, _, _, _, _ => by simp [OwnV]
  | _ :: _, [], _, _, _, _, _ => by simp [OwnV]
  | _ :: _, _ :: _, _, [], _, _, _ => by simp [OwnV]
  | m :: ms, v :: vs, σ0, o :: σ, k, hl, h => by
    have next : (∀ p ∈ fxOf (k + 1) ms vs, (σ0 ++ o :: σ)[p.1]? = some (some p.2)) → OwnV ms vs σ := fun h' => ownV_of (σ0 := σ0 ++ [o]) (k := k + 1) (by simp [hl]) fun p hp => by simpa using h' p hp
    cases m with
    | imm d => exact next h
    | _ =>
      refine ⟨?_, next fun p hp => h p (List.mem_cons_of_mem _ hp)⟩
      have := h (k, v) List.mem_cons_self
      simp [← hl] at this
      exact this
theorem back_ok {K : Kx} {H H' : Hp} (x : Ext H H') : ∀ {ms : List M} {vs : List V} {as as1 : List Addr} {e : En} {σ : L2.St} {ms' : List M}, SlR K H (ms.map some) (vs.map some) as → SlR K H' e σ as1 → OwnV ms vs σ → backM ms e = some ms' →
    ∃ as', SlR K H' (ms'.map some) (vs.map some) as' ∧ as'.Sublist as1
  | [], vs, as, as1, e, σ, ms', h1, h2, _, hb => by
    cases hb
    obtain ⟨e1, rfl⟩ := h1
    have : vs = [] := by simpa using e1
    subst this
    exact ⟨[], ⟨rfl, rfl⟩, List.nil_sublist _⟩
  | m :: ms, vs, as, as1, e, σ, ms', h1, h2, ho, hb => by
    obtain ⟨v, r, a1, a2, e1, rfl, h3, h4⟩ := h1
    cases vs with
    | nil => simp at e1
    | cons u vs =>
      simp only [List.map_cons, List.cons.injEq, Option.some.injEq] at e1
      obtain ⟨rfl, rfl⟩ := e1
      cases e with
      | nil => cases hb
      | cons o e =>
        -- the rest
        obtain ⟨s, σr, c1, c2, rfl, rfl, hm, hr⟩ : ∃ s σr c1 c2, σ = s :: σr ∧ as1 = c1 ++ c2 ∧ (∀ m', o = some m' → ∃ v', s = some v' ∧ RM K H' m' v' c1) ∧ SlR K H' e σr c2 := by
          cases o with
          | none =>
            obtain ⟨s, σr, rfl, hr⟩ := h2
            exact ⟨s, σr, [], as1, rfl, rfl, fun m' z => (by cases z), hr⟩
          | some m' =>
            obtain ⟨v', σr, c1, c2, rfl, rfl, hm, hr⟩ := h2
            exact ⟨some v', σr, c1, c2, rfl, rfl, fun m2 z => (by cases z; exact ⟨v', rfl, hm⟩), hr⟩
        have own : (∃ d, m = .imm d) ∨ (∀ d, m ≠ .imm d) := by
          cases m with
          | imm d => exact .inl ⟨d, rfl⟩
          | _ => exact .inr fun d z => by cases z
        rcases own with ⟨d, rfl⟩ | no
        · obtain ⟨ms1, hb1, hb2⟩ := mpd (show (backM ms e).map (fun l => M.imm d :: l) = some ms' from hb)
          subst hb2
          obtain ⟨as', g1, g2⟩ := back_ok x h4 hr (show OwnV ms vs σr from ho) hb1
          exact ⟨as', ⟨u, vs.map some, [], as', rfl, rfl, ⟨rfl, h3.2.ext x⟩, g1⟩, g2.trans (List.sublist_append_right _ _)⟩
        · cases o with
          | none => cases m <;> first | cases hb | exact absurd rfl (no _)
          | some m' =>
            obtain ⟨ms1, hb1, hb2⟩ : ∃ ms1, backM ms e = some ms1 ∧ m' :: ms1 = ms' := by
              cases m <;> first | exact mpd hb | exact absurd rfl (no _)
            subst hb2
            obtain ⟨hov, hor⟩ : s = some u ∧ OwnV ms vs σr := by
              cases m <;> first | exact ho | exact absurd rfl (no _)
            obtain ⟨v', e2, hm'⟩ := hm m' rfl
            rw [hov] at e2
            cases e2
            obtain ⟨as', g1, g2⟩ := back_ok x h4 hr hor hb1
            exact ⟨c1 ++ as', ⟨u, vs.map some, c1, as', rfl, rfl, hm', g1⟩, List.Sublist.append_left g2 c1⟩
theorem slR_none {K : Kx} {H : Hp} : ∀ {e : En} {σ : L2.St} {as : List Addr} (n : Nat), SlR K H e σ as → SlR K H (e ++ List.replicate n none) (σ ++ List.replicate n none) as
  | [], σ, as, n, h => by
    obtain ⟨rfl, rfl⟩ := h
    induction n with
    | zero => exact ⟨rfl, rfl⟩
    | succ n ih => exact ⟨none, List.replicate n none, rfl, ih⟩
  | none :: e, σ, as, n, h => by
    obtain ⟨o, r, rfl, h⟩ := h
    exact ⟨o, r ++ List.replicate n none, rfl, slR_none n h⟩
  | some m :: e, σ, as, n, h => by
    obtain ⟨v, r, a1, a2, rfl, rfl, h1, h2⟩ := h
    exact ⟨v, r ++ List.replicate n none, a1, a2, rfl, rfl, h1, slR_none n h2⟩
section
variable {P : Program} {w : World} {K : PySem.W.Frag} {mg : Str → Option Value} {base : Heap}
theorem fn_by {x qual : Str} {st : Stmt} {f : Addr} {fd : FuncData} {N ps : List Str} {k : Nat} {T : List Addr} {Pr : List Nat} {body : FS} (F : Fun K x qual st f fd) (S : FnScope N ps (defScope st))
    (hb : ∀ (cdv : Value) (A : Around) (outer : List PySem.Env) (s : Shared) (H : Hp) (E : XK), Room k (A.deeper (PyProof.Rows.envOfC qual (defScope st) s.heap.objs.size f cdv)) →
      PSs (cxOf CX0 P w K mg base N qual (defScope st) f cdv A outer s H E).nox (defBody st) (tS ⟨⟨K, P, w⟩, T, Pr⟩ body)) : FnOk P w K mg base CX0 (k + 1) f fd ps (spV ⟨K, P, w⟩ T Pr ps.length (defF N.length body)) := by
  refine F.ok S (fun vs H Q E h => ?_) (fun cdv A outer s H vs Q E hr h => ?_)
  · obtain ⟨_, _, _, _, _, _, l, _⟩ := h
    exact l
  · refine ⟨_, hb cdv A outer s H E hr, ?_⟩
    obtain ⟨ms, r, ms', as, hF, l1, l2, h1, h2, h3, h4, k1⟩ := h
    unfold defF at hF
    obtain ⟨⟨fl, e'⟩, hbody, hfin⟩ := bnd hF
    have s0 : SS ⟨⟨K, P, w⟩, T, Pr⟩ { A := as, H0 := H, fx := fxOf 0 ms vs, ts := [] } (ms.map some ++ List.replicate (N.length - ms.length) none) (L2.start N vs) H := by
      refine ⟨⟨as, [], ?_, rfl, by simpa using h2, fun a ha => .inl (by simpa using ha)⟩, Keep.refl _ _, h4, fun p hp => ?_⟩
      · unfold L2.start
        rw [l1, ← l2]
        exact slR_none _ h1
      · obtain ⟨⟨i, e1, e2⟩, h5⟩ := fxOf_ok (Pr := Pr) (k := 0) (fun i m hm => by simpa using h3 i m hm) p hp
        refine ⟨?_, h5⟩
        unfold L2.start
        rw [e1, Nat.zero_add]
        obtain ⟨hi, _⟩ := List.getElem?_eq_some_iff.mp e2
        rw [List.getElem?_append_left (by simpa using hi), List.getElem?_map, e2]
        rfl
    -- the end
    have fin : ∀ {σ' : L2.St} {H' : Hp} {m : M} {v : V}, SS ⟨⟨K, P, w⟩, T, Pr⟩ (Bx.put { A := as, H0 := H, fx := fxOf 0 ms vs, ts := [] } m v) e' σ' H' → (backM ms e').map (fun l => (m, l)) = some (r, ms') → Q v H' := fun {σ' H' m v} s' hm => by
      obtain ⟨l, hb1, hb2⟩ := mpd hm
      cases hb2
      obtain ⟨as1, bs1, g1, g2, g3, g4⟩ := s'.sl
      obtain ⟨b1, b2, rfl, g5, g6⟩ := g2
      have g6 : b2 = [] := g6
      subst g6
      have ov : OwnV ms vs σ' := ownV_of (σ0 := []) (k := 0) rfl fun p hp => (s'.fx p hp).1
      obtain ⟨as', c1, c2⟩ := back_ok s'.kp.ext h1 g1 ov hb1
      refine k1 v H' s'.kp s'.tb ⟨as', b1, c1, g5, ?_, fun a ha => ?_⟩
      · rw [List.append_nil] at g3
        exact g3.sublist (List.Sublist.append_right c2 _)
      · refine g4 a ?_
        rcases List.mem_append.mp ha with z | z
        · exact List.mem_append_left _ (c2.subset z)
        · exact List.mem_append_right _ (by simpa using z)
    refine ⟨_, _, fl, e', s0, hbody, ?_⟩
    cases fl with
    | nx => exact fun σ' H' s' _ => fin (m := .imm .non) (v := .non) (SS.push s' Im.non) hfin
    | bk => cases hfin
    | ct => cases hfin
    | rt m => exact fun σ' v H' s' _ => fin s' hfin
end
end VL
end

section
set_option Elab.async false
set_option linter.all false
set_option maxRecDepth 100000
/-! VLg: statements, loops. -/
namespace VL
open PySem PySem.Spec L2 VD

/-- targets, what is walked -/
structure Agree (sl : List Nat) (σ σ' : L2.St) : Prop where
  len : σ'.length = σ.length
  eq : ∀ j, j ∉ sl → σ'[j]? = σ[j]?
theorem Agree.refl (sl : List Nat) (σ : L2.St) : Agree sl σ σ := ⟨rfl, fun _ _ => rfl⟩
def tGt (G : Gx) (g : FG) (sl : List Nat) : TG := fun v σ H Q => ∃ B e d e', SS G B e σ H ∧ Im G.K H d v ∧ g d e = some e' ∧ ∀ σ' H', SS G B e' σ' H' → Ext H H' → Agree sl σ σ' → Q σ' H'
def ItOk (K : Kx) (H1 : Hp) (J : It) (ds : List D) : Prop := ∀ i H, Ext H1 H → (∀ d, ds[i]? = some d → J.go i H ∧ ∀ x H', J.yld i H x H' → Grow H H' ∧ Im K H' d x) ∧ (i = ds.length → J.stop i H)
def tI (G : Gx) (f : FI) : TI := fun σ H R => ∃ B e ds e', SS G B e σ H ∧ f e = some (ds, e') ∧ ∀ J H', SS G B e' σ H' → Ext H H' → ItOk G.K H' J ds → R J H'
theorem PI.le {X : Cx} {tg it : Expr} {w w' : TI} (h : PI X tg it w) (k : ∀ σ H R, w' σ H R → w σ H R) : PI X tg it w' := ⟨fun pins s σ H R I hq => h.run pins s σ H R I (k _ _ _ hq)⟩
theorem PG.le {X : Cx} {tg : Expr} {w w' : TG} (h : PG X tg w) (k : ∀ v σ H R, w' v σ H R → w v σ H R) : PG X tg w' := ⟨fun pins s σ H v u Q I r hq => h.run pins s σ H v u Q I r (k _ _ _ _ hq)⟩

section
variable {G : Gx} {B : Bx} {e : En} {σ : L2.St} {H H' : Hp}
theorem SS.len (s : SS G B e σ H) : e.length = σ.length := by
  obtain ⟨as, bs, g1, _⟩ := s.sl
  exact g1.length
theorem SS.store' {i : Nat} {m : M} {v : V} (s : SS G (B.put m v) e σ H) (np : i ∉ G.Pr) : SS G B (e.set i (some m)) (σ.set i (some v)) H := by
  by_cases hi : i < e.length
  · exact s.store hi np
  · rw [List.set_eq_of_length_le (by omega), List.set_eq_of_length_le (by rw [← s.len]; omega)]
    exact s.pop
end

section
variable {X : Cx} {G : Gx} {pos : Pos} {a b c : Expr} {fa fb fc : FE} {fm : FM}
theorem s_set (i : Nat) {x : Str} {p : Pos} (hN : X.N.Nodup) (ha : PE X a (tV G fa)) (np : i ∉ G.Pr) (hi : X.N[i]? = some x := by rfl) (hx : Loc X.env.scope x := by first | exact Or.inl rfl | exact Or.inr rfl) (hs : swapsWith a (some (.Name x p)) pos.line X.env = pure false := by rfl)
    (hf : X.fn x = true ∨ X.env.scope.names.lookup x = some .local := by first | exact .inl rfl | exact .inr rfl) : PS X (.Assign [.Name x p] a pos) (tS G (setS i fa)) := by
  refine PS.le (ps_set hN hi hx ha hs hf) fun D σ H ⟨B, e, fl, e', s, h, k⟩ => ?_
  obtain ⟨⟨d, e1⟩, h1, hA⟩ := bnd h
  cases hA
  exact ⟨B, e, d, e1, s, h1, fun v H1 s1 i1 x1 => k _ _ ((SS.push s1 i1).store' np) x1⟩
theorem s_setM (i : Nat) {x : Str} {p : Pos} (hN : X.N.Nodup) (ha : PE X a (tM G fm)) (np : i ∉ G.Pr) (hi : X.N[i]? = some x := by rfl) (hx : Loc X.env.scope x := by first | exact Or.inl rfl | exact Or.inr rfl) (hs : swapsWith a (some (.Name x p)) pos.line X.env = pure false := by rfl)
    (hf : X.fn x = true ∨ X.env.scope.names.lookup x = some .local := by first | exact .inl rfl | exact .inr rfl) : PS X (.Assign [.Name x p] a pos) (tS G (setMS i fm)) := by
  refine PS.le (ps_set hN hi hx ha hs hf) fun D σ H ⟨B, e, fl, e', s, h, k⟩ => ?_
  obtain ⟨⟨m, e1⟩, h1, hA⟩ := bnd h
  cases hA
  exact ⟨B, e, m, e1, s, h1, fun v H1 s1 x1 => k _ _ (SS.store' s1 np) x1⟩
theorem s_ret (ha : PE X a (tV G fa)) : PS X (.Return (some a) pos) (tS G (retS fa)) := by
  refine PS.le (ps_ret ha) fun D σ H ⟨B, e, fl, e', s, h, k⟩ => ?_
  obtain ⟨⟨d, e1⟩, h1, hA⟩ := bnd h
  cases hA
  exact ⟨B, e, d, e1, s, h1, fun v H1 s1 i1 x1 => k _ _ _ (SS.push s1 i1) x1⟩
theorem s_retM (ha : PE X a (tM G fm)) : PS X (.Return (some a) pos) (tS G (retMS fm)) := by
  refine PS.le (ps_ret ha) fun D σ H ⟨B, e, fl, e', s, h, k⟩ => ?_
  obtain ⟨⟨m, e1⟩, h1, hA⟩ := bnd h
  cases hA
  exact ⟨B, e, m, e1, s, h1, fun v H1 s1 x1 => k _ _ _ s1 x1⟩
theorem s_retN : PS X (.Return none pos) (tS G retNS) := by
  refine PS.le ps_retN fun D σ H ⟨B, e, fl, e', s, h, k⟩ => ?_
  cases h
  exact k _ _ _ (SS.push s Im.non) (Ext.refl H)
theorem s_break : PS X (.Break pos) (tS G bkS) := PS.le ps_break fun D σ H ⟨B, e, fl, e', s, h, k⟩ => by cases h; exact k _ _ s (Ext.refl H)
theorem s_cont : PS X (.Continue pos) (tS G ctS) := PS.le ps_continue fun D σ H ⟨B, e, fl, e', s, h, k⟩ => by cases h; exact k _ _ s (Ext.refl H)
theorem s_pass : PS X (.Pass pos) (tS G nxS) := PS.le ps_pass fun D σ H ⟨B, e, fl, e', s, h, k⟩ => by cases h; exact k _ _ s (Ext.refl H)
theorem s_expr (ha : PE X a (tV G fa)) (hs : swapsWith a none pos.line X.env = pure false := by rfl) : PS X (.Expr a pos) (tS G (dropS fa)) := by
  refine PS.le (ps_expr ha hs) fun D σ H ⟨B, e, fl, e', s, h, k⟩ => ?_
  obtain ⟨⟨d, e1⟩, h1, hA⟩ := bnd h
  cases hA
  exact ⟨B, e, d, e1, s, h1, fun v H1 s1 i1 x1 => k _ _ s1 x1⟩
variable {st : Stmt} {rest : List Stmt} {f1 f2 : FS} {ft : FT}
theorem b_nil : PSs X [] (tS G nxS) := PSs.le pss_nil fun D σ H ⟨B, e, fl, e', s, h, k⟩ => by cases h; exact k _ _ s (Ext.refl H)
theorem b_one (h : PS X st (tS G f1)) : PSs X [st] (tS G f1) := pss_one h
theorem b_cons (h1 : PS X st (tS G f1)) (h2 : PSs X rest (tS G f2)) : PSs X (st :: rest) (tS G (seqS f1 f2)) := by
  refine PSs.le (pss_cons h1 h2) fun D σ H ⟨B, e, fl, e', s, h, k⟩ => ?_
  obtain ⟨⟨fl1, e1⟩, h3, hA⟩ := bnd h
  refine ⟨B, e, fl1, e1, s, h3, ?_⟩
  cases fl1 with
  | nx =>
    intro σ1 H1 s1 x1
    refine ⟨B, e1, fl, e', s1, hA, ?_⟩
    cases fl with
    | nx => exact fun σ' H' s' x' => k σ' H' s' (x1.trans x')
    | bk => exact fun σ' H' s' x' => k σ' H' s' (x1.trans x')
    | ct => exact fun σ' H' s' x' => k σ' H' s' (x1.trans x')
    | rt m => exact fun σ' v H' s' x' => k σ' v H' s' (x1.trans x')
  | bk => cases hA; exact k
  | ct => cases hA; exact k
  | rt m => cases hA; exact k
theorem post_ext {D : Ends} {B : Bx} {e' : En} {H H1 : Hp} (x1 : Ext H H1) {fl : Fl} (k : Post G B e' H D fl) : Post G B e' H1 D fl := by
  cases fl with
  | nx => exact fun σ' H' s' x' => k σ' H' s' (x1.trans x')
  | bk => exact fun σ' H' s' x' => k σ' H' s' (x1.trans x')
  | ct => exact fun σ' H' s' x' => k σ' H' s' (x1.trans x')
  | rt m => exact fun σ' v H' s' x' => k σ' v H' s' (x1.trans x')
theorem s_if {p q : List Stmt} (hc : PT X c (tT G ft)) (ha : PSs X p (tS G f1)) (hb : PSs X q (tS G f2)) : PS X (.If c p q pos) (tS G (ifS ft f1 f2)) := by
  refine PS.le (ps_if hc ha hb) fun D σ H ⟨B, e, fl, e', s, h, k⟩ => ?_
  obtain ⟨⟨b1, e1⟩, h1, hA⟩ := bnd h
  refine ⟨B, e, b1, e1, s, h1, fun H1 s1 x1 => ?_⟩
  cases b1 with
  | true => exact iteT ⟨B, e1, fl, e', s1, by simpa using hA, post_ext x1 k⟩
  | false => exact iteF ⟨B, e1, fl, e', s1, by simpa using hA, post_ext x1 k⟩
/-- slot.append(x) -/
theorem s_app (i : Nat) {x : Str} {p ap cp : Pos} (ha : PE X a (tV G fa)) (hK : kxOf X = G.K) (hN : X.N[i]? = some x := by rfl) (hv : Vis X.env.scope x := by first | exact Or.inl rfl | exact Or.inr (Or.inl rfl) | exact Or.inr (Or.inr rfl)) (hd : (x == ("__debug__" : Str)) = false := by decide)
    (hcd : (x == ("__classdict__" : Str)) = false := by decide) (hst : PS X (.Expr (.Call (.Attribute (.Name x p) "append" ap) [a] [] cp) pos) (tDrop (tBM X.K "list" rAppend (tVar i) (tCons (tV G fa) tNil)))) :
    PS X (.Expr (.Call (.Attribute (.Name x p) "append" ap) [a] [] cp) pos) (tS G (appS i fa)) := by
  refine PS.le hst fun D σ H ⟨B, e, fl, e', s, h, k⟩ => ?_
  unfold appS at h
  split at h
  · rename_i hl
    obtain ⟨⟨d, e1⟩, h1, hA⟩ := bnd h
    obtain ⟨xs0, hs0⟩ : ∃ xs0, slot e i = some (.lst xs0) := by
      unfold isLst at hl
      split at hl
      · exact ⟨_, by assumption⟩
      · cases hl
    obtain ⟨v, hv', s0⟩ := s.take hs0
    obtain ⟨p0, vs0, rfl, g0, _⟩ := s0.lstAt
    refine ⟨_, hv', .inl ⟨rfl, _, SqL.of g0⟩, B, e, d, e1, s, h1, fun y H1 s1 i1 x1 => ?_⟩
    split at hA
    · rename_i xs hs1
      obtain ⟨hz, hB⟩ := iff_some hA
      cases hB
      obtain ⟨v', hv2, s2⟩ := s1.take hs1
      rw [hv'] at hv2
      cases hv2
      obtain ⟨p1, vs1, e1, g1, g2, _⟩ := s2.lstAt
      cases e1
      refine ⟨p0, vs1, y, rfl, rfl, g1, by rw [← g2.length, ← big_eq]; exact hz, ?_⟩
      have x2 : Ext H1 (upd H1 p0 (.lst (vs1 ++ [y]))) := Ext.chg g1 trivial
      obtain ⟨s3, _⟩ := s2.change (o := .lst (vs1 ++ [y])) rfl g1 (.lst (xs ++ [d])) (.inl ⟨p0, _, rfl, rfl, upd_same, (g2.ext x2).append (ImL.cons (i1.ext x2) ImL.nil)⟩)
      have s4 := s3.give (by rw [List.length_set]; exact slot_lt hs1) hv'
      rw [List.set_set] at s4
      exact k _ _ s4 (x1.trans x2)
    · cases hA
  · cases h
/-- slot[k] = x -/
theorem s_put (i : Nat) {x : Str} {p sp : Pos} (ha : PE X a (tV G fa)) (hb : PE X b (tV G fb)) (hN : X.N[i]? = some x := by rfl) (hv : Vis X.env.scope x := by first | exact Or.inl rfl | exact Or.inr (Or.inl rfl) | exact Or.inr (Or.inr rfl)) (hd : (x == ("__debug__" : Str)) = false := by decide)
    (hcd : (x == ("__classdict__" : Str)) = false := by decide) (hst : PS X (.Assign [.Subscript (.Name x p) b sp] a pos) (tAsg (tV G fa) (gSub (tVar i) (tV G fb) rSetL))) :
    PS X (.Assign [.Subscript (.Name x p) b sp] a pos) (tS G (putS i fb fa)) := by
  refine PS.le hst fun D σ H ⟨B, e, fl, e', s, h, k⟩ => ?_
  unfold putS at h
  obtain ⟨⟨d, e1⟩, h1, hA⟩ := bnd h
  obtain ⟨m0, h0, hB⟩ := bnd hA
  obtain ⟨⟨kd, e2⟩, h2, hC⟩ := bnd hB
  refine ⟨B, e, d, e1, s, h1, fun y H1 s1 i1 x1 => ?_⟩
  obtain ⟨v, hv', _⟩ := s1.take h0
  refine ⟨v, hv', B, e1, kd, e2, s1, h2, fun w H2 s2 i2 x2 => ?_⟩
  split at hC
  · rename_i xs z hs hk
    obtain ⟨j, hj, hD⟩ := bnd hC
    cases hD
    have hk : kd = .int z := hk
    subst hk
    obtain ⟨v', hv2, s3⟩ := s2.take hs
    rw [hv'] at hv2
    cases hv2
    obtain ⟨p1, vs1, rfl, g1, g2, _⟩ := s3.lstAt
    refine ⟨p1, vs1, z, j, rfl, i2.int_, g1, by rw [ixN_eq, ← g2.length]; exact hj, ?_⟩
    have x3 : Ext H2 (upd H2 p1 (.lst (vs1.set j y))) := Ext.chg g1 trivial
    obtain ⟨s4, _⟩ := s3.change (o := .lst (vs1.set j y)) rfl g1 (.lst (xs.set j d)) (.inl ⟨p1, _, rfl, rfl, upd_same, (g2.ext x3).set j (i1.ext (x2.trans x3))⟩)
    have s5 := s4.give (by rw [List.length_set]; exact slot_lt hs) hv'
    rw [List.set_set] at s5
    exact k _ _ s5 ((x1.trans x2).trans x3)
  · cases hC

/-! ### targets -/
theorem g_name (i : Nat) {x : Str} (hN : X.N.Nodup) (np : i ∉ G.Pr) (hi : X.N[i]? = some x := by rfl) (hx : Loc X.env.scope x := by first | exact Or.inl rfl | exact Or.inr rfl) (hf : X.fn x = true ∨ X.env.scope.names.lookup x = some .local := by first | exact .inl rfl | exact .inr rfl) : PG X (.Name x pos) (tGt G (nameG i) [i]) := by
  refine PG.le (pg_name hN hi hx hf) fun v σ H Q ⟨B, e, d, e', s, i1, h, k⟩ => ?_
  cases h
  exact k _ _ ((SS.push s i1).store' np) (Ext.refl H) ⟨List.length_set, fun j hj => List.getElem?_set_ne fun z => hj (by simp [z])⟩
/-- several names -/
def gNames (G : Gx) (is : List Nat) : TGs := fun vs σ H Q => ∃ B e ds e', SS G B e σ H ∧ ImL G.K H ds vs ∧ namesG is ds e = some e' ∧ ∀ σ' H', SS G B e' σ' H' → Ext H H' → Agree is σ σ' → Q σ' H'
theorem PGs.le {es : List Expr} {w w' : TGs} (h : PGs X es w) (k : ∀ v σ H R, w' v σ H R → w v σ H R) : PGs X es w' := ⟨fun pins s σ H v u Q I r hq => h.run pins s σ H v u Q I r (k _ _ _ _ hq)⟩
theorem gs_nil : PGs X [] (gNames G []) := by
  refine PGs.le pgs_nil fun vs σ H Q ⟨B, e, ds, e', s, i1, h, k⟩ => ?_
  cases ds with
  | nil =>
    cases h
    simp only [ImL] at i1
    subst i1
    exact ⟨rfl, k _ _ s (Ext.refl H) (Agree.refl _ _)⟩
  | cons _ _ => cases h
theorem gs_cons (i : Nat) {x : Str} {es : List Expr} {is : List Nat} (hN : X.N.Nodup) (np : i ∉ G.Pr) (hr : PGs X es (gNames G is)) (hi : X.N[i]? = some x := by rfl) (hx : Loc X.env.scope x := by first | exact Or.inl rfl | exact Or.inr rfl) (hf : X.fn x = true ∨ X.env.scope.names.lookup x = some .local := by first | exact .inl rfl | exact .inr rfl)
    (hs : (assignEach (.Name x pos :: es) X.env).map (·.2) = assign (.Name x pos) X.env :: (assignEach es X.env).map (·.2) := by rfl) : PGs X (.Name x pos :: es) (gNames G (i :: is)) := by
  refine PGs.le (pgs_cons (pg_name hN hi hx hf) hr hs) fun vs σ H Q ⟨B, e, ds, e', s, i1, h, k⟩ => ?_
  cases ds with
  | nil => cases h
  | cons d ds =>
    simp only [ImL] at i1
    obtain ⟨v, vr, rfl, i2, i3⟩ := i1
    exact ⟨v, vr, rfl, B, _, ds, e', (SS.push s i2).store' np, i3, h, fun σ' H' s' x' ag => k σ' H' s' x' ⟨by rw [ag.len, List.length_set], fun j hj => by
      rw [ag.eq j fun z => hj (List.mem_cons_of_mem _ z), List.getElem?_set_ne fun z => hj (by rw [z]; exact List.mem_cons_self)]⟩⟩
theorem g_tup {es : List Expr} {kk : Nat} {is : List Nat} (hc : X.calm = true) (hK : kxOf X = G.K) (h : PGs X es (gNames G is)) (hn : (assignEach es X.env).length = is.length := by rfl) (hst : (assignEach es X.env).findIdx? (·.1) = none := by rfl) : PG X (.Tuple es kk pos) (tGt G (tupG is) is) := by
  refine PG.le (pg_tup hc h hn hst) fun v σ H Q ⟨B, e, d, e', s, i1, h, k⟩ => ?_
  cases d with
  | tup ds =>
    obtain ⟨p, vs, rfl, g1, g2⟩ := i1.tup_
    have l : is.length = ds.length := by
      have : ∀ {is : List Nat} {ds : List D} {e e' : En}, namesG is ds e = some e' → is.length = ds.length := by
        intro is
        induction is with
        | nil => intro ds e e' h; cases ds <;> first | rfl | cases h
        | cons i is ih => intro ds e e' h; cases ds with
          | nil => cases h
          | cons d ds => simp [ih (show namesG is ds _ = some e' from h)]
      exact this h
    exact ⟨p, vs, rfl, SqT.of g1, by rw [← g2.length, l], B, e, ds, e', s, g2, h, k⟩
  | _ => cases h
/-- target = value -/
theorem s_asg {tg : Expr} {g : FG} {sl : List Nat} (ha : PE X a (tV G fa)) (hg : PG X tg (tGt G g sl)) (hs : swapsWithSole [tg] a pos.line X.env = pure false := by rfl) (hw : swappedStores [tg] a X.env = pure none := by rfl)
    (h1 : (assignEach [tg] X.env).map (·.2) = [assign tg X.env] := by rfl) : PS X (.Assign [tg] a pos) (tS G (asgS g fa)) := by
  refine PS.le (ps_asg ha hg hs hw h1) fun D σ H ⟨B, e, fl, e', s, h, k⟩ => ?_
  obtain ⟨⟨d, e1⟩, h1, hA⟩ := bnd h
  obtain ⟨e2, h2, hB⟩ := bnd hA
  cases hB
  exact ⟨B, e, d, e1, s, h1, fun v H1 s1 i1 x1 => ⟨B, e1, d, _, s1, i1, h2, fun σ' H' s' x' _ => k σ' H' s' (x1.trans x')⟩⟩

/-! ### loops -/
theorem s_for {tg iter : Expr} {body : List Stmt} {it : FI} {g : FG} {fb : FS} {sl : List Nat} (hp : PassesOwn (model X.prog X.w) X.A X.env X.xe) (hc : X.calm = true) (hi : PI X tg iter (tI G it)) (hg : PG X tg (tGt G g sl)) (hb : PSs X body (tS G fb))
    (hs : ∀ x, foldedSetIterable iter X.env x = pure x := by intro _; rfl) : PS X (.For tg iter body [] pos) (tS G (forS g it fb)) := by
  refine PS.le (ps_for hp hc hi hg hb hs) fun D σ H ⟨B, e, fl, e', s, h, k⟩ => ?_
  obtain ⟨⟨ds, e1⟩, h1, hA⟩ := bnd h
  refine ⟨B, e, ds, e1, s, h1, fun J H1 s1 x1 ok => ?_⟩
  refine ⟨fun i m σ H => m = ds.length - i ∧ i ≤ ds.length ∧ ∃ e, SS G B e σ H ∧ Ext H1 H ∧ forL g fb (ds.drop i) e = some (fl, e'), ⟨ds.length, by simp, Nat.zero_le _, e1, s1, Ext.refl H1, hA⟩, ?_⟩
  rintro i m σ2 H2 ⟨rfl, hi2, e2, s2, x2, h2⟩
  by_cases hlt : i < ds.length
  · obtain ⟨d, hd⟩ : ∃ d, ds[i]? = some d := ⟨ds[i], List.getElem?_eq_getElem hlt⟩
    have hdr : ds.drop i = d :: ds.drop (i + 1) := by
      rw [List.drop_eq_getElem_cons hlt]
      rw [List.getElem?_eq_getElem hlt] at hd
      cases hd
      rfl
    rw [hdr] at h2
    obtain ⟨e3, h3, hB⟩ := bnd h2
    obtain ⟨⟨fl1, e4⟩, h4, hC⟩ := bnd hB
    obtain ⟨go, yl⟩ := (ok i H2 x2).1 d hd
    refine .inr ⟨go, fun σ' H' => ∃ e, SS G B e σ' H' ∧ Ext H1 H' ∧ forL g fb (ds.drop (i + 1)) e = some (fl, e'), fun σ' H' z => ⟨ds.length - (i + 1), by omega, rfl, hlt, z⟩, fun x H' y => ?_⟩
    obtain ⟨gr, im⟩ := yl x H' y
    refine ⟨B, e2, d, e3, s2.grow gr, im, h3, fun σ3 H3 s3 x3 _ => ⟨B, e3, fl1, e4, s3, h4, ?_⟩⟩
    have x4 : Ext H1 H3 := (x2.trans gr.ext).trans x3
    cases fl1 with
    | nx => exact fun σ' H' s' x' => ⟨e4, s', x4.trans x', hC⟩
    | ct => exact fun σ' H' s' x' => ⟨e4, s', x4.trans x', hC⟩
    | bk => cases hC; exact fun σ' H' s' x' => k σ' H' s' ((x1.trans x4).trans x')
    | rt m => cases hC; exact fun σ' v H' s' x' => k σ' v H' s' ((x1.trans x4).trans x')
  · have e5 : i = ds.length := by omega
    subst e5
    rw [List.drop_length] at h2
    cases h2
    exact .inl ⟨(ok ds.length H2 x2).2 rfl, k σ2 H2 s2 (x1.trans x2)⟩
theorem s_while {body : List Stmt} {fb : FS} {n : Nat} (hp : PassesOwn (model X.prog X.w) X.A X.env X.xe) (hc : PT X c (tT G ft)) (hb : PSs X body (tS G fb)) : PS X (.While c body [] pos) (tS G (whileN ft fb n)) := by
  refine PS.le (ps_while hp hc hb) fun D σ H ⟨B, e, fl, e', s, h, k⟩ => ?_
  refine ⟨fun m σ2 H2 => ∃ e, SS G B e σ2 H2 ∧ Ext H H2 ∧ whileN ft fb m e = some (fl, e'), ⟨n, e, s, Ext.refl H, h⟩, ?_⟩
  rintro m σ2 H2 ⟨e2, s2, x2, h2⟩
  cases m with
  | zero => cases h2
  | succ m =>
    obtain ⟨⟨b1, e3⟩, h3, hA⟩ := bnd h2
    refine ⟨B, e2, b1, e3, s2, h3, fun H3 s3 x3 => ?_⟩
    cases b1 with
    | true =>
      refine iteT ⟨fun σ' H' => ∃ e, SS G B e σ' H' ∧ Ext H H' ∧ whileN ft fb m e = some (fl, e'), fun σ' H' z => ⟨m, Nat.lt_succ_self m, z⟩, ?_⟩
      simp only [if_true] at hA
      obtain ⟨⟨fl1, e4⟩, h4, hC⟩ := bnd hA
      refine ⟨B, e3, fl1, e4, s3, h4, ?_⟩
      have x4 := x2.trans x3
      cases fl1 with
      | nx => exact fun σ' H' s' x' => ⟨e4, s', x4.trans x', hC⟩
      | ct => exact fun σ' H' s' x' => ⟨e4, s', x4.trans x', hC⟩
      | bk => cases hC; exact fun σ' H' s' x' => k σ' H' s' (x4.trans x')
      | rt m => cases hC; exact fun σ' v H' s' x' => k σ' v H' s' (x4.trans x')
    | false =>
      refine iteF ?_
      simp only [Bool.false_eq_true, if_false] at hA
      cases hA
      exact k σ2 H3 s3 (x2.trans x3)
end
end VL
end

section
set_option Elab.async false
set_option linter.all false
set_option maxRecDepth 100000
/-! VLh: what is walked. -/
namespace VL
open PySem PySem.Spec L2 VD

/-- enumerate(v) over anything that begins -/
theorem meets_enum1 {v : Value} {o : Obj} {H : Heap → Prop} (B : Begins v o H) :
    Meets (Builtin.«enumerate.__new__» ⟨[.type "enumerate", v], []⟩) (fun _ R s => H s.heap ∧
      R (.ok (.ret (.ref (s.heap.push o).objs.size))) { s with heap := (s.heap.push o).push { cls := .type "enumerate", data := .fields #[.none, .bool false, .ref s.heap.objs.size, rawInt 0, .none, .none] } }) :=
  .of_wp fun prog w A R s h => by
    obtain ⟨hp, g, d, tk, os⟩ := s; obtain ⟨h1, h⟩ := h
    have hsub := sub_enumerate
    have q1 : ∀ {A' : Around} {E : Value → Shared → Prop} {Q : Value → Shared → Prop}, Q (.ref hp.objs.size) ⟨hp.push o, g, d, tk, os⟩ → wpAny (model prog w) A' (pyIter v) Q E ⟨hp, g, d, tk, os⟩ :=
      fun q => B.iter prog w _ _ ⟨hp, g, d, tk, os⟩ _ h1 q
    wp_walk using q1
    refine wpAny_stack_any fun st => wpAny_pure ?_
    split
    · rename_i c _ _ _ _ _
      cases (c == Value.type "enumerate")
      · wp_walk using q1
        exact ⟨_, rfl, h⟩
      · wp_walk using q1
        exact ⟨_, rfl, h⟩
    · wp_walk using q1
      exact ⟨_, rfl, h⟩
section
variable {prog : Program} {w : World} {A : Around} {E : Value → Shared → Prop} {s : Shared}
theorem enum_begins1 {v : Value} {o : Obj} {H : Heap → Prop} {Q : Value → Shared → Prop} (B : Begins v o H) (h1 : H s.heap)
    (h : ∀ h', IsEnum h' (s.heap.objs.size + 1) s.heap.objs.size 0 .none → h'.get? s.heap.objs.size = some o → h'.objs.size = s.heap.objs.size + 2 →
      (∀ b o, s.heap.get? b = some o → h'.get? b = some o) → Q (.ref (s.heap.objs.size + 1)) { s with heap := h' }) :
    wpAny (model prog w) A (call (.type "enumerate") [v]) Q E s := by
  refine callType_new F.called_enumerate (by decide) (F.typeCall_enumerate_1 _) (F.newCall_enumerate_1 _) (fun obj => F.args_object_init_2 obj _) F.entry_enumerate_new
    (meets_enum1 B) ⟨h1, ?_⟩
  have hz : (s.heap.push o).objs.size = s.heap.objs.size + 1 := Heap.size_push ..
  show _ ∧ _
  rw [hz]
  have he : IsEnum ((s.heap.push o).push { cls := .type "enumerate", data := .fields #[.none, .bool false, .ref s.heap.objs.size, rawInt 0, .none, .none] }) (s.heap.objs.size + 1) s.heap.objs.size 0 .none := by
    have := Heap.get?_push_size (s.heap.push o) (o := { cls := .type "enumerate", data := .fields #[.none, .bool false, .ref s.heap.objs.size, rawInt 0, .none, .none] }) rfl
    rw [hz] at this; exact this
  exact ⟨⟨_, he, rfl⟩, h _ he (Heap.get?_push_of_some _ (Heap.get?_push_size _ B.free)) (by rw [Heap.size_push, hz]) fun b o x => Heap.get?_push_of_some _ (Heap.get?_push_of_some _ x)⟩
end

/-! ### sources: a list, a tuple, a text -/
structure SrcI (u : Value) (o : Obj) (Hh : Array Value → Heap → Prop) (base : List Addr) (StI : Addr → Nat → Heap → Prop) (nn : Array Value → Nat) (P : Array Value → Nat → Value → Prop) : Prop where
  beg : ∀ z, Begins u o (Hh z)
  drw : ∀ z (prog : Program) (w : World) (A : Around) it, A.handled = none → it ∉ base → Draws prog w A it (it :: base) (nn z) (P z) (fun i h => StI it i h ∧ Hh z h)
  st0 : ∀ it h, h.get? it = some o → StI it 0 h
  keep : ∀ it i (h h' : Heap), StI it i h → (∀ o, h.get? it = some o → h'.get? it = some o) → StI it i h'
  live : ∀ it i h, StI it i h → ∃ o, h.get? it = some o ∧ ∀ v, o.data ≠ .cell v
  old : ∀ z h, Hh z h → ∀ b ∈ base, ∃ o, h.get? b = some o
theorem src_list (l : Addr) : SrcI (.ref l) { cls := .type "list_iterator", data := .fields #[.ref l, .int 0 0] } (fun z h => h.IsList l z) [l] (fun it i h => h.IsListIter it l i) Array.size (fun z i v => z[i]? = some v) where
  beg := fun z => begins_list l z
  drw := fun z prog w A it hh ni => Draws.list hh it l (fun e => ni (by rw [e]; simp)) z
  st0 := fun it h e => ⟨_, e, rfl, rfl⟩
  keep := fun it i h h' st k => st.at fun o e => k o e
  live := fun it i h st => let ⟨o, e, c, d⟩ := st; ⟨o, e, fun v z => by rw [d] at z; cases z⟩
  old := fun z h hl b hb => by obtain ⟨o, e, _⟩ := hl; rw [List.mem_singleton.mp hb]; exact ⟨o, e⟩
theorem src_tuple (l : Addr) : SrcI (.ref l) { cls := .type "tuple_iterator", data := .fields #[.ref l, .int 0 0] } (fun z h => h.IsTuple l z) [l] (fun it i h => h.IsTupleIter it l i) Array.size (fun z i v => z[i]? = some v) where
  beg := fun z => begins_tuple l z
  drw := fun z prog w A it hh ni => Draws.tuple hh it l (fun e => ni (by rw [e]; simp)) z
  st0 := fun it h e => ⟨_, e, rfl, rfl⟩
  keep := fun it i h h' st k => st.at fun o e => k o e
  live := fun it i h st => let ⟨o, e, c, d⟩ := st; ⟨o, e, fun v z => by rw [d] at z; cases z⟩
  old := fun z h hl b hb => by obtain ⟨o, e, _⟩ := hl; rw [List.mem_singleton.mp hb]; exact ⟨o, e⟩
theorem src_text (x : Str) (t : Tok) : SrcI (.str x t) { cls := .type (strIterType x), data := .fields #[.str x t, .int 0 0] } (fun _ _ => True) [] (fun it i h => h.IsStrIter it (strIterType x) x t i) (fun _ => x.cps.size) (fun _ i v => ∃ c u, x.cps[i]? = some c ∧ v = .str ⟨#[c]⟩ u) where
  beg := fun z => begins_text x t
  drw := fun z prog w A it hh ni => by
    have D := Draws.text (prog := prog) (w := w) hh it x t
    exact ⟨fun i h st => D.live i h st.1, fun i h h' st k => ⟨D.frame i h h' st.1 k, trivial⟩, fun i s Q E hi st hQ => D.item i s Q E hi st.1 fun v h' tk p st' sb => hQ v h' tk p ⟨st', trivial⟩ sb, fun s Q E st hE => D.done s Q E st.1 hE⟩
  st0 := fun it h e => ⟨_, e, rfl, rfl⟩
  keep := fun it i h h' st k => by obtain ⟨o, e, r⟩ := st; exact ⟨o, k o e, r⟩
  live := fun it i h st => let ⟨o, e, c, d⟩ := st; ⟨o, e, fun v z => by rw [d] at z; cases z⟩
  old := fun z h hl b hb => by cases hb

/-- what a datum gives to be walked -/
structure SrcD (P : Program) (w : World) (K : Kx) (ds : List D) (H : Hp) (u : Value) : Prop where
  ex : ∃ (o : Obj) (Hh : Array Value → Heap → Prop) (base : List Addr) (StI : Addr → Nat → Heap → Prop) (nn : Array Value → Nat) (Pv : Array Value → Nat → Value → Prop) (SH : Hp → Prop), SrcI u o Hh base StI nn Pv ∧ SH H ∧ (∀ H H', Ext H H' → SH H → SH H') ∧
    ∀ (X : Cx) (pins : List (Addr × Obj)) (σ : L2.St) (H' : Hp) (s : Shared), X.prog = P → X.w = w → X.K = K.fr → Inv X pins σ H' s → SH H' → ∃ z, Hh z s.heap ∧ nn z = ds.length ∧ ∀ i v, Pv z i v → ∃ d x, ds[i]? = some d ∧ RelV x v ∧ Im K H' d x
theorem vals_at {xs : List V} {us : List Value} {i : Nat} {v : Value} (r : Vals xs us) (h : us.toArray[i]? = some v) : ∃ x, xs[i]? = some x ∧ RelV x v := by
  have hv : us[i]? = some v := by simpa using h
  have hi := (List.getElem?_eq_some_iff.mp hv).1
  rw [← r.length] at hi
  obtain ⟨u, hu, ru⟩ := r.get (List.getElem?_eq_getElem hi)
  rw [hv] at hu
  cases hu
  exact ⟨_, List.getElem?_eq_getElem hi, ru⟩
theorem ImL.back {K : Kx} {H : Hp} {ds : List D} {vs : List V} {i : Nat} {x : V} (h : ImL K H ds vs) (e : vs[i]? = some x) : ∃ d, ds[i]? = some d ∧ Im K H d x := by
  have hi := (List.getElem?_eq_some_iff.mp e).1
  rw [← h.length] at hi
  obtain ⟨v, h1, h2⟩ := h.get (List.getElem?_eq_getElem hi)
  rw [e] at h1
  cases h1
  exact ⟨_, List.getElem?_eq_getElem hi, h2⟩
theorem srcD_of {P : Program} {w : World} {K : Kx} {d : D} {ds : List D} {H : Hp} {v : V} {u : Value} (i : Im K H d v) (r : RelV v u) (e : itemsD d = some ds) : SrcD P w K ds H u := by
  unfold itemsD at e
  split at e
  · cases e
    obtain ⟨a, vs, rfl, h1, h2⟩ := i.tup_
    cases r
    refine ⟨_, _, _, _, _, _, fun H' => H' a = some (.tup vs) ∧ ImL K H' ds vs, src_tuple a, ⟨h1, h2⟩, fun H H' x h => ⟨x.tups _ _ h.1, h.2.ext x⟩, ?_⟩
    intro X pins σ H' s e1 e2 e3 I ⟨g1, g2⟩
    subst e1 e2
    obtain ⟨its, rv, p, hz⟩ := I.tuple (SqT.of g1)
    refine ⟨its.toArray, show Heap.IsTuple _ _ _ from p, by rw [List.size_toArray, ← rv.length, g2.length], fun i v hv => ?_⟩
    obtain ⟨x, hx, rx⟩ := vals_at rv hv
    obtain ⟨d, hd, id⟩ := g2.back hx
    exact ⟨d, x, hd, rx, id⟩
  · cases e
    obtain ⟨a, vs, rfl, h1, h2⟩ := i.lst_
    cases r
    refine ⟨_, _, _, _, _, _, fun H' => FzL K H' a vs ∧ ImL K H' ds vs, src_list a, ⟨h1, h2⟩, fun H H' x h => ⟨h.1.ext x, h.2.ext x⟩, ?_⟩
    intro X pins σ H' s e1 e2 e3 I ⟨g1, g2⟩
    subst e1 e2
    obtain ⟨its, rv, p, hz⟩ := I.list (by rw [e3]; exact g1.sq)
    refine ⟨its.toArray, p.isList, by rw [List.size_toArray, ← rv.length, g2.length], fun i v hv => ?_⟩
    obtain ⟨x, hx, rx⟩ := vals_at rv hv
    obtain ⟨d, hd, id⟩ := g2.back hx
    exact ⟨d, x, hd, rx, id⟩
  · cases e
    rename_i z
    cases i.str_
    obtain ⟨t, rfl⟩ := r
    refine ⟨_, _, _, _, _, _, fun _ => True, src_text (st z) t, trivial, fun _ _ _ h => h, ?_⟩
    intro X pins σ H' s e1 e2 e3 I _
    refine ⟨#[], trivial, by simp [st], fun i v ⟨c, u, hc, hv⟩ => ⟨.str [c], .str (st [c]), ?_, ⟨u, hv⟩, Im.str _⟩⟩
    have hc : z[i]? = some c := by simpa [st] using hc
    rw [List.getElem?_map, hc]
    rfl
  · cases e

/-! ### plain walks -/
section
variable {X : Cx} {G : Gx} {pos : Pos} {a b : Expr} {fa fb : FE} {tg : Expr}
/-- a list, a tuple or a text -/
theorem pi_any {tl : TE} (h : PE X a tl) : PI X tg a (fun σ H R => tl σ H fun x H1 => (∃ p xs, x = .ref p ∧ SqL X.K H1 p xs ∧ R (Itl X.K p) H1) ∨ (∃ p xs, x = .ref p ∧ SqT X.K H1 p xs ∧ R (Itt X.K p) H1) ∨ ∃ z, x = .str z ∧ R (Its z) H1) := by
  refine ⟨fun pins s σ H R I hq => ?_⟩
  refine thn (h.run pins s σ H _ I hq) fun v s1 ⟨x, H1, I1, r1, q1⟩ => ?_
  rcases q1 with ⟨p, xs, rfl, hl, q⟩ | ⟨p, xs, rfl, hl, q⟩ | ⟨z, rfl, q⟩
  · cases r1
    obtain ⟨its, rv, pp, hz⟩ := I1.list hl
    exact wpAny_pyIter_list pp.isList (pi_one (tk := s1.toks) I1 _ (turn_list p _) ⟨_, Heap.get?_push_size _ rfl, rfl, rfl⟩ q)
  · cases r1
    obtain ⟨its, rv, pp, hz⟩ := I1.tuple hl
    exact wpAny_pyIter_tuple (show s1.heap.IsTuple p its.toArray from pp) (pi_one (tk := s1.toks) I1 _ (turn_tuple p _) ⟨_, Heap.get?_push_size _ rfl, rfl, rfl⟩ q)
  · obtain ⟨t, rfl⟩ := r1
    cases ha : z.cps.all (· < 128)
    · exact wpAny_pyIter_wide ha (pi_one (tk := s1.toks) I1 _ (turn_str _ z t "str_iterator" (.inr rfl)) ⟨_, Heap.get?_push_size _ rfl, rfl, rfl⟩ q)
    · exact wpAny_pyIter_ascii ha (pi_one (tk := s1.toks) I1 _ (turn_str _ z t "str_ascii_iterator" (.inl rfl)) ⟨_, Heap.get?_push_size _ rfl, rfl, rfl⟩ q)
theorem i_it (h : PE X a (tV G fa)) (hK : kxOf X = G.K) : PI X tg a (tI G (itF fa)) := by
  refine PI.le (pi_any h) fun σ H R ⟨B, e, ds, e', s, h, k⟩ => ?_
  rw [frK hK]
  obtain ⟨⟨d, e1⟩, h1, hA⟩ := bnd h
  obtain ⟨xs, h2, hB⟩ := mpd hA
  cases hB
  refine ⟨B, e, d, e1, s, h1, fun v H1 s1 i1 x1 => ?_⟩
  cases d with
  | tup ys =>
    cases h2
    obtain ⟨p, vs, rfl, g1, g2⟩ := i1.tup_
    refine .inr (.inl ⟨p, vs, rfl, SqT.of g1, k _ H1 s1 x1 fun i H2 x2 => ⟨fun d hd => ?_, fun e => ⟨vs, SqT.of (x2.tups _ _ g1), by rw [← g2.length]; exact Nat.le_of_eq e.symm⟩⟩⟩)
    obtain ⟨v, h3, h4⟩ := g2.get hd
    exact ⟨⟨vs, v, SqT.of (x2.tups _ _ g1), h3⟩, fun x H' ⟨e1, e2⟩ => by
      subst e1
      have := e2 vs (SqT.of (x2.tups _ _ g1))
      rw [h3] at this
      cases this
      exact ⟨Grow.refl _, h4.ext x2⟩⟩
  | lst ys =>
    cases h2
    obtain ⟨p, vs, rfl, g1, g2⟩ := i1.lst_
    refine .inl ⟨p, vs, rfl, g1.sq, k _ H1 s1 x1 fun i H2 x2 => ⟨fun d hd => ?_, fun e => ⟨vs, (g1.ext x2).sq, by rw [← g2.length]; exact Nat.le_of_eq e.symm⟩⟩⟩
    obtain ⟨v, h3, h4⟩ := g2.get hd
    exact ⟨⟨vs, v, (g1.ext x2).sq, h3⟩, fun x H' ⟨e1, e2⟩ => by
      subst e1
      have := e2 vs (g1.ext x2).sq
      rw [h3] at this
      cases this
      exact ⟨Grow.refl _, h4.ext x2⟩⟩
  | str z =>
    cases h2
    cases i1.str_
    refine .inr (.inr ⟨st z, rfl, k _ H1 s1 x1 fun i H2 x2 => ⟨fun d hd => ?_, fun e => ?_⟩⟩)
    · rw [List.getElem?_map] at hd
      obtain ⟨c, hc, rfl⟩ := Option.map_eq_some_iff.mp hd
      have hi := (List.getElem?_eq_some_iff.mp hc).1
      refine ⟨by show i < (st z).cps.size; simpa [st] using hi, fun x H' ⟨e1, c', hc', e2⟩ => ?_⟩
      subst e1 e2
      have hc' : z[i]? = some c' := by simpa [st] using hc'
      rw [hc] at hc'
      cases hc'
      exact ⟨Grow.refl _, Im.str _⟩
    · show (st z).cps.size ≤ i
      rw [e]
      simp [st]
  | _ => cases h2
theorem upto_get : ∀ (n : Nat) (lo : Int) (i : Nat) (d : D), (upto lo n)[i]? = some d → i < n ∧ d = .int (lo + i)
  | 0, lo, i, d, h => by simp [upto] at h
  | n + 1, lo, 0, d, h => by simp [upto] at h; subst h; simp
  | n + 1, lo, i + 1, d, h => by
    obtain ⟨h1, h2⟩ := upto_get n (lo + 1) i d (by simpa [upto] using h)
    exact ⟨by omega, by rw [h2]; congr 1; push_cast; omega⟩
theorem upto_length : ∀ (n : Nat) (lo : Int), (upto lo n).length = n
  | 0, _ => rfl
  | n + 1, lo => by simp [upto, upto_length n]
theorem itr_ok {K : Kx} {H1 : Hp} (lo : Int) (n : Nat) : ItOk K H1 (Itr lo n) (upto lo n) := fun i H x => ⟨fun d hd => by
  obtain ⟨h1, rfl⟩ := upto_get n lo i d hd
  exact ⟨h1, fun x H' ⟨e1, e2⟩ => by subst e1 e2; exact ⟨Grow.refl _, Im.int _⟩⟩, fun e => by rw [upto_length] at e; exact Nat.le_of_eq e.symm⟩
theorem two62_eq : two62 = 2 ^ 62 := by decide
theorem i_rng1 {p : Pos} (hg : Gl X "range") (hm : X.mg "range" = none) (h : PE X a (tV G fa)) (hs : starEach [a] X.env = [(false, eval a X.env)] := by rfl) : PI X tg (.Call (.Name "range" p) [a] [] pos) (tI G (rng1 fa)) := by
  refine PI.le (pi_range1 hg hm (pa_cons h pa_nil hs) hs) fun σ H R ⟨B, e, ds, e', s, h, k⟩ => ?_
  obtain ⟨⟨d, e1⟩, h1, hA⟩ := bnd h
  cases d with
  | int j =>
    obtain ⟨⟨hl, hh⟩, hB⟩ := iff_some hA
    cases hB
    rw [two62_eq] at hl hh
    refine ⟨B, e, _, e1, s, h1, fun v H1 s1 i1 x1 => ⟨j, by rw [i1.int_], hl, hh, k _ H1 s1 x1 (itr_ok 0 j.toNat)⟩⟩
  | _ => cases hA
theorem i_rng2 {p : Pos} (hg : Gl X "range") (hm : X.mg "range" = none) (ha : PE X a (tV G fa)) (hb : PE X b (tV G fb)) (hs : starEach [a, b] X.env = [(false, eval a X.env), (false, eval b X.env)] := by rfl) (hs2 : starEach [b] X.env = [(false, eval b X.env)] := by rfl) :
    PI X tg (.Call (.Name "range" p) [a, b] [] pos) (tI G (rng2 fa fb)) := by
  refine PI.le (pi_range2 hg hm (pa_cons ha (pa_cons hb pa_nil hs2) (by rw [hs, hs2])) hs hs2) fun σ H R ⟨B, e, ds, e', s, h, k⟩ => ?_
  obtain ⟨⟨d, e1⟩, h1, hA⟩ := bnd h
  obtain ⟨⟨d2, e2⟩, h2, hB⟩ := bnd hA
  cases d with
  | int i =>
    cases d2 with
    | int j =>
      obtain ⟨⟨h3, h4, h5, h6⟩, hC⟩ := iff_some hB
      cases hC
      rw [two62_eq] at h3 h4 h5 h6
      exact ⟨B, e, _, e1, s, h1, fun v H1 s1 i1 x1 => ⟨B, e1, _, e2, s1, h2, fun w H2 s2 i2 x2 => ⟨i, j, by rw [i1.int_, i2.int_], ⟨h3, h4, h5, h6⟩, k _ H2 s2 (x1.trans x2) (itr_ok i (j - i).toNat)⟩⟩⟩
    | _ => cases hB
  | _ => cases hB
end
end VL
end

section
set_option Elab.async false
set_option linter.all false
set_option maxRecDepth 100000
/-! VLi: enumerate, zip. -/
namespace VL
open PySem PySem.Spec L2 VD
open PyProof.Rows (Call_ boot_enumerate boot_zip)

/-- an iterator that hands out new tuples, by its own cells and by what is read besides -/
theorem turn_goes {P : Program} {w : World} {K : PySem.W.Frag} {tg : Expr} {I : Addr} {wr own : List Addr} {ι : Type} {nn : ι → Nat} {n : Nat} {Y : ι → Nat → Heap → Value → Heap → Prop} {StI : Nat → Heap → Prop} {src : ι → Heap → Prop} {fpS : ι → List Addr} {SH : Hp → Prop} {yl : Nat → Hp → List V → Prop} {gd : Hp → ι → Prop}
    (W : ∀ z (A : Around), A.handled = none → GoesN P w A tg I (fpS z) wr (nn z) (Y z) (fun i h => StI i h ∧ src z h))
    (hI : I ∈ own) (sub : ∀ b ∈ wr, b ∈ own)
    (obj : ∀ i h, StI i h → ∀ b ∈ own, ∃ o, h.get? b = some o ∧ ∀ v, o.data ≠ .cell v)
    (kp : ∀ i (h h' : Heap), StI i h → (∀ b ∈ own, ∀ o, h.get? b = some o → h'.get? b = some o) → StI i h')
    (hsrc : ∀ (X : Cx) (pins : List (Addr × Obj)) (σ : L2.St) (H' : Hp) (s : Shared), X.prog = P → X.w = w → X.K = K → Inv X pins σ H' s → SH H' → ∃ z, src z s.heap ∧ nn z = n ∧ gd H' z)
    (hy : ∀ z i h0 v h H, gd H z → Y z i h0 v h → ∃ T us xs, v = .ref T ∧ h0.objs.size ≤ T ∧ h.IsTuple T us ∧ Vals xs us.toList ∧ xs.length ≤ sizeLine ∧ yl i H xs ∧ ∀ b ∈ own, b < h0.objs.size → b ≠ T)
    (self : ∀ (A : Around) (i : Nat) (s : Shared) (Q : Value → Shared → Prop) (E : Value → Shared → Prop), StI i s.heap → Q (.ref I) s → wpAny (model P w) A (pyIter (.ref I)) Q E s) :
    Turn P w K tg ⟨fun i H => i < n ∧ SH H, fun i H x H' => ∃ T xs, x = .ref T ∧ H T = none ∧ H' = upd H T (.tup xs) ∧ yl i H xs, fun i H => i = n ∧ SH H⟩ own I StI where
  mem := hI
  obj := obj
  keep := kp
  item := by
    intro X hP hw hK hc i pins s σ H E I' hf st hg
    obtain ⟨z, hz, hn, hgd⟩ := hsrc X pins σ H s hP hw hK I' hg.2
    have hf' : ∀ b ∈ wr, FpOk X pins H b := fun b hb => hf b (sub b hb)
    have big : ∀ b ∈ own, b < s.heap.objs.size := fun b hb => by
      obtain ⟨o, e, _⟩ := obj i _ st b hb
      exact Heap.lt_size e
    have ho : ∀ b ∈ own, H b = none := fun b hb => (hf b hb).1
    refine wpAny_mono ((W z X.A (I'.ok.hd hc)).goes i s (fun v s₂ => ∃ x H', Inv X pins σ H' s₂ ∧ RelV x v ∧ (∃ T xs, x = .ref T ∧ H T = none ∧ H' = upd H T (.tup xs) ∧ yl i H xs) ∧ StI (i + 1) s₂.heap ∧ ∀ b ∈ own, H' b = none) E (by rw [hn]; exact hg.1) ⟨st, hz⟩ fun v h' tk hY st' hk htk => ?_) (fun r s1 ⟨v, e, hq⟩ => ⟨v, e, hq⟩) fun _ _ e => e
    obtain ⟨T, us, xs, rfl, hT, hIT, rv, hl, hyl, hne⟩ := hy z i s.heap v h' H hgd hY
    have hn0 : H T = none := I'.hok.fresh hT
    subst hP hw
    have I2 : Inv X pins σ (upd H T (.tup xs)) { s with heap := h', toks := tk } := I'.turnedNew (ch := wr) hk hf' hT ⟨hl, us.toList, rv, by
      obtain ⟨o, e1, e2, m, e3⟩ := hIT
      exact ⟨o, e1, e2, m, by simpa using e3⟩⟩
    exact ⟨.ref T, _, I2, rfl, ⟨T, xs, rfl, hn0, rfl, hyl⟩, st'.1, fun b hb => by rw [upd_ne (hne b hb (big b hb))]; exact ho b hb⟩
  done := by
    intro X hP hw hK hc i pins s σ H E I' hf st hg
    obtain ⟨z, hz, hn, hgd⟩ := hsrc X pins σ H s hP hw hK I' hg.2
    have hf' : ∀ b ∈ wr, FpOk X pins H b := fun b hb => hf b (sub b hb)
    have st' : StI (nn z) s.heap := by rw [hn, ← hg.1]; exact st
    refine wpAny_mono ((W z X.A (I'.ok.hd hc)).stops s (fun s₁ => Inv X pins σ H s₁) E ⟨st', hz⟩ fun h' tk hk htk => ?_) (fun r s1 h => h) fun _ _ e => e
    exact I'.turnedL (t' := tk) hk hf'
  self := self
theorem goesN_st {P : Program} {w : World} {A : Around} {tg : Expr} {I : Addr} {fp wr : List Addr} {n : Nat} {Y : Nat → Heap → Value → Heap → Prop} {St St' : Nat → Heap → Prop} (e : ∀ i h, St i h ↔ St' i h) (W : GoesN P w A tg I fp wr n Y St) : GoesN P w A tg I fp wr n Y St' := by
  have : St = St' := by funext i h; exact propext (e i h)
  rw [← this]
  exact W
theorem vals2_of {a b : V} {u v : Value} (h1 : RelV a u) (h2 : RelV b v) : Vals [a, b] (#[u, v] : Array Value).toList := .cons h1 (.cons h2 .nil)
theorem numd_get : ∀ (ds : List D) (lo : Int) (i : Nat), (numd lo ds)[i]? = (ds[i]?).map fun d => .tup [.int (lo + i), d]
  | [], lo, i => by simp [numd]
  | d :: ds, lo, 0 => by simp [numd]
  | d :: ds, lo, i + 1 => by
    have := numd_get ds (lo + 1) i
    simp only [numd, List.getElem?_cons_succ]
    rw [this]
    congr 1
    funext d
    have e : lo + 1 + (i : Int) = lo + ((i + 1 : Nat) : Int) := by omega
    rw [e]
theorem numd_length : ∀ (ds : List D) (lo : Int), (numd lo ds).length = ds.length
  | [], lo => rfl
  | d :: ds, lo => by simp [numd, numd_length ds]
theorem zipL_get : ∀ (xs ys : List D) (i : Nat), (zipL xs ys)[i]? = (xs[i]?).bind fun x => (ys[i]?).map fun y => .tup [x, y]
  | [], ys, i => by simp [zipL]
  | x :: xs, [], i => by cases i <;> simp [zipL]
  | x :: xs, y :: ys, 0 => by simp [zipL]
  | x :: xs, y :: ys, i + 1 => by simpa [zipL] using zipL_get xs ys i
theorem zipL_length : ∀ (xs ys : List D), (zipL xs ys).length = min xs.length ys.length
  | [], ys => by simp [zipL]
  | x :: xs, [] => by simp [zipL]
  | x :: xs, y :: ys => by simp [zipL, zipL_length xs ys]
section
variable {X : Cx} {G : Gx} {pos : Pos} {a b : Expr} {fa fb : FE}
theorem i_enum {elts : List Expr} {kk : Nat} {p tpos : Pos} (hg : Gl X "enumerate") (hm : X.mg "enumerate" = none) (ha : PE X a (tV G fa)) (hK : kxOf X = G.K) (hs : starEach [a] X.env = [(false, eval a X.env)] := by rfl) :
    PI X (.Tuple elts kk tpos) (.Call (.Name "enumerate" p) [a] [] pos) (tI G (enumF fa)) := by
  refine ⟨fun pins s σ H R I hq => ?_⟩
  obtain ⟨B, e, ds0, e', ss, h, k⟩ := hq
  obtain ⟨⟨d, e1⟩, h1, hA⟩ := bnd h
  obtain ⟨ds, h2, hB⟩ := mpd hA
  cases hB
  refine Call_ (ld_blt I hg hm boot_enumerate (PyProof.Rows.callWith_type1 (thn ((pa_cons ha pa_nil hs).run pos pins s σ H (fun vs H1 => ∃ v, vs = [v] ∧ SS G B e1 σ H1 ∧ Im G.K H1 d v ∧ Ext H H1) I ⟨B, e, d, e1, ss, h1, fun v H1 s1 i1 x1 => ⟨v, rfl, s1, i1, x1⟩⟩) fun us s1 ⟨vs, H1, I1, r1, v, ev, s2, i1, x1⟩ => ?_) hs rfl))
  subst ev
  cases r1 with
  | cons r rr =>
    cases rr
    rename_i u
    obtain ⟨o, Hh, base, StI, nn, Pv, SH, S, sh, shx, get⟩ := (srcD_of (P := X.prog) (w := X.w) i1 r h2).ex
    obtain ⟨z0, hz0, hn0, hp0⟩ := get X pins σ H1 s1 rfl rfl (frK hK) I1 sh
    refine enum_begins1 (S.beg z0) hz0 fun h' he hit hsz hk => wpAny_pyIter_enum he ?_
    have I2 : Inv X pins σ H1 { s1 with heap := h' } := I1.kept (t' := s1.toks) hk
    have nb : s1.heap.objs.size ∉ base := fun hm => by
      obtain ⟨o', e'⟩ := S.old z0 _ hz0 _ hm
      exact absurd (Heap.lt_size e') (Nat.lt_irrefl _)
    have nb2 : s1.heap.objs.size + 1 ∉ base := fun hm => by
      obtain ⟨o', e'⟩ := S.old z0 _ hz0 _ hm
      exact absurd (Nat.lt_trans (Nat.lt_succ_self _) (Heap.lt_size e')) (Nat.lt_irrefl _)
    have hne : s1.heap.objs.size + 1 ≠ s1.heap.objs.size := Nat.succ_ne_self _
    have T := turn_goes (P := X.prog) (w := X.w) (K := X.K) (tg := .Tuple elts kk tpos) (I := s1.heap.objs.size + 1) (wr := [s1.heap.objs.size + 1, s1.heap.objs.size]) (own := [s1.heap.objs.size + 1, s1.heap.objs.size]) (nn := nn) (n := ds.length)
      (StI := fun i h => (∃ old, IsEnum h (s1.heap.objs.size + 1) s1.heap.objs.size (0 + (i : Int)) old) ∧ StI s1.heap.objs.size i h) (src := Hh) (SH := SH) (yl := fun i H xs => ∃ d x, ds[i]? = some d ∧ Im G.K H d x ∧ xs = [.int (i : Int), x]) (gd := fun H' z => ∀ i v, Pv z i v → ∃ d x, ds[i]? = some d ∧ RelV x v ∧ Im G.K H' d x)
      (fun z A hA => goesN_st (fun i h => and_assoc.symm) (GoesN.enumFrom 0 (S.drw z X.prog X.w A.in1 s1.heap.objs.size hA nb) (s1.heap.objs.size + 1) hne (fun z => (List.mem_cons.mp z).elim hne nb2) (by simp))) (by simp) (fun b hb => hb) ?_ ?_ ?_ ?_ ?_
    · refine ⟨s1.heap.objs.size + 1, _, _, _, H1, rfl, I2, T, ⟨⟨.none, by simpa using he⟩, S.st0 _ _ hit⟩, fun b hb => ?_, k _ H1 s2 x1 fun i H2 x2 => ⟨fun d' hd => ?_, fun e => ⟨by rw [e, numd_length], shx _ _ x2 sh⟩⟩⟩
      · have hle : s1.heap.objs.size ≤ b := by
          rcases List.mem_cons.mp hb with z | z
          · rw [z]; exact Nat.le_succ _
          · rw [List.mem_singleton.mp z]; exact Nat.le_refl _
        exact I1.fpOk hle (I1.hok.fresh hle)
      · rw [numd_get] at hd
        obtain ⟨d0, hd0, rfl⟩ := Option.map_eq_some_iff.mp hd
        refine ⟨⟨(List.getElem?_eq_some_iff.mp hd0).1, shx _ _ x2 sh⟩, ?_⟩
        rintro x H' ⟨T, xs, rfl, hT, rfl, d1, y, hd1, iy, rfl⟩
        rw [hd0] at hd1
        cases hd1
        refine ⟨Grow.new hT, Im.newTup hT (ImL.cons ?_ (ImL.cons iy ImL.nil))⟩
        rw [Int.zero_add]
        exact Im.int _
    · intro i h st b hb
      rcases List.mem_cons.mp hb with z | z
      · obtain ⟨⟨old, q⟩, _⟩ := st
        rw [z]; exact ⟨_, q, fun v q => nomatch q⟩
      · rw [List.mem_singleton.mp z]
        exact S.live _ i h st.2
    · intro i h h' st kk
      exact ⟨let ⟨old, q⟩ := st.1; ⟨old, kk _ (by simp) _ q⟩, S.keep _ i h h' st.2 fun o e => kk _ (by simp) o e⟩
    · intro X' pins' σ' H' s' e1 e2 e3 I' hh
      exact get X' pins' σ' H' s' e1 e2 (e3.trans (frK hK)) I' hh
    · rintro z i h0 v h H' hgd ⟨T, t, x, rfl, hT, hP, hIT⟩
      obtain ⟨d, y, hd, ry, iy⟩ := hgd i x hP
      refine ⟨T, _, [.int (i : Int), y], rfl, hT, hIT, vals2_of ⟨t, by rw [Int.zero_add]⟩ ry, by show 2 ≤ sizeLine; decide, ⟨d, y, hd, iy, rfl⟩, fun b _ hb e => ?_⟩
      rw [e] at hb
      exact absurd (Nat.lt_of_lt_of_le hb hT) (Nat.lt_irrefl _)
    · intro A i s Q E st h
      obtain ⟨⟨old, q⟩, _⟩ := st
      exact wpAny_pyIter_enum q h
theorem i_zip {elts : List Expr} {kk : Nat} {p tpos : Pos} (hg : Gl X "zip") (hm : X.mg "zip" = none) (ha : PE X a (tV G fa)) (hb : PE X b (tV G fb)) (hK : kxOf X = G.K) (hs : starEach [a, b] X.env = (false, eval a X.env) :: starEach [b] X.env := by rfl) (hs2 : starEach [b] X.env = (false, eval b X.env) :: starEach [] X.env := by rfl) (hpl : (backTo pos (starEach [b] X.env)).any (·.1) = false := by rfl) :
    PI X (.Tuple elts kk tpos) (.Call (.Name "zip" p) [a, b] [] pos) (tI G (zipF fa fb)) := by
  refine ⟨fun pins s σ H R I hq => ?_⟩
  obtain ⟨B, e, ds0, e', ss, h, k⟩ := hq
  obtain ⟨⟨d1, e1⟩, h1, hA⟩ := bnd h
  obtain ⟨⟨d2, e2⟩, h2, hB⟩ := bnd hA
  obtain ⟨xs, h3, hC⟩ := bnd hB
  obtain ⟨ys, h4, hD⟩ := mpd hC
  cases hD
  refine Call_ (ld_blt I hg hm boot_zip (PyProof.Rows.callWith_type1 (thn ((pa_cons ha (pa_cons hb pa_nil hs2) hs).run pos pins s σ H (fun vs H1 => ∃ v w, vs = [v, w] ∧ SS G B e2 σ H1 ∧ Im G.K H1 d1 v ∧ Im G.K H1 d2 w ∧ Ext H H1) I
    ⟨B, e, d1, e1, ss, h1, fun v H1 s1 i1 x1 => ⟨B, e1, d2, e2, s1, h2, fun w H2 s2 i2 x2 => ⟨v, w, rfl, s2, i1.ext x2, i2, x1.trans x2⟩⟩⟩) fun us s1 ⟨vs, H1, I1, r1, v, w, ev, s2, i1, i2, x1⟩ => ?_) hs hpl))
  subst ev
  cases r1 with
  | cons r rr =>
    cases rr with
    | cons r' rr =>
    cases rr
    obtain ⟨o1, Hh1, base1, StI1, nn1, Pv1, SH1, S1, sh1, shx1, get1⟩ := (srcD_of (P := X.prog) (w := X.w) i1 r h3).ex
    obtain ⟨o2, Hh2, base2, StI2, nn2, Pv2, SH2, S2, sh2, shx2, get2⟩ := (srcD_of (P := X.prog) (w := X.w) i2 r' h4).ex
    obtain ⟨z1, hz1, hn1, hp1⟩ := get1 X pins σ H1 s1 rfl rfl (frK hK) I1 sh1
    obtain ⟨z2, hz2, hn2, hp2⟩ := get2 X pins σ H1 s1 rfl rfl (frK hK) I1 sh2
    refine zip_begins2 (S1.beg z1) (S2.beg z2) hz1 hz2 fun h' hz hTI hTO hi1 hi2 hsz hk => wpAny_pyIter_zip hz ?_
    have I2 : Inv X pins σ H1 { s1 with heap := h' } := I1.kept (t' := s1.toks) hk
    have l1 : ∀ b ∈ base1, b < s1.heap.objs.size := fun b hb => let ⟨o', e'⟩ := S1.old z1 _ hz1 b hb; Heap.lt_size e'
    have l2 : ∀ b ∈ base2, b < s1.heap.objs.size := fun b hb => let ⟨o', e'⟩ := S2.old z2 _ hz2 b hb; Heap.lt_size e'
    have nb1 : s1.heap.objs.size ∉ base1 := fun hm => absurd (l1 _ hm) (Nat.lt_irrefl _)
    have nb2 : s1.heap.objs.size + 1 ∉ base2 := fun hm => absurd (Nat.lt_trans (Nat.lt_succ_self _) (l2 _ hm)) (Nat.lt_irrefl _)
    have W : ∀ (z : Array Value × Array Value) (A : Around), A.handled = none → GoesN X.prog X.w A (.Tuple elts kk tpos) _ _ _ _ _ (fun i h => (IsZip h (s1.heap.objs.size + 4) (s1.heap.objs.size + 2) (s1.heap.objs.size + 3) .none ∧ IsTupOf2 h (s1.heap.objs.size + 2) (.ref s1.heap.objs.size) (.ref (s1.heap.objs.size + 1)) ∧ (∃ a1 a2, IsTupOf2 h (s1.heap.objs.size + 3) a1 a2) ∧ StI1 s1.heap.objs.size i h ∧ StI2 (s1.heap.objs.size + 1) i h) ∧ Hh1 z.1 h ∧ Hh2 z.2 h) := fun z A hA =>
      goesN_st (fun i h => by
        constructor
        · rintro ⟨a, b, c, ⟨d, e⟩, f, g⟩; exact ⟨⟨a, b, c, d, f⟩, e, g⟩
        · rintro ⟨⟨a, b, c, d, f⟩, e, g⟩; exact ⟨a, b, c, ⟨d, e⟩, f, g⟩)
        (GoesN.zip2 (zip_sep2 l1 l2) (S1.drw z.1 X.prog X.w A.in1 s1.heap.objs.size hA nb1) (S2.drw z.2 X.prog X.w A.in1 (s1.heap.objs.size + 1) hA nb2))
    have T := turn_goes (P := X.prog) (w := X.w) (K := X.K) (tg := .Tuple elts kk tpos) (ι := Array Value × Array Value) (I := s1.heap.objs.size + 4) (wr := [s1.heap.objs.size + 4, s1.heap.objs.size + 3, s1.heap.objs.size, s1.heap.objs.size + 1])
      (own := [s1.heap.objs.size + 4, s1.heap.objs.size + 2, s1.heap.objs.size + 3, s1.heap.objs.size, s1.heap.objs.size + 1]) (nn := fun z => min (nn1 z.1) (nn2 z.2)) (n := min xs.length ys.length)
      (StI := fun i h => IsZip h (s1.heap.objs.size + 4) (s1.heap.objs.size + 2) (s1.heap.objs.size + 3) .none ∧ IsTupOf2 h (s1.heap.objs.size + 2) (.ref s1.heap.objs.size) (.ref (s1.heap.objs.size + 1)) ∧ (∃ a1 a2, IsTupOf2 h (s1.heap.objs.size + 3) a1 a2) ∧ StI1 s1.heap.objs.size i h ∧ StI2 (s1.heap.objs.size + 1) i h)
      (src := fun z h => Hh1 z.1 h ∧ Hh2 z.2 h) (SH := fun H => SH1 H ∧ SH2 H) (yl := fun i H vs => ∃ d x d' x', xs[i]? = some d ∧ Im G.K H d x ∧ ys[i]? = some d' ∧ Im G.K H d' x' ∧ vs = [x, x'])
      (gd := fun H' z => (∀ i v, Pv1 z.1 i v → ∃ d x, xs[i]? = some d ∧ RelV x v ∧ Im G.K H' d x) ∧ ∀ i v, Pv2 z.2 i v → ∃ d x, ys[i]? = some d ∧ RelV x v ∧ Im G.K H' d x)
      (fun z A hA => W z A hA) (by simp) (fun b hb => by simp only [List.mem_cons, List.not_mem_nil, or_false] at hb ⊢; rcases hb with z | z | z | z <;> simp [z]) ?_ ?_ ?_ ?_ ?_
    · refine ⟨s1.heap.objs.size + 4, _, _, _, H1, rfl, I2, T, ⟨hz, hTI, ⟨_, _, hTO⟩, S1.st0 _ _ hi1, S2.st0 _ _ hi2⟩, fun b hb => ?_, k _ H1 s2 x1 fun i H2 x2 => ⟨fun d' hd => ?_, fun e => ⟨by rw [e, zipL_length], shx1 _ _ x2 sh1, shx2 _ _ x2 sh2⟩⟩⟩
      · have hle : s1.heap.objs.size ≤ b := by
          simp only [List.mem_cons, List.not_mem_nil, or_false] at hb
          rcases hb with z | z | z | z | z <;> rw [z]
          · exact Nat.le_add_right _ _
          · exact Nat.le_add_right _ _
          · exact Nat.le_add_right _ _
          · exact Nat.le_refl _
          · exact Nat.le_add_right _ _
        exact I1.fpOk hle (I1.hok.fresh hle)
      · rw [zipL_get] at hd
        obtain ⟨a0, ha0, hd⟩ := bnd hd
        obtain ⟨b0, hb0, rfl⟩ := Option.map_eq_some_iff.mp hd
        have q1 := (List.getElem?_eq_some_iff.mp ha0).1
        have q2 := (List.getElem?_eq_some_iff.mp hb0).1
        refine ⟨⟨by omega, shx1 _ _ x2 sh1, shx2 _ _ x2 sh2⟩, ?_⟩
        rintro x H' ⟨T, vs, rfl, hT, rfl, d1, y, d2, y', hd1, iy, hd2, iy', rfl⟩
        rw [ha0] at hd1
        rw [hb0] at hd2
        cases hd1
        cases hd2
        exact ⟨Grow.new hT, Im.newTup hT (ImL.cons iy (ImL.cons iy' ImL.nil))⟩
    · intro i h st b hb
      obtain ⟨q1, q2, ⟨a1, a2, q3⟩, q4, q5⟩ := st
      simp only [List.mem_cons, List.not_mem_nil, or_false] at hb
      rcases hb with z | z | z | z | z <;> rw [z]
      · exact ⟨_, q1, fun v q => nomatch q⟩
      · exact ⟨_, q2, fun v q => nomatch q⟩
      · exact ⟨_, q3, fun v q => nomatch q⟩
      · exact S1.live _ i h q4
      · exact S2.live _ i h q5
    · intro i h h' st kk
      obtain ⟨q1, q2, ⟨a1, a2, q3⟩, q4, q5⟩ := st
      exact ⟨kk _ (by simp) _ q1, kk _ (by simp) _ q2, ⟨a1, a2, kk _ (by simp) _ q3⟩, S1.keep _ i h h' q4 fun o e => kk _ (by simp) o e, S2.keep _ i h h' q5 fun o e => kk _ (by simp) o e⟩
    · intro X' pins' σ' H' s' e1 e2 e3 I' hh
      obtain ⟨y1, g1, g2, g3⟩ := get1 X' pins' σ' H' s' e1 e2 (e3.trans (frK hK)) I' hh.1
      obtain ⟨y2, g4, g5, g6⟩ := get2 X' pins' σ' H' s' e1 e2 (e3.trans (frK hK)) I' hh.2
      exact ⟨(y1, y2), ⟨g1, g4⟩, by show min (nn1 y1) (nn2 y2) = _; rw [g2, g5], g3, g6⟩
    · rintro z i h0 v h H' ⟨hgd1, hgd2⟩ ⟨T, x, y, rfl, hT, hP1, hP2, hIT⟩
      obtain ⟨d, a0, hd, ry, iy⟩ := hgd1 i x hP1
      obtain ⟨d', a0', hd', ry', iy'⟩ := hgd2 i y hP2
      refine ⟨T, _, [a0, a0'], rfl, hT, hIT, vals2_of ry ry', by show 2 ≤ sizeLine; decide, ⟨d, a0, d', a0', hd, iy, hd', iy', rfl⟩, fun b _ hb e => ?_⟩
      rw [e] at hb
      exact absurd (Nat.lt_of_lt_of_le hb hT) (Nat.lt_irrefl _)
    · intro A i s Q E st h
      exact wpAny_pyIter_zip st.1 h
end
end VL
end

section
set_option Elab.async false
set_option linter.all false
set_option maxRecDepth 100000
/-! VLj: list comprehensions. -/
namespace VL
open PySem PySem.Spec L2 VD
section
variable {G : Gx} {B : Bx} {e : En} {σ : L2.St} {H H' : Hp}
theorem SS.forget' {i : Nat} (s : SS G B e σ H) (w : Option V) (np : i ∉ G.Pr) : SS G B (e.set i none) (σ.set i w) H := by
  by_cases hi : i < e.length
  · exact s.forget hi w np
  · rw [List.set_eq_of_length_le (by omega), List.set_eq_of_length_le (by rw [← s.len]; omega)]
    exact s
theorem SS.wipe (s : SS G B e σ H) : ∀ (own : List Nat), (∀ i ∈ own, i ∉ G.Pr) → SS G B (wipeE e own) (L2.wipe σ own) H
  | [], _ => s
  | i :: is, h => SS.forget' (SS.wipe s is fun j hj => h j (List.mem_cons_of_mem _ hj)) none (h i List.mem_cons_self)
theorem wipe_get {σ : L2.St} {j : Nat} : ∀ {own : List Nat}, j ∉ own → (L2.wipe σ own)[j]? = σ[j]?
  | [], _ => rfl
  | i :: is, h => by
    unfold L2.wipe
    rw [List.getElem?_set_ne fun z => h (by rw [z]; exact List.mem_cons_self)]
    exact wipe_get fun z => h (List.mem_cons_of_mem _ z)
theorem wipe_in {σ : L2.St} {j : Nat} : ∀ {own : List Nat}, j ∈ own → j < σ.length → (L2.wipe σ own)[j]? = some none
  | i :: is, h, hl => by
    unfold L2.wipe
    by_cases e : i = j
    · subst e
      rw [List.getElem?_set_self (by rw [wipe_length]; exact hl)]
    · rw [List.getElem?_set_ne e]
      rcases List.mem_cons.mp h with z | z
      · exact absurd z.symm e
      · exact wipe_in z hl
theorem wipe_agree {own : List Nat} {σ σ' : L2.St} (h : Agree own (L2.wipe σ own) σ') : L2.wipe σ' own = L2.wipe σ own := by
  have hl : σ'.length = σ.length := by rw [h.len, wipe_length]
  refine List.ext_getElem? fun j => ?_
  by_cases hj : j ∈ own
  · by_cases hlt : j < σ.length
    · rw [wipe_in hj (by rw [hl]; exact hlt), wipe_in hj hlt]
    · rw [List.getElem?_eq_none (by rw [wipe_length]; omega), List.getElem?_eq_none (by rw [wipe_length]; omega)]
  · rw [wipe_get hj, h.eq j hj]
theorem Agree.mono {sl own : List Nat} {σ σ' : L2.St} (h : Agree sl σ σ') (k : ∀ j ∈ sl, j ∈ own) : Agree own σ σ' := ⟨h.len, fun j hj => h.eq j fun z => hj (k j z)⟩
/-- back from a comprehension -/
theorem SS.resume {e0 : En} : ∀ {own : List Nat} {e : En} {σ : L2.St}, SS G B e (L2.wipe σ own) H → own.Nodup → (∀ i ∈ own, i ∉ G.Pr) → (∀ i ∈ own, ∀ d, slot e0 i = some (.imm d) → ∃ v, σ[i]? = some (some v) ∧ Im G.K H d v) → SS G B (backE e0 e own) σ H
  | [], e, σ, s, _, _, _ => s
  | i :: is, e, σ, s, nd, np, im => by
    obtain ⟨n1, n2⟩ := List.nodup_cons.mp nd
    refine SS.resume (own := is) ?_ n2 (fun j hj => np j (List.mem_cons_of_mem _ hj)) fun j hj => im j (List.mem_cons_of_mem _ hj)
    have hw : (L2.wipe σ is).set i ((σ[i]?).getD none) = L2.wipe σ is := by
      have q := wipe_get (σ := σ) n1
      by_cases hi : i < σ.length
      · have hi' : i < (L2.wipe σ is).length := by rw [wipe_length]; exact hi
        have e1 : (σ[i]?).getD none = (L2.wipe σ is)[i] := by
          rw [← q, List.getElem?_eq_getElem hi']
          rfl
        rw [e1]
        exact List.set_getElem_self hi'
      · exact List.set_eq_of_length_le (by rw [wipe_length]; omega)
    have s' : SS G B e ((L2.wipe σ is).set i none) H := s
    have none_case : SS G B (e.set i none) (L2.wipe σ is) H := by
      have s2 := s'.forget' ((σ[i]?).getD none) (np i List.mem_cons_self)
      rw [List.set_set, hw] at s2
      exact s2
    cases hs : slot e0 i with
    | none => exact none_case
    | some m =>
      cases m with
      | imm d =>
        obtain ⟨v, hv, hd⟩ := im i List.mem_cons_self d hs
        have s2 := (SS.push s' hd).store' (np i List.mem_cons_self)
        rw [List.set_set] at s2
        have : some v = (σ[i]?).getD none := by rw [hv]; rfl
        rw [this, hw] at s2
        exact s2
      | _ => exact none_case
end
/-- how a comprehension goes -/
theorem lc_le {G : Gx} {it : FI} {g : FG} {t : FT} {x : FE} {own sl : List Nat} {σ : L2.St} {H : Hp} {Q : VK} (np : own.all (fun i => !G.Pr.contains i) = true) (nd : own.Nodup) (hsl : sl.all (fun i => own.contains i) = true) (h : tM G (compM g it t x own) σ H Q) :
    tLc (tI G it) (tGt G g sl) (tT G t) (tV G x) own σ H Q := by
  have np : ∀ i ∈ own, i ∉ G.Pr := fun i hi => by simpa using List.all_eq_true.mp np i hi
  have hsl : ∀ i ∈ sl, i ∈ own := fun i hi => by simpa using List.all_eq_true.mp hsl i hi
  obtain ⟨B, e, m, e', s, h, k⟩ := h
  obtain ⟨⟨ds, e1⟩, h1, hA⟩ := bnd h
  obtain ⟨⟨res, e2⟩, h2, hB⟩ := bnd hA
  cases hB
  refine ⟨B, e, ds, e1, s, h1, fun J H1 s1 x1 ok D hD => ?_⟩
  have im0 : ∀ i ∈ own, ∀ d, slot e1 i = some (.imm d) → ∃ v, σ[i]? = some (some v) ∧ Im G.K H1 d v := fun i _ d hs => s1.var hs
  have s2 := (s1.new hD ImL.nil).wipe own np
  refine ⟨fun i m H => m = ds.length - i ∧ i ≤ ds.length ∧ ∃ e acc, SS G (B.put (.lst acc) (.ref D)) e (L2.wipe σ own) H ∧ Ext H1 H ∧ compL g t x own (ds.drop i) acc e = some (res, e2), ⟨ds.length, by simp, Nat.zero_le _, _, [], s2, Ext.new hD, h2⟩, ?_⟩
  rintro i m H2 ⟨rfl, hi, e3, acc, s3, x3, h3⟩
  by_cases hlt : i < ds.length
  · obtain ⟨d, hd⟩ : ∃ d, ds[i]? = some d := ⟨ds[i], List.getElem?_eq_getElem hlt⟩
    have hdr : ds.drop i = d :: ds.drop (i + 1) := by
      rw [List.drop_eq_getElem_cons hlt]
      rw [List.getElem?_eq_getElem hlt] at hd
      cases hd
      rfl
    rw [hdr] at h3
    obtain ⟨e4, h4, hC⟩ := bnd h3
    obtain ⟨⟨b, e5⟩, h5, hE⟩ := bnd hC
    obtain ⟨go, yl⟩ := (ok i H2 x3).1 d hd
    refine .inr ⟨go, fun H' => ∃ e acc, SS G (B.put (.lst acc) (.ref D)) e (L2.wipe σ own) H' ∧ Ext H1 H' ∧ compL g t x own (ds.drop (i + 1)) acc e = some (res, e2), fun H' z => ⟨ds.length - (i + 1), by omega, rfl, hlt, z⟩, fun y H' yy => ?_⟩
    obtain ⟨gr, im⟩ := yl y H' yy
    refine ⟨_, e3, d, e4, s3.grow gr, im, h4, fun σ4 H4 s4 x4 ag => ⟨wipe_agree (ag.mono hsl), _, e4, b, e5, s4, h5, fun H5 s5 x5 => ?_⟩⟩
    have xx : Ext H1 H5 := ((x3.trans gr.ext).trans x4).trans x5
    have hw := wipe_agree (ag.mono hsl)
    cases b with
    | true =>
      refine iteT ?_
      simp only [if_true] at hE
      obtain ⟨⟨d2, e6⟩, h6, hF⟩ := bnd hE
      split at hF
      · rename_i hz
        refine ⟨_, e5, d2, e6, s5, h6, fun w H6 s6 i6 x6 => ?_⟩
        obtain ⟨p, vs, ep, g1, g2, _⟩ := s6.lstAt
        cases ep
        have x7 : Ext H6 (upd H6 D (.lst (vs ++ [w]))) := Ext.chg g1 trivial
        obtain ⟨s7, _⟩ := s6.change (o := .lst (vs ++ [w])) rfl g1 (.lst (acc ++ [d2])) (.inl ⟨D, _, rfl, rfl, upd_same, (g2.ext x7).append (ImL.cons (i6.ext x7) ImL.nil)⟩)
        have s8 := s7.wipe own np
        rw [hw] at s8
        exact ⟨vs, g1, by rw [← g2.length, ← big_eq]; exact hz, _, _, s8, (xx.trans x6).trans x7, hF⟩
      · cases hF
    | false =>
      refine iteF ?_
      simp only [Bool.false_eq_true, if_false] at hE
      have s8 := s5.wipe own np
      rw [hw] at s8
      exact ⟨_, _, s8, xx, hE⟩
  · have e5 : i = ds.length := by omega
    subst e5
    rw [List.drop_length] at h3
    cases h3
    refine .inl ⟨(ok ds.length H2 x3).2 rfl, k _ H2 (s3.resume nd np fun i hi d hs => ?_) (x1.trans x3)⟩
    obtain ⟨v, hv, hd⟩ := im0 i hi d hs
    exact ⟨v, hv, hd.ext x3⟩
section
variable {X : Cx} {G : Gx} {pos : Pos}
theorem t_yes {Y : Cx} : PTs Y [] (tT G yesT) := by
  refine ⟨fun pins s σ H Q I hq => pts_nil.run pins s σ H Q I ?_⟩
  obtain ⟨B, e, b, e', s, h, k⟩ := hq
  cases h
  exact k H s (Ext.refl H)
theorem t_ifs {Y : Cx} {c : Expr} {f : FT} (h : PT Y c (tT G f)) : PTs Y [c] (tT G f) := pts_one h
theorem m_lc {elt tg iter : Expr} {ifs : List Expr} {scope : Scope} {own : List (Str × Nat)} {it : FI} {g : FG} {sl : List Nat} {t : FT} {x : FE} (hc : X.calm = true) (hN : X.N.Nodup) (hi : PI X tg iter (tI G it)) (ok : BlkOk X.N X.env.scope scope own)
    (hg : ∀ (s : Shared) (H : Hp) (C : Addr) (cl : List (Str × Addr)) (fp : List Addr), PG (X.blk s H scope (compEnvC scope cl C X.env) fp) tg (tGt G g sl)) (ht : ∀ (s : Shared) (H : Hp) (C : Addr) (cl : List (Str × Addr)) (fp : List Addr), PTs (X.blk s H scope (compEnvC scope cl C X.env) fp) ifs (tT G t))
    (he : ∀ (s : Shared) (H : Hp) (C : Addr) (cl : List (Str × Addr)) (fp : List Addr), PE (X.blk s H scope (compEnvC scope cl C X.env) fp) elt (tV G x))
    (np : (own.map (·.2)).all (fun i => !G.Pr.contains i) = true) (nd : (own.map (·.2)).Nodup) (hsl : sl.all (fun i => (own.map (·.2)).contains i) = true) (hs : ∀ x, foldedSetIterable iter X.env x = pure x := by intro _; rfl) :
    PE X (.ListComp elt [⟨tg, iter, ifs, 0⟩] scope pos) (tM G (compM g it t x (own.map (·.2)))) :=
  PE.le (pe_lc hc hN hi ok hg ht he hs) fun σ H Q h => lc_le np nd hsl h
/-- name = [..] -/
theorem s_setLc (i : Nat) {y : Str} {py : Pos} {elt tg iter : Expr} {ifs : List Expr} {scope : Scope} {own : List (Str × Nat)} {spos : Pos} {it : FI} {g : FG} {sl : List Nat} {t : FT} {x : FE} (hc : X.calm = true) (hN : X.N.Nodup) (hi : PI X tg iter (tI G it)) (ok : BlkOk X.N X.env.scope scope own)
    (hg : ∀ (s : Shared) (H : Hp) (C : Addr) (cl : List (Str × Addr)) (fp : List Addr), PG (X.blk s H scope (compEnvC scope cl C X.env) fp) tg (tGt G g sl)) (ht : ∀ (s : Shared) (H : Hp) (C : Addr) (cl : List (Str × Addr)) (fp : List Addr), PTs (X.blk s H scope (compEnvC scope cl C X.env) fp) ifs (tT G t))
    (he : ∀ (s : Shared) (H : Hp) (C : Addr) (cl : List (Str × Addr)) (fp : List Addr), PE (X.blk s H scope (compEnvC scope cl C X.env) fp) elt (tV G x))
    (np : (own.map (·.2)).all (fun i => !G.Pr.contains i) = true) (nd : (own.map (·.2)).Nodup) (hsl : sl.all (fun i => (own.map (·.2)).contains i) = true) (npi : i ∉ G.Pr) (hy : X.N[i]? = some y := by rfl) (hyl : X.env.scope.names.lookup y = some .local := by rfl)
    (hsw : swapsWith (.ListComp elt [⟨tg, iter, ifs, 0⟩] scope pos) (some (.Name y py)) spos.line X.env = pure true := by exact sw_true rfl rfl rfl (by decide +kernel)) (hs : ∀ x, foldedSetIterable iter X.env x = pure x := by intro _; rfl) :
    PS X (.Assign [.Name y py] (.ListComp elt [⟨tg, iter, ifs, 0⟩] scope pos) spos) (tS G (setMS i (compM g it t x (own.map (·.2))))) := by
  refine PS.le (ps_setLc hc hN hy hyl hsw hi ok hg ht he hs) fun D σ H ⟨B, e, fl, e', s, h, k⟩ => ?_
  obtain ⟨⟨m, e1⟩, h1, hA⟩ := bnd h
  cases hA
  exact lc_le np nd hsl ⟨B, e, m, e1, s, h1, fun v H1 s1 x1 => k _ _ (SS.store' s1 npi) x1⟩
end
end VL
end

section
set_option Elab.async false
set_option linter.all false
set_option maxRecDepth 100000
/-! VLk: generator expressions: the run. -/
namespace VL
open PySem PySem.Spec L2 VD
open PyProof.Rows (AllBare IsTup)

/-- the context of a generator expression's run -/
abbrev gcx (X : Cx) (A' : Around) (s : Shared) (H : Hp) (cenv : PySem.Env) (fp : List Addr) (p : Addr × Obj) : Cx :=
  { X with A := A', s_0 := s, H_0 := H, env := cenv, outer := X.stack, stack := cenv :: X.stack, ex := fp, fn := fun _ => false, pn := [p], xe := fun _ _ => False }
/-- the reader's own objects -/
structure ZOk (Y : Cx) (Z : List Addr) : Prop where
  apart : ∀ z ∈ Z, Apart Y z
  pn : ∀ p ∈ Y.pn, p.1 ∉ Z
/-- while the generator sleeps -/
structure Nap (Z : List Addr) (s s' : Shared) : Prop where
  os : s'.os = s.os
  bare : AllBare s'.gens
  keep : ∀ b o, b ∉ Z → s.heap.get? b = some o → s'.heap.get? b = some o
  own : ∀ b ∈ Z, ∃ o, s'.heap.get? b = some o ∧ ∀ v, o.data ≠ .cell v
/-- all of Z is pinned -/
structure ZP (zp : List (Addr × Obj)) (Z : List Addr) : Prop where
  sub : ∀ p ∈ zp, p.1 ∈ Z
  all : ∀ b ∈ Z, ∃ o, (b, o) ∈ zp
theorem inv_nap {Y : Cx} {Z : List Addr} {zp qp : List (Addr × Obj)} {σ : L2.St} {H : Hp} {s s' : Shared} (zk : ZOk Y Z) (hz : ZP zp Z) (hq : ∀ p ∈ qp, p.1 ∉ Z) (I : Inv Y (zp ++ qp) σ H s) (n : Nap Z s s') :
    ∃ zp', ZP zp' Z ∧ Inv Y (zp' ++ qp) σ H s' := by
  have zn : ∀ b ∈ Z, H b = none ∧ b ≠ Y.env.locals ∧ b ∉ Y.fs := fun b hb => by
    obtain ⟨o, ho⟩ := hz.all b hb
    have := I.pin (b, o) (List.mem_append_right _ (List.mem_append_left _ ho))
    exact ⟨this.2.1, this.2.2.1, this.2.2.2.1⟩
  have I0 : Inv Y qp σ H s := I.pins_of fun p hp => I.pin p (List.mem_append_right _ (List.mem_append_right _ hp))
  have nt : ∀ b u, H b = some u → b ∉ Z := fun b u q hb => by rw [(zn b hb).1] at q; cases q
  obtain ⟨z1, z2, z3, z4⟩ := n
  obtain ⟨hh, g, d, t, o⟩ := s'
  have ho : o = s.os := z1
  subst ho
  have J : Inv Y qp σ H { s with heap := hh, gens := g, drawn := d, toks := t } := by
    refine I0.step (g' := g) (t' := t) (d' := d) (ch := Z) (fun b hb => ?_)
      (fun b ob _ _ hc q _ => z3 b ob hc q) (fun b ob _ _ hc q _ => ⟨ob.slots, z3 b ob hc q⟩) (fun _ _ _ _ n => n) (fun b ob hc q => ⟨ob, z3 b ob hc q⟩)
      (fun _ _ q => q) (fun _ _ _ q => q) (fun b ps q => ⟨#[], by rw [q]; simp⟩) (fun m hm => ?_) (fun b u q => ?_) z2
    · obtain ⟨a1, a2, a3⟩ := zk.apart b hb
      refine ⟨.inr a1, a2, a3, fun p hp => ?_⟩
      rcases List.mem_append.mp hp with hp | hp
      · exact fun e => zk.pn p hp (by rw [e]; exact hb)
      · exact fun e => hq p hp (by rw [e]; exact hb)
    · obtain ⟨ob, es, ep, ho, r⟩ := hm
      exact ⟨ob, es, ep, z3 _ ob (fun z => (zn _ z).2.1 rfl) ho, r⟩
    · refine (I0.hok b u q).stay (fun c v hc y => z3 c v ?_ y) (fun _ y => y) fun _ _ y => y
      rcases hc with y | y
      · rw [y]; exact nt b u q
      · exact nt c _ y
  refine ⟨pinsAt Z hh, ⟨fun p hp => (of_pinsAt hp).1, fun b hb => ?_⟩, J.pins_of fun p hp => ?_⟩
  · obtain ⟨o, e, _⟩ := z4 b hb
    exact ⟨o, mem_pinsAt hb e⟩
  · rcases List.mem_append.mp hp with hp | hp
    · obtain ⟨hb, e⟩ := of_pinsAt hp
      obtain ⟨n1, n2, n3⟩ := zn _ hb
      obtain ⟨o, e', dd⟩ := z4 _ hb
      have e' : hh.get? p.1 = some o := e'
      rw [e] at e'
      cases e'
      exact ⟨e, n1, n2, n3, dd⟩
    · exact J.pin p (List.mem_append_right _ hp)

/-- what the reader does between two items -/
structure Mode (K : Kx) (ys : List D) (Z : List Addr) where
  nap : Nat → Value → Heap → Heap → Prop
  own : Nat → Hp → Heap → Prop
  nkeep : ∀ j v h h', nap j v h h' → ∀ b o, b ∉ Z → h.get? b = some o → h'.get? b = some o
  nown : ∀ j v h h', nap j v h h' → ∀ b ∈ Z, ∃ o, h'.get? b = some o ∧ ∀ v, o.data ≠ .cell v
  keep : ∀ j H H' (h h' : Heap), own j H h → Ext H H' → (∀ b ∈ Z, ∀ o, h.get? b = some o → h'.get? b = some o) → own j H' h'
  step : ∀ j H h h' d u v, own j H h → ys[j]? = some d → Im K H d u → RelV u v → nap j v h h' → own (j + 1) H h'
theorem Mode.isNap {K : Kx} {ys : List D} {Z : List Addr} (M : Mode K ys Z) {j : Nat} {v : Value} {s s' : Shared} (os : s'.os = s.os) (hb : AllBare s'.gens) (h : M.nap j v s.heap s'.heap) : Nap Z s s' := ⟨os, hb, M.nkeep _ _ _ _ h, M.nown _ _ _ _ h⟩

section
variable (X : Cx) (pins : List (Addr × Obj)) (σ : L2.St) (G : Gx) (B : Bx) (Hb : Hp) (a : Addr) (g : Nat) (ys : List D) (st : Bool) (ef : En) {Z : List Addr} (M : Mode G.K ys Z)
/-- an item is out -/
def YD : Protocol := fun n s₀ v s kap => n + 1 ≤ ys.length ∧ ∃ d u H', ys[ys.length - (n + 1)]? = some d ∧ RelV u v ∧ Im G.K H' d u ∧ M.own (ys.length - (n + 1)) H' s.heap ∧ Inv X pins σ H' s ∧ s.heap.IsGen a g ∧ Ext Hb H' ∧ (∀ z ∈ Z, H' z = none ∧ ∃ o, s.heap.get? z = some o) ∧
  (n = 0 → st = true → SS G B ef σ H') ∧ ((n = 0 → st = false) → ∀ s', s'.os = s.os → AllBare s'.gens → M.nap (ys.length - (n + 1)) v s.heap s'.heap → kap (.send .none) s')
/-- the end -/
def PD : Nat → Shared → Shared → Prop := fun n s₀ s => n = 0 ∧ st = false ∧ ∃ H', M.own ys.length H' s.heap ∧ Inv X pins σ H' s ∧ s.heap.IsGen a g ∧ Ext Hb H' ∧ (∀ z ∈ Z, H' z = none ∧ ∃ o, s.heap.get? z = some o) ∧ SS G B ef σ H'
def RD : GenEnd := fun n s₀ r s => r = .ok .next ∧ PD X pins σ G B Hb a g ys st ef M n s₀ s
end

theorem thnX {α : Type} {t : Sem α} {Q Q' : α → Shared → Prop} {M : Model} {A : Around} {E E' : Value → Shared → Prop} {s : Shared} (hE : ∀ v s, ¬ E v s) (h : wpAny M A t Q E s) (hQ : ∀ a s, Q a s → Q' a s) : wpAny M A t Q' E' s := wpAny_mono h hQ fun _ _ z => (hE _ _ z).elim

section
variable {X Y : Cx} {pins : List (Addr × Obj)} {σ : L2.St} {G : Gx} {B : Bx} {H1 : Hp} {a : Addr} {gn : Nat} {ys : List D} {st : Bool} {ef : En} {Z : List Addr} {M : Mode G.K ys Z}
/-- what the run gives to the outside -/
structure Back (X Y : Cx) (pins : List (Addr × Obj)) (σ : L2.St) (G : Gx) (B : Bx) (H1 : Hp) (a : Addr) (gn : Nat) (own : List Nat) (e0 : En) : Prop where
  xe : ∀ v s, ¬ Y.xe v s
  calm : Y.calm = true
  inv : ∀ pn σ' H' s, Inv Y pn σ' H' s → Inv X pins σ H' s ∧ s.heap.IsGen a gn
  ss : ∀ e H', Ext H1 H' → SS G B e (L2.wipe σ own) H' → SS G B (backE e0 e own) σ H'

/-- the loop of the last clause -/
theorem seg_in {E elt tg iter : Expr} {ifs : List Expr} {k : Nat} {it : Addr} {fs : List Frame} {A : Around} {own own1 sl : List Nat} {e0 : En} {g : FG} {t : FT} {x : FE} {stop : D → Option Bool} {σ1 : L2.St} {fp : List Addr} {tn : Nat → Heap → Prop} {J : It} {ds tl : List D} {qp : List (Addr × Obj)} {er : En} {Hi : Hp}
    (bk : Back X Y pins σ G B H1 a gn own e0) (zk : ZOk Y Z)
    (hden : ∃ hr, (model Y.prog Y.w).den (.compLoop E k (.ref it) .none Y.env) = (compTurn E k (.ref it) .none Y.env).onRaise hr)
    (hturn : compTurn E k (.ref it) .none Y.env = (do
      standAt iter.pos
      match ← pyNext (.ref it) with
      | none => pure (.done .next)
      | some v =>
        letOwnedTupleGo tg (.ref it) v
        assign tg Y.env v
        let mut ok := true
        for c in ifs do
          if ok then ok ← isTrue c Y.env (eval c Y.env)
        if ok then
          (do let v ← eval elt Y.env; standAt elt.pos; let _ ← yieldOut Y.env v)
        again (.compLoop E k (.ref it) .none Y.env)))
    (hco : Y.env.scope.isCoroutine = false) (hov : A.over (.compLoop E k (.ref it) .none Y.env) fs = Y.A) (hsp : splitAtGen fs = none) (hgf : fs.any Frame.guarded = false)
    (T : Turn Y.prog Y.w Y.K tg J fp it tn) (ok : ItOk G.K Hi J ds) (hf : ∀ zp H', ZP zp Z → (∀ b ∈ fp, H' b = none) → ∀ b ∈ fp, FpOk Y (zp ++ qp) H' b) (hfz : ∀ b ∈ fp, b ∉ Z) (hqz : ∀ p ∈ qp, p.1 ∉ Z) (hx : Ext H1 Hi)
    (pg : PG Y tg (tGt G g sl)) (pt : PTs Y ifs (tT G t)) (pe : PE Y elt (tV G x)) (np : ∀ i ∈ own, i ∉ G.Pr) (np1 : ∀ i ∈ own1, i ∈ own) (hsl : ∀ i ∈ sl, i ∈ own1) (hw : L2.wipe σ1 own = L2.wipe σ own)
    (hfin : ∀ (s₀ s : Shared) (H' : Hp) (zp : List (Addr × Obj)), ZP zp Z → Inv Y (zp ++ qp) (L2.wipe σ1 own1) H' s → SS G B er (L2.wipe σ1 own1) H' → Ext Hi H' → M.own (ys.length - tl.length) H' s.heap → (tl = [] → st = false) → Seg (model Y.prog Y.w) A (RD X pins σ G B H1 a gn ys st ef M) (YD X pins σ G B H1 a gn ys st ef M) tl.length s₀ (.compLoop E k (.ref it) .none Y.env) (.pure (.done .next)) fs s) :
    ∀ (ds' : List D) (i : Nat) (e : En) (H' : Hp) (s₀ s : Shared) (ys1 : List D) (b1 : Bool) (e1 : En) (zp : List (Addr × Obj)), ds' = ds.drop i → i ≤ ds.length → genL1 g t x own1 stop ds' e = some ((ys1, b1), e1) →
      (∃ pre, ys = pre ++ (ys1 ++ tl)) → (b1 = false → e1 = er) → (b1 = true → tl = [] ∧ st = true ∧ ef = backE e0 (wipeE e1 own) own) → (tl = [] → b1 = false → st = false) →
      ZP zp Z → Inv Y (zp ++ qp) (L2.wipe σ1 own1) H' s → SS G B e (L2.wipe σ1 own1) H' → (∀ b ∈ fp, H' b = none) → Ext Hi H' → tn i s.heap → M.own (ys.length - (ys1 ++ tl).length) H' s.heap →
      Seg (model Y.prog Y.w) A (RD X pins σ G B H1 a gn ys st ef M) (YD X pins σ G B H1 a gn ys st ef M) (ys1 ++ tl).length s₀ (.compLoop E k (.ref it) .none Y.env) ((model Y.prog Y.w).den (.compLoop E k (.ref it) .none Y.env)) fs s := by
  obtain ⟨hr, hden⟩ := hden
  have hy : ∀ v, yieldOut Y.env v = yieldValue v := fun v => by simp only [yieldOut, hco, Bool.false_eq_true, if_false]
  have outs : ∀ {zp : List (Addr × Obj)} {σ' : L2.St} {H' : Hp} {s : Shared}, ZP zp Z → Inv Y (zp ++ qp) σ' H' s → ∀ z ∈ Z, H' z = none ∧ ∃ o, s.heap.get? z = some o := fun {zp σ' H' s} hz I z hz2 => by
    obtain ⟨o, ho⟩ := hz.all z hz2
    have := I.pin (z, o) (List.mem_append_right _ (List.mem_append_left _ ho))
    exact ⟨this.2.1, o, this.1⟩
  have zkeep : ∀ {zp : List (Addr × Obj)} {pl : List (Addr × Obj)} {σ' σ2 : L2.St} {H' H2 : Hp} {s s' : Shared}, ZP zp Z → Inv Y (zp ++ qp) σ' H' s → Inv Y ((zp ++ qp) ++ pl) σ2 H2 s' → ∀ b ∈ Z, ∀ o, s.heap.get? b = some o → s'.heap.get? b = some o := fun {zp pl σ' σ2 H' H2 s s'} hz I I' b hb o e => by
    obtain ⟨o', ho⟩ := hz.all b hb
    have h1 := (I.pin (b, o') (List.mem_append_right _ (List.mem_append_left _ ho))).1
    have h2 := (I'.pin (b, o') (List.mem_append_right _ (List.mem_append_left _ (List.mem_append_left _ ho)))).1
    rw [e] at h1
    cases h1
    exact h2
  have zkeep0 : ∀ {zp : List (Addr × Obj)} {σ' σ2 : L2.St} {H' H2 : Hp} {s s' : Shared}, ZP zp Z → Inv Y (zp ++ qp) σ' H' s → Inv Y (zp ++ qp) σ2 H2 s' → ∀ b ∈ Z, ∀ o, s.heap.get? b = some o → s'.heap.get? b = some o := fun {zp σ' σ2 H' H2 s s'} hz I I' b hb o e => by
    obtain ⟨o', ho⟩ := hz.all b hb
    have h1 := (I.pin (b, o') (List.mem_append_right _ (List.mem_append_left _ ho))).1
    have h2 := (I'.pin (b, o') (List.mem_append_right _ (List.mem_append_left _ ho))).1
    rw [e] at h1
    cases h1
    exact h2
  intro ds'
  induction ds' with
  | nil =>
    intro i e H' s₀ s ys1 b1 e1 zp hds hi h hpre he1 hst htl hz I ss n5 x5 st5 ow
    cases h
    have hi2 : i = ds.length := by
      have := congrArg List.length hds
      simp at this
      omega
    rw [hden, hturn, Sem.onRaise_eq_wrap]
    refine seg_bind_wrap (wpAny_standAt ?_)
    refine seg_bind_wrap ?_
    rw [hov]
    refine thnF (T.done Y rfl rfl rfl bk.calm i (zp ++ qp) s _ H' (fun _ _ => False) I (hf zp H' hz n5) st5 ((ok i H' x5).2 hi2)) fun r s1 ⟨hr1, I1⟩ => ?_
    subst hr1
    have he := he1 rfl
    subst he
    exact hfin s₀ s1 H' zp hz I1 ss x5 (M.keep _ _ _ _ _ ow (Ext.refl _) (zkeep0 hz I I1)) fun h => htl h rfl
  | cons d ds' ih =>
    intro i e H' s₀ s ys1 b1 e1 zp hds hi h hpre he1 hst htl hz I ss n5 x5 st5 ow
    have hlt : i < ds.length := by
      have := congrArg List.length hds
      simp at this
      omega
    have hd : ds[i]? = some d := by
      rw [List.drop_eq_getElem_cons hlt] at hds
      rw [List.getElem?_eq_getElem hlt]
      exact congrArg some (List.cons.inj hds).1.symm
    have hdr : ds' = ds.drop (i + 1) := by
      rw [List.drop_eq_getElem_cons hlt] at hds
      exact (List.cons.inj hds).2
    obtain ⟨e4, h4, hA⟩ := bnd h
    obtain ⟨⟨b, e5⟩, h5, hB⟩ := bnd hA
    obtain ⟨go, yl⟩ := (ok i H' x5).1 d hd
    rw [hden, hturn, Sem.onRaise_eq_wrap]
    refine seg_bind_wrap (wpAny_standAt ?_)
    refine seg_bind_wrap ?_
    rw [hov]
    refine thnF (T.item Y rfl rfl rfl bk.calm i (zp ++ qp) s _ H' (fun _ _ => False) I (hf zp H' hz n5) st5 go) fun r s1 ⟨u, hr1, h1⟩ => ?_
    subst hr1
    refine seg_bind_wrap ?_
    rw [hov]
    refine thnF h1 fun _ s2 ⟨v, H2, I2, r2, y2, st2, n2⟩ => ?_
    have fpo : ∀ b ∈ fp, FpOk Y (zp ++ qp) H2 b := hf zp H2 hz n2
    have I2' := I2.pinned fpo (T.obj _ _ st2)
    obtain ⟨gr, im⟩ := yl v H2 y2
    refine seg_bind_wrap ?_
    rw [hov]
    refine thnX bk.xe (pg.run _ s2 _ H2 v u (fun σ3 H3 => SS G B e4 σ3 H3 ∧ Ext H2 H3 ∧ Agree sl (L2.wipe σ1 own1) σ3) I2' r2 ⟨B, e, d, e4, ss.grow gr, im, h4, fun σ3 H3 s3 x3 ag => ⟨s3, x3, ag⟩⟩) fun _ s3 ⟨σ3, H3, I3, ss3, x3, ag⟩ => ?_
    have hw3 : L2.wipe σ3 own1 = L2.wipe σ1 own1 := wipe_agree (ag.mono hsl)
    refine seg_bind_wrap ?_
    rw [hov]
    refine thnX bk.xe (pt.run _ s3 σ3 H3 (fun b' H4 => b' = b ∧ SS G B e5 σ3 H4 ∧ Ext H3 H4) I3 ⟨B, e4, b, e5, ss3, h5, fun H4 s4 x4 => ⟨rfl, s4, x4⟩⟩) fun b' s4 ⟨H4, I4, eb, ss4, x4⟩ => ?_
    subst eb
    -- the turn's end
    have pin' : ∀ {σ' : L2.St} {H5 : Hp} {s5 : Shared}, Inv Y ((zp ++ qp) ++ pinsAt fp s2.heap) σ' H5 s5 → (∀ b ∈ fp, ∀ o, s2.heap.get? b = some o → s5.heap.get? b = some o ∧ H5 b = none) := fun {σ' H5 s5} I' b hb o e =>
      let z := I'.pin (b, o) (List.mem_append_right _ (List.mem_append_right _ (mem_pinsAt hb e)))
      ⟨z.1, z.2.1⟩
    have nfp : ∀ {σ' : L2.St} {H5 : Hp} {s5 : Shared}, Inv Y ((zp ++ qp) ++ pinsAt fp s2.heap) σ' H5 s5 → ∀ b ∈ fp, H5 b = none := fun {σ' H5 s5} I' b hb => by
      obtain ⟨o, e, _⟩ := T.obj _ _ st2 b hb
      exact (pin' I' b hb o e).2
    have xx : Ext Hi H4 := ((x5.trans gr.ext).trans x3).trans x4
    have np1' : ∀ i ∈ own1, i ∉ G.Pr := fun i hi => np i (np1 i hi)
    cases b' with
    | false =>
      simp only [Bool.false_eq_true, if_false] at hB ⊢
      have ss5 := ss4.wipe own1 np1'
      rw [hw3] at ss5
      have I5 : Inv Y (zp ++ qp) (L2.wipe σ1 own1) H4 s4 := (I4.unpinned).weak (by rw [← hw3, wipe_length]) fun j v e => by rw [← hw3] at e; exact (wipe_some e).1
      exact seg_again rfl (ih (i + 1) _ H4 s₀ s4 ys1 b1 e1 zp hdr hlt hB hpre he1 hst htl hz I5 ss5 (nfp I4) xx (T.keep _ _ _ st2 fun b hb o e => (pin' I4 b hb o e).1) (M.keep _ _ _ _ _ ow ((gr.ext.trans x3).trans x4) (zkeep hz I I4)))
    | true =>
      simp only [if_true] at hB ⊢
      obtain ⟨⟨d2, e6⟩, h6, hC⟩ := bnd hB
      obtain ⟨sb, h7, hD⟩ := bnd hC
      simp only [hy]
      rw [Sem.bind_eq_wrap', Sem.bind_eq_wrap', Sem.wrap_wrap, Sem.wrap_wrap]
      refine seg_wrap ?_
      rw [hov]
      refine thnX bk.xe (pe.run _ s4 σ3 H4 (fun v H5 => SS G B e6 σ3 H5 ∧ Im G.K H5 d2 v ∧ Ext H4 H5) I4 ⟨B, e5, d2, e6, ss4, h6, fun v H5 s5 i5 x5 => ⟨s5, i5, x5⟩⟩) fun u5 s5 ⟨v5, H5, I5, r5, ss5, im5, x6⟩ => ?_
      have xx5 : Ext Hi H5 := xx.trans x6
      have ss6 := ss5.wipe own1 np1'
      rw [hw3] at ss6
      have I6 : Inv Y (zp ++ qp) (L2.wipe σ1 own1) H5 s5 := (I5.unpinned).weak (by rw [← hw3, wipe_length]) fun j v e => by rw [← hw3] at e; exact (wipe_some e).1
      obtain ⟨Io, ig⟩ := bk.inv _ _ _ _ I6
      -- the item
      obtain ⟨ys2, er2⟩ : ∃ ys2, ys1 = d2 :: ys2 := by
        cases sb with
        | true => simp only [if_true] at hD; cases hD; exact ⟨[], rfl⟩
        | false =>
          simp only [Bool.false_eq_true, if_false] at hD
          obtain ⟨⟨⟨y2, b2⟩, e7⟩, _, hE⟩ := bnd hD
          simp only [Option.some.injEq, Prod.mk.injEq] at hE
          exact ⟨y2, hE.1.1.symm⟩
      subst er2
      obtain ⟨pre, hpre⟩ := hpre
      have hlen : ys.length = pre.length + ((ys2 ++ tl).length + 1) := by rw [hpre]; simp
      have hix : ys.length - ((ys2 ++ tl).length + 1) = pre.length := by omega
      have hget : ys[pre.length]? = some d2 := by rw [hpre]; simp
      show Seg _ A _ _ ((ys2 ++ tl).length + 1) s₀ _ _ fs s5
      refine seg_at (seg_yield hsp rfl hgf ?_)
      have ow5 : M.own pre.length H5 s5.heap := by
        have q : ys.length - (d2 :: ys2 ++ tl).length = pre.length := hix
        rw [q] at ow
        exact M.keep _ _ _ _ _ ow (((gr.ext.trans x3).trans x4).trans x6) (zkeep hz I I5)
      refine ⟨by rw [hlen]; exact Nat.le_add_left _ _, d2, v5, H5, by rw [hix]; exact hget, r5, im5, by rw [hix]; exact ow5, Io, ig, hx.trans xx5, outs hz I6, fun n0 st1 => ?_, fun hns s6 os6 bare6 hnap => ?_⟩
      · -- the last one, and the reader stops
        have n0 : (ys2 ++ tl).length = 0 := n0
        have tl0 : tl = [] := (List.append_eq_nil_iff.mp (List.length_eq_zero_iff.mp n0)).2
        have b1t : b1 = true := by
          cases b1 with
          | true => rfl
          | false => rw [htl tl0 rfl] at st1; cases st1
        obtain ⟨_, _, hef⟩ := hst b1t
        rw [hef]
        have sbt : sb = true ∧ e1 = wipeE e6 own1 := by
          cases sb with
          | true => simp only [if_true] at hD; cases hD; exact ⟨rfl, rfl⟩
          | false =>
            simp only [Bool.false_eq_true, if_false] at hD
            obtain ⟨⟨⟨y2, b2⟩, e7⟩, hq, hE⟩ := bnd hD
            simp only [Option.some.injEq, Prod.mk.injEq, List.cons.injEq, true_and] at hE
            obtain ⟨⟨e8, e9⟩, e10⟩ := hE
            rw [e8, e9] at hq
            have y20 : ys2 = [] := (List.append_eq_nil_iff.mp (List.length_eq_zero_iff.mp n0)).1
            subst y20
            exfalso
            have : ∀ (l : List D) (e e' : En) (b : Bool), genL1 g t x own1 stop l e = some (([], b), e') → b = false := by
              intro l
              induction l with
              | nil => intro e e' b h; cases h; rfl
              | cons z l ihl =>
                intro e e' b h
                obtain ⟨_, _, h⟩ := bnd h
                obtain ⟨⟨c, _⟩, _, h⟩ := bnd h
                cases c with
                | false => simp only [Bool.false_eq_true, if_false] at h; exact ihl _ _ _ h
                | true =>
                  simp only [if_true] at h
                  obtain ⟨_, _, h⟩ := bnd h
                  obtain ⟨c2, _, h⟩ := bnd h
                  cases c2 with
                  | true => simp only [if_true] at h; cases h
                  | false =>
                    simp only [Bool.false_eq_true, if_false] at h
                    obtain ⟨_, _, h⟩ := bnd h
                    cases h
            rw [this _ _ _ _ hq] at b1t
            cases b1t
        rw [sbt.2]
        refine bk.ss _ _ (hx.trans xx5) ?_
        have ss7 := ss6.wipe own np
        have : L2.wipe (L2.wipe σ1 own1) own = L2.wipe σ own := by
          rw [← hw]
          refine List.ext_getElem? fun j => ?_
          by_cases hj : j ∈ own
          · by_cases hlt : j < σ1.length
            · rw [wipe_in hj (by rw [wipe_length]; exact hlt), wipe_in hj hlt]
            · rw [List.getElem?_eq_none (by rw [wipe_length, wipe_length]; omega), List.getElem?_eq_none (by rw [wipe_length]; omega)]
          · rw [wipe_get hj, wipe_get fun z => hj (np1 j z), wipe_get hj]
        rw [this] at ss7
        exact ss7
      · -- on
        rw [hix] at hnap
        have sbf : sb = false := by
          cases sb with
          | false => rfl
          | true =>
            exfalso
            simp only [if_true] at hD
            cases hD
            obtain ⟨tl0, st1, _⟩ := hst rfl
            subst tl0
            have := hns rfl
            rw [st1] at this
            cases this
        subst sbf
        simp only [Bool.false_eq_true, if_false] at hD
        obtain ⟨⟨⟨y2, b2⟩, e7⟩, hq, hE⟩ := bnd hD
        simp only [Option.some.injEq, Prod.mk.injEq, List.cons.injEq, true_and] at hE
        obtain ⟨⟨e8, e9⟩, e10⟩ := hE
        rw [e8, e9, e10] at hq
        obtain ⟨zp', hz', I7⟩ := inv_nap zk hz hqz I6 (M.isNap os6 bare6 hnap)
        have keep6 : ∀ b ∈ fp, ∀ o, s2.heap.get? b = some o → s6.heap.get? b = some o := fun b hb o e => (M.isNap os6 bare6 hnap).keep b o (hfz b hb) (pin' I5 b hb o e).1
        refine seg_again rfl (ih (i + 1) _ H5 s6 s6 ys2 b1 e1 zp' hdr hlt hq ⟨pre ++ [d2], by rw [hpre]; simp⟩ he1 hst htl hz' I7 ss6 (nfp I5) xx5 (T.keep _ _ _ st2 keep6) ?_)
        have := M.step _ _ _ _ d2 v5 u5 ow5 hget im5 r5 hnap
        have q : ys.length - (ys2 ++ tl).length = pre.length + 1 := by omega
        rw [q]
        exact this
end
end VL
end

section
set_option Elab.async false
set_option linter.all false
set_option maxRecDepth 100000
/-! VLl: generator expressions: the start, the two forms. -/
namespace VL
open PySem PySem.Spec L2 VD
open PyProof.Rows (AllBare IsTup)
section
variable {X : Cx} {pins : List (Addr × Obj)} {σ : L2.St} {H : Hp} {s : Shared}
theorem gen_start {scope : Scope} {own : List (Str × Nat)} {fp : List Addr} {A' : Around} {code : Value} {p : Addr × Obj} {m0 : Str → Option Value} {s' : Shared} (ho : s'.os = s.os) (I : Inv X pins σ H s) (ok : BlkOk X.N X.env.scope scope own) (hN : X.N.Nodup)
    (hcell : ∀ y ∈ scope.names, y.2 ≠ .cell) (hfp : ∀ b ∈ fp, FpOk X pins H b ∧ b < s.heap.objs.size) (hA : A'.handled = none) (hfr : A'.frames = some (genEnv scope (cloFrom X.env.cells scope.names []) s.heap.objs.size code builtinsNs X.env :: X.stack))
    (hn : s'.heap.Ns s.heap.objs.size m0) (kp : ∀ b o, s.heap.get? b = some o → s'.heap.get? b = some o) (hp : s'.heap.get? p.1 = some p.2) (hps : s.heap.objs.size < p.1) (hpd : ∀ v, p.2.data ≠ .cell v) (hg : AllBare s'.gens) :
    Inv (gcx X A' s H (genEnv scope (cloFrom X.env.cells scope.names []) s.heap.objs.size code builtinsNs X.env) fp p) [] (L2.wipe σ (own.map (·.2))) H s' := by
  have hfree : ∀ y ∈ scope.names, y.2 = .free → ∃ c, X.env.cells.lookup y.1 = some c := fun y hy e => by
    rcases ok.free y hy e with k | k
    · exact I.ok.has _ (.inl k)
    · exact I.ok.has _ (.inr k)
  generalize hcenv : genEnv scope (cloFrom X.env.cells scope.names []) s.heap.objs.size code builtinsNs X.env = cenv at hfr ⊢
  have hL : cenv.locals = s.heap.objs.size := by rw [← hcenv]; rfl
  have hcl : cenv.cells = cloFrom X.env.cells scope.names [] := by rw [← hcenv]; rfl
  have hsc : cenv.scope = scope := by rw [← hcenv]; rfl
  have cm : ∀ {y c}, (y, c) ∈ cloFrom X.env.cells scope.names [] → X.env.cells.lookup y = some c ∧ c < s.heap.objs.size := fun {y c} hm => by
    rcases cloFrom_mem hm with hm | ⟨h1, rfl⟩
    · cases hm
    · obtain ⟨c, hc⟩ := hfree _ h1 rfl
      rw [hc]
      obtain ⟨w, z⟩ := I.cell _ _ hc
      exact ⟨rfl, z.lt⟩
  have mem : ∀ {y c}, cenv.cells.lookup y = some c → X.env.cells.lookup y = some c ∧ c < s.heap.objs.size := fun {y c} e => by
    rw [hcl] at e
    exact cm (PySem.mem_of_lookup e)
  have look : ∀ {y}, scope.names.lookup y = some .free → ∃ c, cenv.cells.lookup y = some c ∧ X.env.cells.lookup y = some c := fun {y} hl => by
    have hy : (y, NameKind.free) ∈ scope.names := PySem.mem_of_lookup hl
    obtain ⟨c', e'⟩ := mem_lookup (cloFrom_has (cells := X.env.cells) (acc := []) hy)
    rw [← hcl] at e'
    exact ⟨c', e', (mem e').1⟩
  have stk : ∀ b, s.heap.objs.size ≤ b → b ∉ frs X.stack := fun b hb z => by
    rcases List.mem_cons.mp (I.stkSub b z) with z | z
    · exact absurd (Nat.lt_of_lt_of_le I.lt hb) (by rw [z]; exact Nat.lt_irrefl _)
    · exact I.nofs hb z
  have okB : (gcx X A' s H cenv fp p).Ok := by
    refine ⟨I.ok.mod, by show cenv.scope.kind = _; rw [hsc]; exact ok.kind, by show cenv.globals = _; rw [← hcenv]; exact I.ok.glob, by show cenv.builtins = _; rw [← hcenv]; rfl, by show s.heap.objs.size ≤ cenv.locals; rw [hL]; exact Nat.le_refl _,
      fun y z c e1 e2 => I.ok.inj y z c (mem e1).1 (mem e2).1, fun y hy => ?_, fun y c z e => (by cases z), fun _ => hA, hfr, .inr ⟨rfl, by show cenv.frame = some cenv.locals; rw [← hcenv]; rfl⟩, fun b hb => ⟨?_, fun y c e z => ?_⟩, I.bs, Nat.le_trans I.ok.bsz I.sz, fun b o e hb => ?_, fun b hb z => ?_, I.stack, I.stkFree⟩
    · show ∃ c, cenv.cells.lookup y = some c
      have key : ∀ k, cenv.kindOf y = some k → (k = .cell ∨ k = .free) → ∃ c, cenv.cells.lookup y = some c := fun k hk hk' => by
        unfold Env.kindOf at hk
        rw [hsc] at hk
        rcases hk' with rfl | rfl
        · exact absurd rfl (hcell _ (PySem.mem_of_lookup hk))
        · obtain ⟨c, h1, _⟩ := look hk
          exact ⟨c, h1⟩
      rcases hy with hy | hy
      · exact key _ hy (.inl rfl)
      · exact key _ hy (.inr rfl)
    · show b ≠ cenv.locals
      rw [hL]; exact Nat.ne_of_lt (hfp b hb).2
    · have e : cenv.cells.lookup y = some c := e
      exact (hfp b hb).1.2.2.2.2.1 y c (mem e).1 z
    · rcases (hfp b hb).1.2.2.2.1 with z | z
      · exact I.ok.noex b o e z
      · exact absurd (Nat.lt_of_lt_of_le (Heap.lt_size e) (Nat.le_trans I.ok.bsz z)) (Nat.lt_irrefl _)
    · rcases List.mem_cons.mp (I.stkSub b z) with z | z
      · exact (hfp b hb).1.2.1 z
      · exact (hfp b hb).1.2.2.1 z
  refine ⟨okB, ho, hg, Un.kept kp, ⟨m0, ?_, fun i y av e1 e2 e3 => ?_⟩, fun y c e => ?_, ?_, fun y c e => ?_, fun q hq => ?_, I.hok.kept kp, by rw [wipe_length]; exact I.len⟩
  · show Heap.Ns _ cenv.locals _
    rw [hL]
    exact hn
  · obtain ⟨e2, hne⟩ := wipe_some e2
    have e3 : Vis cenv.scope y := e3
    rw [hsc] at e3
    have hfr : scope.names.lookup y = some .free := by
      rcases e3 with e3 | e3 | e3
      · exfalso
        rcases ok.own _ (PySem.mem_of_lookup e3) (.inl rfl) with e' | e'
        · obtain ⟨p, hp, hpy⟩ := List.mem_map.mp e'
          have e3 := ok.ix p hp
          have : p.1 = y := hpy
          rw [this] at e3
          exact hne (List.mem_map.mpr ⟨p, hp, nodup_ix hN e3 e1⟩)
        · exact e' (List.mem_of_getElem? e1)
      · exact absurd rfl (hcell _ (PySem.mem_of_lookup e3))
      · exact e3
    obtain ⟨m, hn, hl⟩ := I.loc
    have hvis : Vis X.env.scope y := (ok.free _ (PySem.mem_of_lookup hfr) rfl).elim (fun k => .inr (.inl k)) (fun k => .inr (.inr k))
    obtain ⟨w, r, q⟩ := hl i y av e1 e2 hvis
    refine ⟨w, r, .inr ⟨.inr (by show cenv.kindOf y = _; unfold Env.kindOf; rw [hsc]; exact hfr), ?_⟩⟩
    obtain ⟨c, h1, h2⟩ := look hfr
    rcases q with ⟨k, _⟩ | ⟨_, c', e', z⟩
    · have k : X.env.scope.names.lookup y = some .local := k
      rcases ok.free _ (PySem.mem_of_lookup hfr) rfl with k' | k' <;> rw [show X.env.scope.names.lookup y = _ from k'] at k <;> cases k
    · rw [h2] at e'; cases e'
      exact ⟨c, h1, z.keeps kp⟩
  · have e : cenv.cells.lookup y = some c := e
    obtain ⟨w, z⟩ := I.cell y c (mem e).1
    exact ⟨w, z.keeps kp⟩
  · show H cenv.locals = none
    rw [hL]; exact I.hok.fresh (Nat.le_refl _)
  · have e : cenv.cells.lookup y = some c := e
    exact I.freeC y c (mem e).1
  · have hq : q = p := by simpa using hq
    subst hq
    exact ⟨hp, I.hok.fresh (Nat.le_of_lt hps), by show q.1 ≠ cenv.locals; rw [hL]; exact Nat.ne_of_gt hps, stk _ (Nat.le_of_lt hps), hpd⟩
/-- the run gives back -/
theorem back_of {G : Gx} {B : Bx} {e0 : En} {scope : Scope} {own : List (Str × Nat)} {fp : List Addr} {A' : Around} {cenv : PySem.Env} {a : Addr} {gn : Nat} {o : Obj} (I : Inv X pins σ H s) (hc : X.calm = true) (hfp : ∀ b ∈ fp, FpOk X pins H b) (s0 : SS G B e0 σ H) (np : ∀ i ∈ own.map (·.2), i ∉ G.Pr) (nd : (own.map (·.2)).Nodup)
    (ig : ∀ h : Heap, h.get? a = some o → h.IsGen a gn) : Back X (gcx X A' s H cenv fp (a, o)) pins σ G B H a gn (own.map (·.2)) e0 where
  xe := fun _ _ z => z
  calm := hc
  inv := fun pn σ' H' s' I' => ⟨I.call' (ch := fp) I'.os I'.base I'.hok I'.bare fun b hb => ⟨(hfp b hb).2.2.2.1, (hfp b hb).2.1, (hfp b hb).2.2.2.2.1, (hfp b hb).2.2.2.2.2⟩,
    ig _ (I'.pin (a, o) (List.mem_append_left _ List.mem_cons_self)).1⟩
  ss := fun e H' x s' => s'.resume nd np fun i hi d hs => by
    obtain ⟨v, hv, hd⟩ := s0.var hs
    exact ⟨v, hv, hd.ext x⟩
theorem inv_gens {g' : Array GenState} (I : Inv X pins σ H s) (hg : AllBare g') : Inv X pins σ H { s with gens := g' } := ⟨I.ok, I.os, hg, I.base, I.loc, I.cell, I.free, I.freeC, I.pin, I.hok, I.len⟩
theorem SS.tab {G : Gx} {B : Bx} {e : En} {P : Addr} {ps ps' : Array Value} (s : SS G B e σ H) (hP : H P = some (.tbl ps)) (t : TriplesOk ps'.toList) : SS G B e σ (upd H P (.tbl ps')) ∧ Ext H (upd H P (.tbl ps')) := by
  have nP : ∀ b o, H b = some o → (∀ q, o ≠ .tbl q) → b ≠ P := fun b o e n z => by
    rw [z, hP] at e
    exact n ps (Option.some.inj e).symm
  have x : Ext H (upd H P (.tbl ps')) := ⟨fun b xs e => by rw [upd_ne (nP b _ e fun q z => by cases z)]; exact e, fun b o u e => by rw [upd_ne (nP b _ e fun q z => by cases z)]; exact e⟩
  have tab : ∀ Q, GxR.TabG H Q → GxR.TabG (upd H P (.tbl ps')) Q := fun Q ⟨qs, e, k⟩ => by
    by_cases h : Q = P
    · subst h; exact ⟨ps', upd_same, t⟩
    · exact ⟨qs, by rw [upd_ne h]; exact e, k⟩
  have kp : Keep B.A H (upd H P (.tbl ps')) := ⟨fun b o e _ n => by rw [upd_ne (nP b o e n)]; exact e, tab, x, fun b h => upd_some h⟩
  obtain ⟨as, bs, h1, h2, h3, h4⟩ := s.sl
  have own : ∀ a, (∃ o, H a = some o ∧ OwnO o) → upd H P (.tbl ps') a = H a := fun a ⟨o, e, w⟩ => upd_ne (nP a o e w.nt)
  exact ⟨⟨⟨as, bs, h1.keep x fun a ha => own a (h1.own a ha), h2.keep x fun a ha => own a (h2.own a ha), h3, h4⟩, s.kp.trans kp, fun Q hQ => tab Q (s.tb Q hQ), s.fx⟩, x⟩
end

/-! ### the reader's side -/
section
variable (X : Cx) (pins : List (Addr × Obj)) (σ : L2.St) (G : Gx) (B : Bx) (Hb : Hp) (a : Addr) (g : Nat) (ys : List D) (st : Bool) (ef : En)
structure Live {Z : List Addr} (M : Mode G.K ys Z) (A : Around) (j : Nat) (s : Shared) : Prop where
  gen : s.heap.IsGen a g
  lim : s.heap.NoLimit
  bare : AllBare s.gens
  run : ∃ gs, s.gens[g]? = some gs ∧ gs.Goes (model X.prog X.w) A (RD X pins σ G B Hb a g ys st ef M) (YD X pins σ G B Hb a g ys st ef M) (ys.length - j) (.send .none) (s.setGen g .running)
structure Ready (k : Nat) (s5 : Shared) : Prop where
  inv : Inv X pins σ Hb s5
  gen : s5.heap.IsGen a g
  run : ∃ gs, s5.gens[g]? = some gs ∧ ∀ (A : Around) (Z : List Addr) (M : Mode G.K ys Z) (s : Shared), Room k A → A.frames = some X.stack → (∀ z ∈ Z, s5.heap.objs.size ≤ z) → (∀ z ∈ Z, ∃ o, s.heap.get? z = some o ∧ ∀ v, o.data ≠ .cell v) →
    (∀ b o, s5.heap.get? b = some o → s.heap.get? b = some o) → s.os = s5.os → AllBare s.gens → M.own 0 Hb s.heap →
    gs.Goes (model X.prog X.w) A (RD X pins σ G B Hb a g ys st ef M) (YD X pins σ G B Hb a g ys st ef M) ys.length (.send .none) s
end
section
variable {X : Cx} {pins : List (Addr × Obj)} {σ : L2.St} {G : Gx} {B : Bx} {Hb : Hp} {a : Addr} {g : Nat} {ys : List D} {st : Bool} {ef : En} {Z : List Addr} {M : Mode G.K ys Z} {A : Around} {s s5 : Shared} {k j : Nat}
theorem Ready.live (R : Ready X pins σ G B Hb a g ys st ef k s5) (hr : Room k A) (hf : A.frames = some X.stack) (hZ : ∀ z ∈ Z, s5.heap.objs.size ≤ z) (hz : ∀ z ∈ Z, ∃ o, s.heap.get? z = some o ∧ ∀ v, o.data ≠ .cell v)
    (hk : ∀ b o, s5.heap.get? b = some o → s.heap.get? b = some o) (ho : s.os = s5.os) (hg : s.gens = s5.gens) (h0 : M.own 0 Hb s.heap) : Live X pins σ G B Hb a g ys st ef M A 0 s := by
  obtain ⟨gs, e, run⟩ := R.run
  have hb : AllBare s.gens := by rw [hg]; exact R.inv.bare
  exact ⟨R.gen.keeps hk, R.inv.nolimit.keeps hk, hb, gs, by rw [hg]; exact e, run A Z M (s.setGen g .running) hr hf hZ hz hk ho (allBare_setGen hb rfl) h0⟩
theorem live_next {Q : Option Value → Shared → Prop} {E : Value → Shared → Prop} (hh : A.handled = none) (hroom : A.depth < recursionLimit) (nex : ∀ j H v (h : Heap), M.own j H h → ∃ h', M.nap j v h h') (haZ : a ∉ Z) (hcZ : cStatics ∉ Z) (hj : j ≤ ys.length) (hst : j = ys.length → st = false)
    (L : Live X pins σ G B Hb a g ys st ef M A.in1 j s)
    (hY : j < ys.length → ∀ s' d u v H', ys[j]? = some d → RelV u v → Im G.K H' d u → M.own j H' s'.heap → Inv X pins σ H' s' → Ext Hb H' → (∀ z ∈ Z, H' z = none ∧ ∃ o, s'.heap.get? z = some o) → (j + 1 = ys.length → st = true → SS G B ef σ H') →
      ((j + 1 = ys.length → st = false) → ∀ s'', s''.os = s'.os → s''.gens = s'.gens → M.nap j v s'.heap s''.heap → Live X pins σ G B Hb a g ys st ef M A.in1 (j + 1) s'') → Q (some v) s')
    (hP : j = ys.length → ∀ s' H', M.own j H' s'.heap → Inv X pins σ H' s' → Ext Hb H' → (∀ z ∈ Z, H' z = none ∧ ∃ o, s'.heap.get? z = some o) → SS G B ef σ H' → Q none s') :
    wpAny (model X.prog X.w) A (pyNext (.ref a)) Q E s := by
  obtain ⟨hg, hl, hb, gs, hgs, hgo⟩ := L
  have hgl : g < s.gens.size := (Array.getElem?_eq_some_iff.mp hgs).1
  rcases Nat.lt_or_eq_of_le hj with hlt | heq
  · obtain ⟨m, hm⟩ : ∃ m, ys.length - j = m + 1 := ⟨ys.length - j - 1, by omega⟩
    rw [hm] at hgo
    refine GenW.wpAny_gsz (n := g + 1) hgl (wpAny_pyNext_genexpQ (P := PD X pins σ G B Hb a g ys st ef M) hh hl hroom hg hgs hgo (fun v s₁ gs' hbare hv => ?_) fun s₁ hp h' hk => ?_)
    · intro hsz
      obtain ⟨_, d, u, H', hd, r, im, ow, I, ig, x, zi, hs, kap⟩ := hv
      have e1 : ys.length - (m + 1 - 1 + 1) = j := by omega
      rw [e1] at hd ow kap
      have I2 : Inv X pins σ H' (s₁.setGen g gs') := inv_gens I (allBare_setGen I.bare hbare)
      refine hY hlt (s₁.setGen g gs') d u v H' hd r im ow I2 x zi (fun h1 h2 => hs (by omega) h2) fun hns s'' os gn nap => ?_
      have hsz1 : g < s₁.gens.size := by
        have q : (s₁.setGen g gs').gens.size = s₁.gens.size := GenW.setGen_size _ _ _
        have hsz' : g + 1 ≤ (s₁.setGen g gs').gens.size := hsz
        omega
      have hb2 : AllBare s''.gens := by rw [gn]; exact I2.bare
      refine ⟨?_, ?_, hb2, gs', ?_, ?_⟩
      · obtain ⟨o, nm, qn, ho, r⟩ := ig
        exact ⟨o, nm, qn, M.nkeep _ _ _ _ nap a o haZ ho, r⟩
      · obtain ⟨mc, hns, hnn⟩ := I.nolimit
        exact ⟨mc, hns.at' fun o e => M.nkeep _ _ _ _ nap _ o hcZ e, hnn⟩
      · rw [gn]; exact setGen_at hsz1
      · have e2 : ys.length - (j + 1) = m := by omega
        rw [e2]
        exact kap (fun h0 => hns (by omega)) (s''.setGen g .running) os (allBare_setGen hb2 rfl) nap
    · intro _
      exact absurd hp.1 (Nat.succ_ne_zero m)
  · subst heq
    rw [Nat.sub_self] at hgo
    refine wpAny_pyNext_genexpQ (P := PD X pins σ G B Hb a g ys st ef M) hh hl hroom hg hgs hgo (fun v s₁ gs' hbare hv => ?_) fun s₁ hp h' hk => ?_
    · obtain ⟨_, d, u, H', hd, r, im, ow, I, ig, x, zi, hs, kap⟩ := hv
      obtain ⟨h', hn⟩ := nex _ _ v _ ow
      exact (kap (fun _ => hst rfl) { s₁ with heap := h' } rfl I.bare hn).elim
    · obtain ⟨_, _, H', ow, I, ig, x, zi, ss⟩ := hp
      refine hP rfl _ H' (M.keep _ _ _ _ _ ow (Ext.refl _) fun b _ o e => hk b o e) ?_ x (fun z hz => ⟨(zi z hz).1, let ⟨o, e⟩ := (zi z hz).2; ⟨o, hk z o e⟩⟩) ss
      exact Inv.kept (s := s₁.setGen g .finished) (t' := s₁.toks) (inv_gens I (allBare_setGen I.bare rfl)) hk
end
end VL
end

section
set_option Elab.async false
set_option linter.all false
set_option maxRecDepth 100000
/-! VLm: generator expressions: the two forms, the creation. -/
namespace VL
open PySem PySem.Spec L2 VD
open PyProof.Rows (AllBare IsTup)
theorem backE_wipe {e0 : En} : ∀ {own : List Nat} {e : En}, own.Nodup → backE e0 (wipeE e own) own = backE e0 e own
  | [], e, _ => rfl
  | i :: is, e, nd => by
    obtain ⟨n1, n2⟩ := List.nodup_cons.mp nd
    have comm : ∀ {is : List Nat} {e : En} {k : Option M}, i ∉ is → (wipeE e is).set i k = wipeE (e.set i k) is := by
      intro is
      induction is with
      | nil => intro e k _; rfl
      | cons j js ih =>
        intro e k h
        have hj : j ≠ i := fun z => h (by rw [z]; exact List.mem_cons_self)
        show ((wipeE e js).set j none).set i k = (wipeE (e.set i k) js).set j none
        rw [List.set_comm _ _ hj, ih fun z => h (List.mem_cons_of_mem _ z)]
    show backE e0 (((wipeE e is).set i none).set i (keepO (slot e0 i))) is = backE e0 (e.set i (keepO (slot e0 i))) is
    rw [List.set_set, comm n1]
    exact backE_wipe n2
theorem genL1_nil {g : FG} {t : FT} {x : FE} {own : List Nat} {stop : D → Option Bool} : ∀ {l : List D} {e e' : En} {b : Bool}, genL1 g t x own stop l e = some (([], b), e') → b = false
  | [], e, e', b, h => by cases h; rfl
  | z :: l, e, e', b, h => by
    obtain ⟨_, _, h⟩ := bnd h
    obtain ⟨⟨c, _⟩, _, h⟩ := bnd h
    cases c with
    | false => simp only [Bool.false_eq_true, if_false] at h; exact genL1_nil h
    | true =>
      simp only [if_true] at h
      obtain ⟨_, _, h⟩ := bnd h
      obtain ⟨c2, _, h⟩ := bnd h
      cases c2 with
      | true => simp only [if_true] at h; cases h
      | false =>
        simp only [Bool.false_eq_true, if_false] at h
        obtain ⟨_, _, h⟩ := bnd h
        cases h
theorem genL2_nil {g g1 : FG} {t t1 : FT} {it1 : FI} {x : FE} {own own1 : List Nat} {stop : D → Option Bool} : ∀ {l : List D} {e e' : En} {b : Bool}, genL2 g t it1 g1 t1 x own own1 stop l e = some (([], b), e') → b = false
  | [], e, e', b, h => by cases h; rfl
  | z :: l, e, e', b, h => by
    obtain ⟨_, _, h⟩ := bnd h
    obtain ⟨⟨c, _⟩, _, h⟩ := bnd h
    cases c with
    | false => simp only [Bool.false_eq_true, if_false] at h; exact genL2_nil h
    | true =>
      simp only [if_true] at h
      obtain ⟨_, _, h⟩ := bnd h
      obtain ⟨⟨⟨y1, b1⟩, e1⟩, h1, h⟩ := bnd h
      cases b1 with
      | true =>
        simp only [if_true, Option.some.injEq, Prod.mk.injEq] at h
        rw [h.1.1] at h1
        exact absurd (genL1_nil h1) (by simp)
      | false =>
        simp only [Bool.false_eq_true, if_false] at h
        obtain ⟨⟨⟨y2, b2⟩, e2⟩, h2, h⟩ := bnd h
        simp only [Option.some.injEq, Prod.mk.injEq, List.append_eq_nil_iff] at h
        rw [h.1.1.2, h.1.2] at h2
        exact genL2_nil h2
theorem wipe_wipe {σ : L2.St} {own own1 : List Nat} (h : ∀ i ∈ own1, i ∈ own) : L2.wipe (L2.wipe σ own1) own = L2.wipe σ own := by
  refine List.ext_getElem? fun j => ?_
  by_cases hj : j ∈ own
  · by_cases hlt : j < σ.length
    · rw [wipe_in hj (by rw [wipe_length]; exact hlt), wipe_in hj hlt]
    · rw [List.getElem?_eq_none (by rw [wipe_length, wipe_length]; omega), List.getElem?_eq_none (by rw [wipe_length]; omega)]
  · rw [wipe_get hj, wipe_get fun z => hj (h j z), wipe_get hj]
section
variable {X Y : Cx} {pins : List (Addr × Obj)} {σ : L2.St} {G : Gx} {B : Bx} {H1 : Hp} {a : Addr} {gn : Nat} {ys : List D} {st : Bool} {Z : List Addr} {M : Mode G.K ys Z}
/-- one clause -/
theorem seg_one {elt tg iter : Expr} {ifs : List Expr} {scope : Scope} {pos : Pos} {it : Addr} {A : Around} {own sl : List Nat} {e0 er : En} {g : FG} {t : FT} {x : FE} {stop : D → Option Bool} {fp : List Addr} {tn : Nat → Heap → Prop} {J : It} {ds : List D} {e : En} {zp : List (Addr × Obj)} {s₀ s : Shared}
    (bk : Back X Y pins σ G B H1 a gn own e0) (zk : ZOk Y Z)
    (hco : Y.env.scope.isCoroutine = false) (hov : A.over (.compLoop (.GeneratorExp elt [⟨tg, iter, ifs, 0⟩] scope pos) 0 (.ref it) .none Y.env) [] = Y.A)
    (T : Turn Y.prog Y.w Y.K tg J fp it tn) (ok : ItOk G.K H1 J ds) (hf : ∀ zp H', ZP zp Z → (∀ b ∈ fp, H' b = none) → ∀ b ∈ fp, FpOk Y zp H' b) (hfz : ∀ b ∈ fp, b ∉ Z)
    (pg : PG Y tg (tGt G g sl)) (pt : PTs Y ifs (tT G t)) (pe : PE Y elt (tV G x)) (np : ∀ i ∈ own, i ∉ G.Pr) (nd : own.Nodup) (hsl : ∀ i ∈ sl, i ∈ own)
    (h : genL1 g t x own stop ds e = some ((ys, st), er)) (hz : ZP zp Z) (I : Inv Y zp (L2.wipe σ own) H1 s) (ss : SS G B e (L2.wipe σ own) H1) (n5 : ∀ b ∈ fp, H1 b = none) (st5 : tn 0 s.heap) (ow : M.own 0 H1 s.heap) :
    Seg (model Y.prog Y.w) A (RD X pins σ G B H1 a gn ys st (backE e0 er own) M) (YD X pins σ G B H1 a gn ys st (backE e0 er own) M) ys.length s₀ (.compLoop (.GeneratorExp elt [⟨tg, iter, ifs, 0⟩] scope pos) 0 (.ref it) .none Y.env)
      ((model Y.prog Y.w).den (.compLoop (.GeneratorExp elt [⟨tg, iter, ifs, 0⟩] scope pos) 0 (.ref it) .none Y.env)) [] s := by
  have := seg_in (M := M) (E := .GeneratorExp elt [⟨tg, iter, ifs, 0⟩] scope pos) (k := 0) (fs := []) (σ1 := σ) (own1 := own) (tl := []) (qp := []) (er := er) (Hi := H1) (ds := ds) (stop := stop) (ef := backE e0 er own) bk zk ⟨_, rfl⟩ (compTurn_gen ..) hco hov rfl rfl T ok (fun zp H' hz hn => by rw [List.append_nil]; exact hf zp H' hz hn) hfz (fun p hp => by simp at hp) (Ext.refl _)
    pg pt pe np (fun i hi => hi) hsl rfl (fun s₀ s H' zp hz I ss x ow hs => ?_) ds 0 e H1 s₀ s ys st er zp (by simp) (Nat.zero_le _) h ⟨[], by simp⟩ (fun _ => rfl) (fun hb => ⟨rfl, hb, (backE_wipe nd).symm⟩) (fun _ hb => hb) hz (by rw [List.append_nil]; exact I) ss n5 (Ext.refl _) st5 (by simpa using ow)
  · rw [List.append_nil] at this
    exact this
  · rw [List.append_nil] at I
    obtain ⟨Io, ig⟩ := bk.inv _ _ _ _ I
    refine seg_end (.ok .next) ⟨rfl, rfl, hs rfl, H', by simpa using ow, Io, ig, x, fun z hz2 => ?_, bk.ss _ _ x ss⟩
    obtain ⟨o, ho⟩ := hz.all z hz2
    have := I.pin (z, o) (List.mem_append_right _ ho)
    exact ⟨this.2.1, o, this.1⟩
/-- the second clause's start -/
theorem seg_start1 {E : Expr} {it : Addr} {fs : List Frame} {A : Around} {R : GenEnd} {P : Protocol} {n : Nat} {s₀ s : Shared} (hden : ∃ hr, (model Y.prog Y.w).den (.compStart E 1 (.ref it) .none Y.env) = (compStart E 1 (.ref it) .none Y.env).onRaise hr) (hcl : ∃ c, (clausesOf E)[1]? = some c ∧ c.is_async = 0)
    (hself : ∀ (Q : Value → Shared → Prop) (E' : Value → Shared → Prop), Q (.ref it) s → wpAny (model Y.prog Y.w) (A.over (.compStart E 1 (.ref it) .none Y.env) fs) (pyIter (.ref it)) Q E' s)
    (h : Seg (model Y.prog Y.w) A R P n s₀ (.compLoop E 1 (.ref it) .none Y.env) ((model Y.prog Y.w).den (.compLoop E 1 (.ref it) .none Y.env)) fs s) :
    Seg (model Y.prog Y.w) A R P n s₀ (.compStart E 1 (.ref it) .none Y.env) ((model Y.prog Y.w).den (.compStart E 1 (.ref it) .none Y.env)) fs s := by
  obtain ⟨hr, hden⟩ := hden
  obtain ⟨c, hc, ha⟩ := hcl
  rw [hden]
  unfold compStart
  rw [hc, Sem.onRaise_eq_wrap]
  have e1 : (((some c).elim false (·.is_async != 0)) = true) = False := by simp [ha]
  simp only [e1, if_false]
  show Seg _ A _ _ _ s₀ _ ((ask >>= _).wrap _ _ _ _) fs s
  refine seg_bind_wrap (wpAny_askSetting ?_)
  split
  · exact seg_again rfl h
  · refine seg_bind_wrap (wpAny_rule ?_)
    show Seg _ A _ _ _ s₀ _ ((standAt _ >>= _).wrap _ _ _ _) fs s
    exact seg_bind_wrap (wpAny_standAt (seg_bind_wrap (hself _ _ (seg_again rfl h))))
theorem compTurn2_gout (elt t0 i0 t1 i1 : Expr) (ifs0 ifs1 : List Expr) (scope : Scope) (pos : Pos) (it acc : Value) (env : PySem.Env) :
    compTurn (.GeneratorExp elt [⟨t0, i0, ifs0, 0⟩, ⟨t1, i1, ifs1, 0⟩] scope pos) 0 it acc env = (do
      standAt i0.pos
      match ← pyNext it with
      | none => pure (.done .next)
      | some v =>
        letOwnedTupleGo t0 it v
        assign t0 env v
        let mut ok := true
        for c in ifs0 do
          if ok then ok ← isTrue c env (eval c env)
        if ok then
          let x ← eval i1 env
          standAt i1.pos
          let x ← foldedSetIterable i1 env x
          let _ ← runOwn (.compStart (.GeneratorExp elt [⟨t0, i0, ifs0, 0⟩, ⟨t1, i1, ifs1, 0⟩] scope pos) 1 (← holding [x] (pyIter x)) acc env) env
        again (.compLoop (.GeneratorExp elt [⟨t0, i0, ifs0, 0⟩, ⟨t1, i1, ifs1, 0⟩] scope pos) 0 it acc env)) := by rfl
theorem compTurn2_gin (elt t0 i0 t1 i1 : Expr) (ifs0 ifs1 : List Expr) (scope : Scope) (pos : Pos) (it acc : Value) (env : PySem.Env) :
    compTurn (.GeneratorExp elt [⟨t0, i0, ifs0, 0⟩, ⟨t1, i1, ifs1, 0⟩] scope pos) 1 it acc env = (do
      standAt i1.pos
      match ← pyNext it with
      | none => pure (.done .next)
      | some v =>
        letOwnedTupleGo t1 it v
        assign t1 env v
        let mut ok := true
        for c in ifs1 do
          if ok then ok ← isTrue c env (eval c env)
        if ok then
          (do let v ← eval elt env; standAt elt.pos; let _ ← yieldOut env v)
        again (.compLoop (.GeneratorExp elt [⟨t0, i0, ifs0, 0⟩, ⟨t1, i1, ifs1, 0⟩] scope pos) 1 it acc env)) := by rfl
/-- two clauses -/
theorem seg_two {elt tg iter tg1 iter1 : Expr} {ifs ifs1 : List Expr} {scope : Scope} {pos : Pos} {it : Addr} {A : Around} {own own1 sl sl1 : List Nat} {e0 ef : En} {g g1 : FG} {t t1 : FT} {it1 : FI} {x : FE} {stop : D → Option Bool} {fp : List Addr} {tn : Nat → Heap → Prop} {J : It} {ds : List D}
    (bk : Back X Y pins σ G B H1 a gn own e0) (zk : ZOk Y Z)
    (hco : Y.env.scope.isCoroutine = false) (hov : A.over (.compLoop (.GeneratorExp elt [⟨tg, iter, ifs, 0⟩, ⟨tg1, iter1, ifs1, 0⟩] scope pos) 0 (.ref it) .none Y.env) [] = Y.A) (hs1 : ∀ x, foldedSetIterable iter1 Y.env x = pure x)
    (T : Turn Y.prog Y.w Y.K tg J fp it tn) (ok : ItOk G.K H1 J ds) (hf : ∀ zp H', ZP zp Z → (∀ b ∈ fp, H' b = none) → ∀ b ∈ fp, FpOk Y zp H' b) (hfz : ∀ b ∈ fp, b ∉ Z)
    (pg : PG Y tg (tGt G g sl)) (pt : PTs Y ifs (tT G t)) (pi1 : PI Y tg1 iter1 (tI G it1)) (pg1 : PG Y tg1 (tGt G g1 sl1)) (pt1 : PTs Y ifs1 (tT G t1)) (pe : PE Y elt (tV G x)) (np : ∀ i ∈ own, i ∉ G.Pr) (nd : own.Nodup) (hsl : ∀ i ∈ sl, i ∈ own) (np1 : ∀ i ∈ own1, i ∈ own) (hsl1 : ∀ i ∈ sl1, i ∈ own1) :
    ∀ (ds' : List D) (i : Nat) (e : En) (H' : Hp) (s₀ s : Shared) (ys1 : List D) (er : En) (zp : List (Addr × Obj)), ds' = ds.drop i → i ≤ ds.length → genL2 g t it1 g1 t1 x own own1 stop ds' e = some ((ys1, st), er) → ef = backE e0 er own →
      (∃ pre, ys = pre ++ ys1) → ZP zp Z → Inv Y zp (L2.wipe σ own) H' s → SS G B e (L2.wipe σ own) H' → (∀ b ∈ fp, H' b = none) → Ext H1 H' → tn i s.heap → M.own (ys.length - ys1.length) H' s.heap →
      Seg (model Y.prog Y.w) A (RD X pins σ G B H1 a gn ys st ef M) (YD X pins σ G B H1 a gn ys st ef M) ys1.length s₀ (.compLoop (.GeneratorExp elt [⟨tg, iter, ifs, 0⟩, ⟨tg1, iter1, ifs1, 0⟩] scope pos) 0 (.ref it) .none Y.env)
        ((model Y.prog Y.w).den (.compLoop (.GeneratorExp elt [⟨tg, iter, ifs, 0⟩, ⟨tg1, iter1, ifs1, 0⟩] scope pos) 0 (.ref it) .none Y.env)) [] s := by
  have hden : ∃ hr, (model Y.prog Y.w).den (.compLoop (.GeneratorExp elt [⟨tg, iter, ifs, 0⟩, ⟨tg1, iter1, ifs1, 0⟩] scope pos) 0 (.ref it) .none Y.env) = (compTurn (.GeneratorExp elt [⟨tg, iter, ifs, 0⟩, ⟨tg1, iter1, ifs1, 0⟩] scope pos) 0 (.ref it) .none Y.env).onRaise hr := ⟨_, rfl⟩
  obtain ⟨hr, hden⟩ := hden
  have zkeep : ∀ {zp : List (Addr × Obj)} {pl : List (Addr × Obj)} {σ' σ2 : L2.St} {H' H2 : Hp} {s s' : Shared}, ZP zp Z → Inv Y zp σ' H' s → Inv Y (zp ++ pl) σ2 H2 s' → ∀ b ∈ Z, ∀ o, s.heap.get? b = some o → s'.heap.get? b = some o := fun {zp pl σ' σ2 H' H2 s s'} hz I I' b hb o e => by
    obtain ⟨o', ho⟩ := hz.all b hb
    have h1 := (I.pin (b, o') (List.mem_append_right _ ho)).1
    have h2 := (I'.pin (b, o') (List.mem_append_right _ (List.mem_append_left _ ho))).1
    rw [e] at h1
    cases h1
    exact h2
  intro ds'
  induction ds' with
  | nil =>
    intro i e H' s₀ s ys1 er zp hds hi h hef hpre hz I ss n5 x5 st5 ow
    cases h
    have hi2 : i = ds.length := by
      have := congrArg List.length hds
      simp at this
      omega
    rw [hden, compTurn2_gout, Sem.onRaise_eq_wrap]
    refine seg_bind_wrap (wpAny_standAt ?_)
    refine seg_bind_wrap ?_
    rw [hov]
    refine thnF (T.done Y rfl rfl rfl bk.calm i zp s _ H' (fun _ _ => False) I (hf zp H' hz n5) st5 ((ok i H' x5).2 hi2)) fun r s1 ⟨hr1, I1⟩ => ?_
    subst hr1
    obtain ⟨Io, ig⟩ := bk.inv _ _ _ _ I1
    refine seg_end (.ok .next) ⟨rfl, rfl, rfl, H', ?_, Io, ig, x5, fun z hz2 => ?_, by rw [hef]; exact bk.ss _ _ x5 ss⟩
    · have ow : M.own (ys.length - 0) H' s.heap := ow
      rw [Nat.sub_zero] at ow
      exact M.keep _ _ _ _ _ ow (Ext.refl _) (zkeep (pl := []) hz I (by rw [List.append_nil]; exact I1))
    · obtain ⟨o, ho⟩ := hz.all z hz2
      have := I1.pin (z, o) (List.mem_append_right _ ho)
      exact ⟨this.2.1, o, this.1⟩
  | cons d ds' ih =>
    intro i e H' s₀ s ys1 er zp hds hi h hef hpre hz I ss n5 x5 st5 ow
    have hlt : i < ds.length := by
      have := congrArg List.length hds
      simp at this
      omega
    have hd : ds[i]? = some d := by
      rw [List.drop_eq_getElem_cons hlt] at hds
      rw [List.getElem?_eq_getElem hlt]
      exact congrArg some (List.cons.inj hds).1.symm
    have hdr : ds' = ds.drop (i + 1) := by
      rw [List.drop_eq_getElem_cons hlt] at hds
      exact (List.cons.inj hds).2
    obtain ⟨e4, h4, hA⟩ := bnd h
    obtain ⟨⟨b, e5⟩, h5, hB⟩ := bnd hA
    obtain ⟨go, yl⟩ := (ok i H' x5).1 d hd
    rw [hden, compTurn2_gout, Sem.onRaise_eq_wrap]
    refine seg_bind_wrap (wpAny_standAt ?_)
    refine seg_bind_wrap ?_
    rw [hov]
    refine thnF (T.item Y rfl rfl rfl bk.calm i zp s _ H' (fun _ _ => False) I (hf zp H' hz n5) st5 go) fun r s1 ⟨u, hr1, h1⟩ => ?_
    subst hr1
    refine seg_bind_wrap ?_
    rw [hov]
    refine thnF h1 fun _ s2 ⟨v, H2, I2, r2, y2, st2, n2⟩ => ?_
    have fpo : ∀ b ∈ fp, FpOk Y zp H2 b := hf zp H2 hz n2
    have I2' := I2.pinned fpo (T.obj _ _ st2)
    obtain ⟨gr, im⟩ := yl v H2 y2
    refine seg_bind_wrap ?_
    rw [hov]
    refine thnX bk.xe (pg.run _ s2 _ H2 v u (fun σ3 H3 => SS G B e4 σ3 H3 ∧ Ext H2 H3 ∧ Agree sl (L2.wipe σ own) σ3) I2' r2 ⟨B, e, d, e4, ss.grow gr, im, h4, fun σ3 H3 s3 x3 ag => ⟨s3, x3, ag⟩⟩) fun _ s3 ⟨σ3, H3, I3, ss3, x3, ag⟩ => ?_
    have hw3 : L2.wipe σ3 own = L2.wipe σ own := wipe_agree (ag.mono hsl)
    refine seg_bind_wrap ?_
    rw [hov]
    refine thnX bk.xe (pt.run _ s3 σ3 H3 (fun b' H4 => b' = b ∧ SS G B e5 σ3 H4 ∧ Ext H3 H4) I3 ⟨B, e4, b, e5, ss3, h5, fun H4 s4 x4 => ⟨rfl, s4, x4⟩⟩) fun b' s4 ⟨H4, I4, eb, ss4, x4⟩ => ?_
    subst eb
    have pin' : ∀ {zp' : List (Addr × Obj)} {σ' : L2.St} {H5 : Hp} {s5 : Shared}, Inv Y (zp' ++ pinsAt fp s2.heap) σ' H5 s5 → (∀ b ∈ fp, ∀ o, s2.heap.get? b = some o → s5.heap.get? b = some o ∧ H5 b = none) := fun {zp' σ' H5 s5} I' b hb o e =>
      let z := I'.pin (b, o) (List.mem_append_right _ (List.mem_append_right _ (mem_pinsAt hb e)))
      ⟨z.1, z.2.1⟩
    have nfp : ∀ {zp' : List (Addr × Obj)} {σ' : L2.St} {H5 : Hp} {s5 : Shared}, Inv Y (zp' ++ pinsAt fp s2.heap) σ' H5 s5 → ∀ b ∈ fp, H5 b = none := fun {zp' σ' H5 s5} I' b hb => by
      obtain ⟨o, e, _⟩ := T.obj _ _ st2 b hb
      exact (pin' I' b hb o e).2
    have xx : Ext H1 H4 := ((x5.trans gr.ext).trans x3).trans x4
    cases b' with
    | false =>
      simp only [Bool.false_eq_true, if_false] at hB ⊢
      have ss5 := ss4.wipe own np
      rw [hw3] at ss5
      have I5 : Inv Y zp (L2.wipe σ own) H4 s4 := (I4.unpinned).weak (by rw [← hw3, wipe_length]) fun j v e => by rw [← hw3] at e; exact (wipe_some e).1
      exact seg_again rfl (ih (i + 1) _ H4 s₀ s4 ys1 er zp hdr hlt hB hef hpre hz I5 ss5 (nfp I4) xx (T.keep _ _ _ st2 fun b hb o e => (pin' I4 b hb o e).1) (M.keep _ _ _ _ _ ow ((gr.ext.trans x3).trans x4) (zkeep hz I I4)))
    | true =>
      simp only [if_true] at hB ⊢
      obtain ⟨⟨ds1, e6⟩, h6, hC⟩ := bnd hB
      obtain ⟨⟨⟨y1, b1⟩, e7⟩, h7, hD⟩ := bnd hC
      refine seg_bind_wrap ?_
      rw [hov]
      refine thnX bk.xe (pi1.run _ s4 σ3 H4 (fun J1 H5 => SS G B e6 σ3 H5 ∧ Ext H4 H5 ∧ ItOk G.K H5 J1 ds1) I4 ⟨B, e5, ds1, e6, ss4, h6, fun J1 H5 s5 x5 ok5 => ⟨s5, x5, ok5⟩⟩) fun xv s5 hx => ?_
      refine seg_bind_wrap (wpAny_standAt ?_)
      refine seg_bind_wrap (wpAny_of_eq (hs1 xv) ?_)
      refine seg_bind_wrap ?_
      rw [hov]
      refine wpAny_holding (thnX bk.xe hx fun itv s6 hx6 => ?_)
      obtain ⟨it2, fp1, tn1, J1, H6, ei, I6, T1, st6, f6, ss6, x6, ok6⟩ := hx6
      subst ei
      have f6z : ∀ b ∈ fp1, b ∉ Z := fun b hb hz2 => by
        obtain ⟨o, ho⟩ := hz.all b hz2
        exact (f6 b hb).2.2.2.2.2 (b, o) (List.mem_append_right _ (List.mem_append_left _ ho)) rfl
      have hf6 : ∀ (zp' : List (Addr × Obj)) (H' : Hp), ZP zp' Z → (∀ b ∈ fp1, H' b = none) → ∀ b ∈ fp1, FpOk Y (zp' ++ pinsAt fp s2.heap) H' b := fun zp' H' hz' hn b hb => by
        obtain ⟨_, q1, q2, q3, q4, q5⟩ := f6 b hb
        refine ⟨hn b hb, q1, q2, q3, q4, fun p hp => ?_⟩
        rcases List.mem_append.mp hp with hp | hp
        · exact q5 p (List.mem_append_left _ hp)
        · rcases List.mem_append.mp hp with hp | hp
          · exact fun e => f6z b hb (by rw [← e]; exact hz'.sub p hp)
          · exact q5 p (List.mem_append_right _ (List.mem_append_right _ hp))
      have ss7 := ss6.wipe own1 fun i hi => np i (np1 i hi)
      have I7 : Inv Y (zp ++ pinsAt fp s2.heap) (L2.wipe σ3 own1) H6 s6 := I6.weak (wipe_length _ _) fun j v e => (wipe_some e).1
      have xx6 : Ext H1 H6 := xx.trans x6
      have ow6 := M.keep _ _ _ _ _ ow (((gr.ext.trans x3).trans x4).trans x6) (zkeep hz I I7)
      refine seg_call fun p => ?_
      refine seg_start1 ⟨_, rfl⟩ ⟨_, rfl, rfl⟩ (fun Q E' q => T1.self _ 0 _ _ _ st6 q) ?_
      obtain ⟨tl, z2, hys, hst1, htl, hgo⟩ : ∃ (tl : List D) (z2 : En), ys1 = y1 ++ tl ∧ (b1 = true → tl = [] ∧ st = true ∧ er = wipeE e7 own) ∧ (tl = [] → b1 = false → st = false) ∧ (b1 = false → genL2 g t it1 g1 t1 x own own1 stop ds' (wipeE e7 own) = some ((tl, st), er)) := by
        cases b1 with
        | true =>
          simp only [if_true, Option.some.injEq, Prod.mk.injEq] at hD
          obtain ⟨⟨q1, q2⟩, q3⟩ := hD
          exact ⟨[], e7, by rw [← q1]; simp, fun _ => ⟨rfl, q2.symm, q3.symm⟩, (fun _ h => by cases h), fun h => by cases h⟩
        | false =>
          simp only [Bool.false_eq_true, if_false] at hD
          obtain ⟨⟨⟨y2, b2⟩, e8⟩, q, hE⟩ := bnd hD
          simp only [Option.some.injEq, Prod.mk.injEq] at hE
          obtain ⟨⟨q1, q2⟩, q3⟩ := hE
          rw [q2, q3] at q
          exact ⟨y2, e8, q1.symm, (fun h => by cases h), (fun h _ => by rw [h] at q; exact genL2_nil q), fun _ => q⟩
      subst hys
      refine seg_in (M := M) (k := 1) (σ1 := σ3) (own := own) (own1 := own1) (tl := tl) (qp := pinsAt fp s2.heap) (er := e7) (Hi := H6) (ds := ds1) (stop := stop) (e0 := e0) (sl := sl1) bk zk ⟨_, rfl⟩ (compTurn2_gin ..) hco ((GenW.over_loop rfl rfl).trans hov) rfl rfl T1 ok6 hf6 f6z
        (fun p hp => hfz _ (of_pinsAt hp).1) xx6 pg1 pt1 pe np np1 hsl1 hw3 (fun s₀' s' H' zp' hz' I' ss' x' ow' hs' => ?_) ds1 0 _ H6 s₀ s6 y1 b1 e7 zp (by simp) (Nat.zero_le _) h7 hpre (fun _ => rfl)
        (fun hb => ⟨(hst1 hb).1, (hst1 hb).2.1, by rw [hef, (hst1 hb).2.2]⟩) htl hz I7 ss7 (fun b hb => (f6 b hb).1) (Ext.refl _) st6 ow6
      have b1f : b1 = false := by
        cases b1 with
        | false => rfl
        | true =>
          obtain ⟨q1, q2, _⟩ := hst1 rfl
          rw [hs' q1] at q2
          cases q2
      refine seg_leaf (.ok .next) ?_
      show Seg _ A _ _ _ s₀' _ (.pure (.again (.compLoop _ 0 (.ref it) .none Y.env))) [] s'
      have ss8 := ss'.wipe own np
      rw [wipe_wipe np1, hw3] at ss8
      have I8 : Inv Y zp' (L2.wipe σ own) H' s' := (I'.unpinned).weak (by rw [← hw3, wipe_length, wipe_length]) fun j v e => by
        rw [← hw3] at e
        obtain ⟨e1, e2⟩ := wipe_some e
        rw [wipe_get fun z => e2 (np1 j z)]
        exact e1
      refine seg_again rfl (ih (i + 1) _ H' s₀' s' tl er zp' hdr hlt (hgo b1f) hef ?_ hz' I8 ss8 (nfp I') (xx6.trans x') (T.keep _ _ _ st2 fun b hb o e => (pin' I' b hb o e).1) ow')
      obtain ⟨pre, hpre⟩ := hpre
      exact ⟨pre ++ y1, by rw [hpre]; simp⟩
end
end VL
end

section
set_option Elab.async false
set_option linter.all false
set_option maxRecDepth 100000
/-! VLn: generator expressions: the creation. -/
namespace VL
open PySem PySem.Spec L2 VD
open PyProof.Rows (AllBare IsTup)
theorem gen_make {M : Model} {A : Around} {E : Value → Shared → Prop} {s : Shared} {env : PySem.Env} {ex iter : Expr} {scope : Scope} {cl : List (Str × Addr)} {pos : Pos} {Q : Value → Shared → Prop}
    (heval : eval ex env = (do
      let x ← eval iter env
      standAt iter.pos
      let x ← genFold iter env x
      let it ← holding [x] (pyIter x)
      enterFrame
      let cl ← closureFor scope env
      let code ← genexprCode env pos (env.qual ++ "<genexpr>") scope
      let bi ← builtinsFor env.globals env.builtins
      let cenv ← newFunctionEnv scope env.globals cl [(".0", it)] (env.qual ++ "<genexpr>.") none code none bi
      newGenerator (.compStart ex 0 it .none cenv) "<genexpr>" (env.qual ++ "<genexpr>")))
    (hclos : closureFor scope env = pure cl) (hcell : ∀ y ∈ scope.names, y.2 ≠ .cell) (h0 : scope.names.lookup (".0" : Str) = some NameKind.local) (hkind : scope.kind = .function)
    (hroom : A.depth < recursionLimit)
    (h : wpAny M A (eval iter env) (fun xv s₁ => wpAny M A (pyIter xv) (fun it s₂ => s₂.heap.NoLimit ∧
      wpAny M A (genexprCode env pos (env.qual ++ "<genexpr>") scope) (fun code s₃ => wpAny M A (builtinsFor env.globals env.builtins) (fun bi s₄ =>
        ∀ h', h'.Ns s₄.heap.objs.size (fun y => if y = ".0" then some it else none) → Heap.SameBut s₄.heap.objs.size (s₄.heap.push { cls := .type "frame", data := .dict #[] }) h' →
          Q (.ref h'.objs.size) { s₄ with
            gens := s₄.gens.push (.fresh (.compStart ex 0 it .none (genEnv scope cl s₄.heap.objs.size code bi env))),
            toks := s₄.toks + 1 + 1 + 1,
            heap := h'.push { cls := .type "generator", data := .fields #[.int s₄.gens.size 0, .str "<genexpr>" (s₄.toks + 1), .str (env.qual ++ "<genexpr>") (s₄.toks + 1 + 1)] } }) E s₃) E s₂) E s₁) E s)
    (hs : ∀ x, genFold iter env x = pure x) :
    wpAny M A (eval ex env) Q E s := by
  rw [heval, hclos]
  refine wpAny_bind (wpAny_mono h (fun xv s₁ h₁ => ?_) fun _ _ e => e)
  refine wpAny_bind (wpAny_standAt ?_)
  refine wpAny_bind (wpAny_of_eq (hs xv) ?_)
  refine wpAny_bind (wpAny_holding (wpAny_mono h₁ (fun it s₂ h₂ => ?_) fun _ _ e => e))
  refine wpAny_bind (wpAny_enterFrame h₂.1 hroom ?_)
  refine wpAny_bind (wpAny_pure ?_)
  refine wpAny_bind (wpAny_mono h₂.2 (fun code s₃ h₃ => ?_) fun _ _ e => e)
  refine wpAny_bind (wpAny_mono h₃ (fun bi s₄ h₄ => ?_) fun _ _ e => e)
  have hbinds : ∀ y ∈ ([((".0" : Str), it)] : List (Str × Value)), scope.names.lookup y.1 = some NameKind.local := by
    intro y hy
    rcases List.mem_cons.mp hy with rfl | hy
    · exact h0
    · cases hy
  refine wpAny_bind (wpAny_newFunctionEnv hcell hbinds (fun h' hn' hs' => ?_) hkind)
  have e : (fun y : Str => ([((".0" : Str), it)] : List (Str × Value)).reverse.lookup y) = fun y : Str => if y = (".0" : Str) then some it else none := by
    funext y
    by_cases hy : y = ".0"
    · subst hy; simp
    · have : (y == (".0" : Str)) = false := by simpa using hy
      simp [List.lookup, this, hy]
  rw [e] at hn'
  simp only [newGenerator, newFields]
  refine wpAny_bind (wpAny_newGen (wpAny_bind (wpAny_mkText (wpAny_bind (wpAny_mkText (wpAny_newObj_type ?_ (by size_fits)))))))
  exact h₄ h' hn' hs'

theorem seg_start0 {P : Program} {w : World} {env : PySem.Env} {E : Expr} {it : Addr} {fs : List Frame} {A : Around} {R : GenEnd} {Pr : Protocol} {n : Nat} {s₀ s : Shared} (hden : ∃ hr, (model P w).den (.compStart E 0 (.ref it) .none env) = (compStart E 0 (.ref it) .none env).onRaise hr) (hcl : ∃ c, (clausesOf E)[0]? = some c ∧ c.is_async = 0)
    (hself : ∀ (Q : Value → Shared → Prop) (E' : Value → Shared → Prop), Q (.ref it) s → wpAny (model P w) (A.over (.compStart E 0 (.ref it) .none env) fs) (pyIter (.ref it)) Q E' s)
    (h : Seg (model P w) A R Pr n s₀ (.compLoop E 0 (.ref it) .none env) ((model P w).den (.compLoop E 0 (.ref it) .none env)) fs s) :
    Seg (model P w) A R Pr n s₀ (.compStart E 0 (.ref it) .none env) ((model P w).den (.compStart E 0 (.ref it) .none env)) fs s := by
  obtain ⟨hr, hden⟩ := hden
  obtain ⟨c, hc, ha⟩ := hcl
  rw [hden]
  unfold compStart
  rw [hc, Sem.onRaise_eq_wrap]
  have e1 : (((some c).elim false (·.is_async != 0)) = true) = False := by simp [ha]
  simp only [e1, if_false]
  show Seg _ A _ _ _ s₀ _ ((ask >>= _).wrap _ _ _ _) fs s
  refine seg_bind_wrap (wpAny_askSetting ?_)
  split
  · exact seg_again rfl h
  · refine seg_bind_wrap (wpAny_rule ?_)
    show Seg _ A _ _ _ s₀ _ ((standAt _ >>= _).wrap _ _ _ _) fs s
    exact seg_bind_wrap (wpAny_standAt (seg_bind_wrap (hself _ _ (seg_again rfl h))))

structure PGn (X : Cx) (G : Gx) (k : Nat) (ex : Expr) (f : FGn) : Prop where
  run : ∀ (pins : List (Addr × Obj)) (s : Shared) (σ : L2.St) (H : Hp) (B : Bx) (e : En) (stop : D → Option Bool) (ys : List D) (st : Bool) (ef : En), Inv X pins σ H s → SS G B e σ H → f stop e = some ((ys, st), ef) →
    wpAny (model X.prog X.w) X.A (eval ex X.env) (fun u s5 => ∃ a g Hb, u = .ref a ∧ Ext H Hb ∧ Ready X pins σ G B Hb a g ys st ef k s5) X.xe s
theorem room_over {k : Nat} {A : Around} {E : Expr} {it acc : Value} {cenv : PySem.Env} (hE : ∃ elt c r sc p, E = .GeneratorExp elt (c :: r) sc p) (r : Room (k + 1) A) : Room k (A.over (.compLoop E 0 it acc cenv) []) := by
  obtain ⟨elt, c, r0, sc, p, rfl⟩ := hE
  refine ⟨r.hd, ?_, ?_⟩
  · have := r.dp
    show A.depth + 0 + 1 + 3 * k + 5 < recursionLimit
    omega
  · have := r.un
    show A.units + 0 + 3 + 16 * k + 200 < cLine
    omega
section
variable {X : Cx} {G : Gx}
theorem pgn_core {elt tg iter : Expr} {ifs : List Expr} {more : List Comprehension} {scope : Scope} {gpos : Pos} {own : List (Str × Nat)} {it : FI} {LD : (D → Option Bool) → List D → En → Option ((List D × Bool) × En)} {c P : Addr} {k : Nat}
    (hc : X.calm = true) (hN : X.N.Nodup) (hr0 : Room 0 X.A) (TB : GxR.TabB X.base X.mg c P) (hP : P ∈ G.T) (hcode : X.env.code = .ref c) (hi : PI X tg iter (tI G it)) (ok : BlkOk X.N X.env.scope scope own) (hcell : ∀ y ∈ scope.names, y.2 ≠ .cell) (hdot : scope.names.lookup (".0" : Str) = some NameKind.local)
    (heval : eval (.GeneratorExp elt (⟨tg, iter, ifs, 0⟩ :: more) scope gpos) X.env = (do
      let x ← eval iter X.env
      standAt iter.pos
      let x ← genFold iter X.env x
      let it ← holding [x] (pyIter x)
      enterFrame
      let cl ← closureFor scope X.env
      let code ← genexprCode X.env gpos (X.env.qual ++ "<genexpr>") scope
      let bi ← builtinsFor X.env.globals X.env.builtins
      let cenv ← newFunctionEnv scope X.env.globals cl [(".0", it)] (X.env.qual ++ "<genexpr>.") none code none bi
      newGenerator (.compStart (.GeneratorExp elt (⟨tg, iter, ifs, 0⟩ :: more) scope gpos) 0 it .none cenv) "<genexpr>" (X.env.qual ++ "<genexpr>")))
    (np : (own.map (·.2)).all (fun i => !G.Pr.contains i) = true) (nd : (own.map (·.2)).Nodup) (hs : ∀ x, genFold iter X.env x = pure x)
    (hseg : ∀ (A : Around) (s3 : Shared) (H3 : Hp) (code : Value) (fp : List Addr) (p : Addr × Obj) (gn : Nat) (B : Bx) (e1 : En) (Z : List Addr) (stop : D → Option Bool) (ds ys : List D) (st : Bool) (er : En) (M : Mode G.K ys Z) (ia : Addr) (tn : Nat → Heap → Prop) (J : It) (zp : List (Addr × Obj)) (s₀ s : Shared) (σ : L2.St) (pins : List (Addr × Obj)) (cenv : PySem.Env) (Y : Cx),
      cenv = genEnv scope (cloFrom X.env.cells scope.names []) s3.heap.objs.size code builtinsNs X.env → Y = gcx X (A.over (.compLoop (.GeneratorExp elt (⟨tg, iter, ifs, 0⟩ :: more) scope gpos) 0 (.ref ia) .none cenv) []) s3 H3 cenv fp p →
      Room k Y.A → Back X Y pins σ G B H3 p.1 gn (own.map (·.2)) e1 → ZOk Y Z → Turn X.prog X.w X.K tg J fp ia tn → ItOk G.K H3 J ds → (∀ zp H', ZP zp Z → (∀ b ∈ fp, H' b = none) → ∀ b ∈ fp, FpOk Y zp H' b) → (∀ b ∈ fp, b ∉ Z) → LD stop ds (wipeE e1 (own.map (·.2))) = some ((ys, st), er) →
      ZP zp Z → Inv Y zp (L2.wipe σ (own.map (·.2))) H3 s → SS G B (wipeE e1 (own.map (·.2))) (L2.wipe σ (own.map (·.2))) H3 → (∀ b ∈ fp, H3 b = none) → tn 0 s.heap → M.own 0 H3 s.heap →
      Seg (model X.prog X.w) A (RD X pins σ G B H3 p.1 gn ys st (backE e1 er (own.map (·.2))) M) (YD X pins σ G B H3 p.1 gn ys st (backE e1 er (own.map (·.2))) M) ys.length s₀ (.compLoop (.GeneratorExp elt (⟨tg, iter, ifs, 0⟩ :: more) scope gpos) 0 (.ref ia) .none cenv)
        ((model X.prog X.w).den (.compLoop (.GeneratorExp elt (⟨tg, iter, ifs, 0⟩ :: more) scope gpos) 0 (.ref ia) .none cenv)) [] s) :
    PGn X G (k + 1) (.GeneratorExp elt (⟨tg, iter, ifs, 0⟩ :: more) scope gpos) (fun stop e => (it e).bind fun p => (LD stop p.1 (wipeE p.2 (own.map (·.2)))).bind fun r => some (r.1, backE p.2 r.2 (own.map (·.2)))) := by
  have np : ∀ i ∈ own.map (·.2), i ∉ G.Pr := fun i hi => by simpa using List.all_eq_true.mp np i hi
  refine ⟨fun pins s σ H B e stop ys st ef I ss h => ?_⟩
  obtain ⟨⟨ds, e1⟩, h1, hA⟩ := bnd h
  obtain ⟨⟨⟨ys', st'⟩, er⟩, h2, hB⟩ := bnd hA
  simp only [Option.some.injEq, Prod.mk.injEq] at hB
  obtain ⟨⟨q1, q2⟩, q3⟩ := hB
  subst q1 q2 q3
  have hfree : ∀ y ∈ scope.names, y.2 = .free → ∃ c, X.env.cells.lookup y.1 = some c := fun y hy e => by
    rcases ok.free y hy e with k | k
    · exact I.ok.has _ (.inl k)
    · exact I.ok.has _ (.inr k)
  have hdp : X.A.depth < recursionLimit := by have := hr0.dp; omega
  refine gen_make heval (closure_ok hfree) hcell hdot ok.kind hdp ?_ hs
  refine thn (hi.run pins s σ H (fun J H1 => SS G B e1 σ H1 ∧ Ext H H1 ∧ ItOk G.K H1 J ds) I ⟨B, e, ds, e1, ss, h1, fun J H1 s1 x1 ok1 => ⟨s1, x1, ok1⟩⟩) fun xv s1 hx => thn hx fun itv s2 hx2 => ?_
  obtain ⟨ia, fp, tn, J, H2, ei, I2, T, st2, f2, ss2, x2, ok2⟩ := hx2
  subst ei
  obtain ⟨ps, hPs, ht⟩ := ss2.tb P hP
  have hP2 : s2.heap.get? P = some { cls := .none, data := .fields ps } := I2.hok P _ hPs
  have cd : PySem.W.CodeHd s2.heap c P := TB.code.keeps fun b u e => I2.bk b u e
  have lim2 : s2.heap.NoLimit := I2.nolimit
  have fpP : ∀ b ∈ fp, b ≠ P := fun b hb z => by
    have := (f2 b hb).1
    rw [z, hPs] at this
    cases this
  have cont : ∀ (code : Value) (h3 : Heap) (tk : Nat) (ps' : Array Value), Heap.ExtBut P s2.heap h3 → h3.get? P = some { cls := .none, data := .fields ps' } → (∃ more, ps' = ps ++ more) → TriplesOk ps'.toList →
      wpAny (model X.prog X.w) X.A (builtinsFor X.env.globals X.env.builtins) (fun bi s₄ =>
        ∀ h', h'.Ns s₄.heap.objs.size (fun y => if y = ".0" then some (.ref ia) else none) → Heap.SameBut s₄.heap.objs.size (s₄.heap.push { cls := .type "frame", data := .dict #[] }) h' →
          (fun u s5 => ∃ a g Hb, u = Value.ref a ∧ Ext H Hb ∧ Ready X pins σ G B Hb a g ys' st' (backE e1 er (own.map (·.2))) (k + 1) s5) (.ref h'.objs.size) { s₄ with
            gens := s₄.gens.push (.fresh (.compStart (.GeneratorExp elt (⟨tg, iter, ifs, 0⟩ :: more) scope gpos) 0 (.ref ia) .none (genEnv scope (cloFrom X.env.cells scope.names []) s₄.heap.objs.size code bi X.env))),
            toks := s₄.toks + 1 + 1 + 1,
            heap := h'.push { cls := .type "generator", data := .fields #[.int s₄.gens.size 0, .str "<genexpr>" (s₄.toks + 1), .str (X.env.qual ++ "<genexpr>") (s₄.toks + 1 + 1)] } }) X.xe { s2 with heap := h3, toks := tk } := by
    intro code h3 tk ps' hx hP3 hmore ht3
    obtain ⟨bm, ob, e1', e2', e3', e4', e5', e6', e7', e8'⟩ := TB.bm
    have keep3 : ∀ b u, b ≠ P → s2.heap.get? b = some u → h3.get? b = some u := fun b u hb e => hx b u hb e
    refine wpAny_builtinsFor (m := X.mg) (by rw [I2.ok.glob]; exact (I2.mod.glob.keeps I2.bk).extBut hx TB.gP) e1' e2' (keep3 _ _ e4' (I2.bk _ _ e5')) e6' e7' e8' ?_
    obtain ⟨more', em⟩ := hmore
    subst em
    have I3 : Inv X pins σ (upd H2 P (.tbl (ps ++ more'))) { s2 with heap := h3, toks := tk } := GxR.inv_tab (g' := s2.gens) (d' := s2.drawn) I2 hPs (fun b o hb e => keep3 b o hb e) hP3 I2.bare
    obtain ⟨ss3, x3⟩ := ss2.tab hPs ht3
    generalize hH3 : upd H2 P (.tbl (ps ++ more')) = H3 at I3 ss3 x3
    generalize hs3 : ({ s2 with heap := h3, toks := tk } : Shared) = s3 at I3
    have eh3 : h3 = s3.heap := by rw [← hs3]
    have eg3 : s2.gens = s3.gens := by rw [← hs3]
    have f3 : ∀ b ∈ fp, FpOk X pins H3 b ∧ b < s3.heap.objs.size := fun b hb => by
      obtain ⟨o, e, _⟩ := T.obj _ _ st2 b hb
      refine ⟨⟨by rw [← hH3, upd_ne (fpP b hb)]; exact (f2 b hb).1, (f2 b hb).2⟩, ?_⟩
      rw [← eh3]
      exact Heap.lt_size (keep3 b o (fpP b hb) e)
    have st3 : tn 0 s3.heap := T.keep _ _ _ st2 fun b hb o e => by rw [← eh3]; exact keep3 b o (fpP b hb) e
    intro h' hn' hs'
    have hn' : h'.Ns s3.heap.objs.size (fun y => if y = ".0" then some (.ref ia) else none) := hn'
    have hs' : Heap.SameBut s3.heap.objs.size (s3.heap.push { cls := .type "frame", data := .dict #[] }) h' := hs'
    have hsz : h'.objs.size = s3.heap.objs.size + 1 := by rw [hs'.1, Heap.size_push]
    have keep' : ∀ b o, s3.heap.get? b = some o → h'.get? b = some o := fun b o e => hs'.extBut b o (Nat.ne_of_lt (Heap.lt_size e)) (Heap.get?_push_of_some _ e)
    generalize hgo : ({ cls := .type "generator", data := .fields #[.int s3.gens.size 0, .str "<genexpr>" (s3.toks + 1), .str (X.env.qual ++ "<genexpr>") (s3.toks + 1 + 1)] } : Obj) = go
    have keep5 : ∀ b o, s3.heap.get? b = some o → (h'.push go).get? b = some o := fun b o e => Heap.get?_push_of_some _ (keep' b o e)
    have ig : ∀ h : Heap, h.get? h'.objs.size = some go → h.IsGen h'.objs.size s3.gens.size := fun h e => by subst hgo; exact ⟨_, _, _, e, rfl, rfl, rfl⟩
    have god : ∀ v, go.data ≠ .cell v := fun v => by subst hgo; exact fun z => nomatch z
    have goal : Ready X pins σ G B H3 h'.objs.size s3.gens.size ys' st' (backE e1 er (own.map (·.2))) (k + 1) { s3 with
            gens := s3.gens.push (.fresh (.compStart (.GeneratorExp elt (⟨tg, iter, ifs, 0⟩ :: more) scope gpos) 0 (.ref ia) .none (genEnv scope (cloFrom X.env.cells scope.names []) s3.heap.objs.size code builtinsNs X.env))),
            toks := s3.toks + 1 + 1 + 1, heap := h'.push go } := by
      refine ⟨inv_gens (I3.kept (t' := s3.toks + 1 + 1 + 1) keep5) (I3.bare.push rfl), ig _ (Heap.get?_push_size _ (by subst hgo; rfl)), ⟨_, Array.getElem?_push_size .., fun A Z M s hr hf hZ hz hk ho hg h0 => ⟨rfl, ?_⟩⟩⟩
      have hZ : ∀ z ∈ Z, h'.objs.size + 1 ≤ z := fun z hz => by
        have := hZ z hz
        have q : (h'.push go).objs.size = h'.objs.size + 1 := Heap.size_push ..
        rw [← q]; exact this
      generalize hcenv : genEnv scope (cloFrom X.env.cells scope.names []) s3.heap.objs.size code builtinsNs X.env = cenv
      have hL : cenv.locals = s3.heap.objs.size := by rw [← hcenv]; rfl
      have hfr : (A.over (.compLoop (.GeneratorExp elt (⟨tg, iter, ifs, 0⟩ :: more) scope gpos) 0 (.ref ia) .none cenv) []).frames = some (cenv :: X.stack) := by
        simp only [Around.over]
        rw [hf]
        rfl
      have I5 := gen_start (s' := s) (A' := A.over (.compLoop (.GeneratorExp elt (⟨tg, iter, ifs, 0⟩ :: more) scope gpos) 0 (.ref ia) .none cenv) []) (code := code) (p := (h'.objs.size, go)) (show s.os = s3.os from ho) I3 ok hN hcell f3 hr.hd (by rw [hcenv]; exact hfr) ((hn'.push go).keeps hk) (fun b o e => hk b o (keep5 b o e)) (hk _ _ (Heap.get?_push_size _ (by subst hgo; rfl))) (by show _ < h'.objs.size; omega) god hg
      rw [hcenv] at I5
      generalize hY : gcx X (A.over (.compLoop (.GeneratorExp elt (⟨tg, iter, ifs, 0⟩ :: more) scope gpos) 0 (.ref ia) .none cenv) []) s3 H3 cenv fp (h'.objs.size, go) = Y at I5
      have zcell : ∀ z ∈ Z, ∀ x c, cenv.cells.lookup x = some c → c ≠ z := fun z hz2 x c e => by
        rw [← hcenv] at e
        have e : (cloFrom X.env.cells scope.names []).lookup x = some c := e
        rcases cloFrom_mem (PySem.mem_of_lookup e) with hm | ⟨h1, rfl⟩
        · cases hm
        · obtain ⟨c, hc⟩ := hfree _ h1 rfl
          rw [hc]
          obtain ⟨w, q⟩ := I3.cell _ _ hc
          have q1 : c < s3.heap.objs.size := q.lt
          have := hZ z hz2
          exact Nat.ne_of_lt (Nat.lt_of_lt_of_le q1 (show s3.heap.objs.size ≤ z by omega))
      have zfs : ∀ z ∈ Z, z ∉ frs X.stack := fun z hz2 hm => by
        have := hZ z hz2
        rcases List.mem_cons.mp (I3.stkSub z hm) with q | q
        · have h1 := I3.lt
          rw [← q] at h1
          exact absurd (Nat.lt_of_lt_of_le h1 (show s3.heap.objs.size ≤ z by omega)) (Nat.lt_irrefl _)
        · exact I3.nofs (by omega) q
      have zk : ZOk Y Z := by
        subst hY
        refine ⟨fun z hz2 => ⟨?_, ?_, fun x c e => zcell z hz2 x c e⟩, fun p hp hz2 => ?_⟩
        · have := hZ z hz2
          show s3.heap.objs.size ≤ z
          omega
        · have := hZ z hz2
          show z ≠ cenv.locals
          rw [hL]; exact Nat.ne_of_gt (by omega)
        · have hp : p = (h'.objs.size, go) := by simpa using hp
          subst hp
          have := hZ _ hz2
          exact absurd this (Nat.not_succ_le_self _)
      have hzp : ZP (pinsAt Z s.heap) Z := ⟨fun p hp => (of_pinsAt hp).1, fun b hb => by
        obtain ⟨o, e, _⟩ := hz b hb
        exact ⟨o, mem_pinsAt hb e⟩⟩
      have I6 : Inv Y (pinsAt Z s.heap) (L2.wipe σ (own.map (·.2))) H3 s := I5.pins_of fun p hp => by
        obtain ⟨hb, e⟩ := of_pinsAt hp
        obtain ⟨o, e', dd⟩ := hz _ hb
        rw [e] at e'
        cases e'
        have := hZ _ hb
        refine ⟨e, I3.hok.fresh (by omega), ?_, ?_, dd⟩
        · subst hY
          show p.1 ≠ cenv.locals
          rw [hL]; exact Nat.ne_of_gt (by omega)
        · subst hY
          exact zfs _ hb
      have fzz : ∀ b ∈ fp, b ∉ Z := fun b hb hz2 => by
        have h1 := hZ b hz2
        exact absurd (Nat.lt_of_lt_of_le (f3 b hb).2 (show s3.heap.objs.size ≤ b by omega)) (Nat.lt_irrefl _)
      refine seg_start0 ⟨_, rfl⟩ ⟨_, rfl, rfl⟩ (fun Q E' q => T.self _ 0 _ _ _ (T.keep _ _ _ st3 fun b hb o e => hk b o (keep5 b o e)) q) ?_
      refine hseg A s3 H3 code fp (h'.objs.size, go) s3.gens.size B e1 Z stop ds ys' st' er M ia tn J (pinsAt Z s.heap) s s σ pins cenv Y hcenv.symm hY.symm ?_ ?_ zk T (fun i H x => ok2 i H (x3.trans x)) (fun zp H' hz2 hn b hb => ?_) fzz h2 hzp I6 (ss3.wipe _ np) (fun b hb => (f3 b hb).1.1) (T.keep _ _ _ st3 fun b hb o e => hk b o (keep5 b o e)) h0
      · subst hY
        exact room_over ⟨_, _, _, _, _, rfl⟩ hr
      · subst hY
        exact back_of (scope := scope) I3 hc (fun b hb => (f3 b hb).1) ss3 np nd ig
      · refine ⟨hn b hb, (I5.ok.exf b (by subst hY; exact hb)).1, I5.ok.exfs b (by subst hY; exact hb), .inl (by subst hY; exact hb), fun x c e => (I5.ok.exf b (by subst hY; exact hb)).2 x c e, fun p hp => ?_⟩
        have hbl := (f3 b hb).2
        rcases List.mem_append.mp hp with hp | hp
        · have hp : p = (h'.objs.size, go) := by subst hY; simpa using hp
          subst hp
          exact Nat.ne_of_gt (Nat.lt_of_lt_of_le hbl (show s3.heap.objs.size ≤ h'.objs.size by omega))
        · exact fun e => fzz b hb (by rw [← e]; exact hz2.sub p hp)
    subst hgo hs3
    exact ⟨_, _, H3, rfl, x2.trans x3, goal⟩
  refine ⟨lim2, ?_⟩
  cases hf : codeAmong gpos ps.toList with
  | none =>
    refine wpAny_genexprCodeX hcode (cd.code hP2 ht) (cd.tab hP2) hf fun c' h' tk hx hge hlt hco' _ htab' _ => ?_
    obtain ⟨o1, vs, f1, tf, fl, tg, inF, tx, tt, op, _, _, _, _, _, _, _, _, _, htr, _⟩ := hco'
    exact cont _ h' tk _ hx htab'.2 ⟨_, rfl⟩ htr
  | some cv =>
    refine wpAny_genexprCode_hit hcode (cd.code hP2 ht) hf ?_
    exact cont cv s2.heap s2.toks ps (Heap.ExtBut.refl _ _) hP2 ⟨#[], by simp⟩ ht
theorem eval_gen2 (elt target iter target1 iter1 : Expr) (ifs ifs1 : List Expr) (scope : Scope) (pos : Pos) (env : PySem.Env) (hco : scope.isCoroutine = false) :
    eval (.GeneratorExp elt [⟨target, iter, ifs, 0⟩, ⟨target1, iter1, ifs1, 0⟩] scope pos) env = (do
      let x ← eval iter env
      standAt iter.pos
      let x ← genFold iter env x
      let it ← holding [x] (pyIter x)
      enterFrame
      let cl ← closureFor scope env
      let code ← genexprCode env pos (env.qual ++ "<genexpr>") scope
      let bi ← builtinsFor env.globals env.builtins
      let cenv ← newFunctionEnv scope env.globals cl [(".0", it)] (env.qual ++ "<genexpr>.") none code none bi
      newGenerator (.compStart (.GeneratorExp elt [⟨target, iter, ifs, 0⟩, ⟨target1, iter1, ifs1, 0⟩] scope pos) 0 it .none cenv) "<genexpr>" (env.qual ++ "<genexpr>")) := by
  rw [arm_eval_GeneratorExp]
  simp only [hco, Bool.false_eq_true, if_false]
  cases iter <;> rfl
/-- the context of an element's code -/
abbrev gctx (X : Cx) (scope : Scope) (A' : Around) (s : Shared) (H : Hp) (code : Value) (fp : List Addr) (p : Addr × Obj) : Cx :=
  gcx X A' s H (genEnv scope (cloFrom X.env.cells scope.names []) s.heap.objs.size code builtinsNs X.env) fp p
/-- (elt for tg in iter if ..) -/
theorem pgn1 {elt tg iter : Expr} {ifs : List Expr} {scope : Scope} {gpos : Pos} {own : List (Str × Nat)} {it : FI} {g : FG} {sl : List Nat} {t : FT} {x : FE} {c P : Addr} {k : Nat}
    (hc : X.calm = true) (hN : X.N.Nodup) (hr0 : Room 0 X.A) (TB : GxR.TabB X.base X.mg c P) (hP : P ∈ G.T) (hcode : X.env.code = .ref c) (hi : PI X tg iter (tI G it)) (ok : BlkOk X.N X.env.scope scope own) (hcell : scope.names.all (fun y => y.2 != .cell) = true) (hdot : scope.names.lookup (".0" : Str) = some NameKind.local) (hco : scope.isCoroutine = false)
    (np : (own.map (·.2)).all (fun i => !G.Pr.contains i) = true) (nd : (own.map (·.2)).Nodup) (hsl : sl.all (fun i => (own.map (·.2)).contains i) = true)
    (hg : ∀ (A' : Around) (s : Shared) (H : Hp) (code : Value) (fp : List Addr) (p : Addr × Obj), PG (gctx X scope A' s H code fp p) tg (tGt G g sl))
    (ht : ∀ (A' : Around) (s : Shared) (H : Hp) (code : Value) (fp : List Addr) (p : Addr × Obj), Room k A' → PTs (gctx X scope A' s H code fp p) ifs (tT G t))
    (he : ∀ (A' : Around) (s : Shared) (H : Hp) (code : Value) (fp : List Addr) (p : Addr × Obj), Room k A' → PE (gctx X scope A' s H code fp p) elt (tV G x))
    (hs : ∀ x, genFold iter X.env x = pure x := by intro _; rfl) :
    PGn X G (k + 1) (.GeneratorExp elt [⟨tg, iter, ifs, 0⟩] scope gpos) (genM1 g it t x (own.map (·.2))) := by
  have hcell : ∀ y ∈ scope.names, y.2 ≠ .cell := fun y hy z => by
    have := List.all_eq_true.mp hcell y hy
    rw [z] at this
    exact absurd this (by decide)
  refine pgn_core (LD := fun stop ds e => genL1 g t x (own.map (·.2)) stop ds e) hc hN hr0 TB hP hcode hi ok hcell hdot (eval_GeneratorExp1 _ _ _ _ _ _ _ hco) np nd hs ?_
  intro A s3 H3 code fp p gn B e1 Z stop ds ys st er M ia tn J zp s₀ s σ pins cenv Y hcenv hY hr bk zk T ok2 hf hfz h hz I ss n5 st5 ow
  have hsl : ∀ i ∈ sl, i ∈ own.map (·.2) := fun i hi => by simpa using List.all_eq_true.mp hsl i hi
  have np : ∀ i ∈ own.map (·.2), i ∉ G.Pr := fun i hi => by simpa using List.all_eq_true.mp np i hi
  subst hcenv
  subst hY
  exact seg_one bk zk hco rfl T ok2 hf hfz (hg _ _ _ _ _ _) (ht _ _ _ _ _ _ hr) (he _ _ _ _ _ _ hr) np nd hsl h hz I ss n5 st5 ow
/-- (elt for tg in iter if .. for tg1 in iter1 if ..) -/
theorem pgn2 {elt tg iter tg1 iter1 : Expr} {ifs ifs1 : List Expr} {scope : Scope} {gpos : Pos} {own : List (Str × Nat)} {it it1 : FI} {g g1 : FG} {sl sl1 own1 : List Nat} {t t1 : FT} {x : FE} {c P : Addr} {k : Nat}
    (hc : X.calm = true) (hN : X.N.Nodup) (hr0 : Room 0 X.A) (TB : GxR.TabB X.base X.mg c P) (hP : P ∈ G.T) (hcode : X.env.code = .ref c) (hi : PI X tg iter (tI G it)) (ok : BlkOk X.N X.env.scope scope own) (hcell : scope.names.all (fun y => y.2 != .cell) = true) (hdot : scope.names.lookup (".0" : Str) = some NameKind.local) (hco : scope.isCoroutine = false)
    (np : (own.map (·.2)).all (fun i => !G.Pr.contains i) = true) (nd : (own.map (·.2)).Nodup) (hsl : sl.all (fun i => (own.map (·.2)).contains i) = true) (np1 : own1.all (fun i => (own.map (·.2)).contains i) = true) (hsl1 : sl1.all (fun i => own1.contains i) = true)
    (hg : ∀ (A' : Around) (s : Shared) (H : Hp) (code : Value) (fp : List Addr) (p : Addr × Obj), PG (gctx X scope A' s H code fp p) tg (tGt G g sl))
    (ht : ∀ (A' : Around) (s : Shared) (H : Hp) (code : Value) (fp : List Addr) (p : Addr × Obj), Room k A' → PTs (gctx X scope A' s H code fp p) ifs (tT G t))
    (hi1 : ∀ (A' : Around) (s : Shared) (H : Hp) (code : Value) (fp : List Addr) (p : Addr × Obj), Room k A' → PI (gctx X scope A' s H code fp p) tg1 iter1 (tI G it1))
    (hg1 : ∀ (A' : Around) (s : Shared) (H : Hp) (code : Value) (fp : List Addr) (p : Addr × Obj), PG (gctx X scope A' s H code fp p) tg1 (tGt G g1 sl1))
    (ht1 : ∀ (A' : Around) (s : Shared) (H : Hp) (code : Value) (fp : List Addr) (p : Addr × Obj), Room k A' → PTs (gctx X scope A' s H code fp p) ifs1 (tT G t1))
    (he : ∀ (A' : Around) (s : Shared) (H : Hp) (code : Value) (fp : List Addr) (p : Addr × Obj), Room k A' → PE (gctx X scope A' s H code fp p) elt (tV G x))
    (hs : ∀ x, genFold iter X.env x = pure x := by intro _; rfl) (hs1 : ∀ env x, foldedSetIterable iter1 env x = pure x := by intro _ _; rfl) :
    PGn X G (k + 1) (.GeneratorExp elt [⟨tg, iter, ifs, 0⟩, ⟨tg1, iter1, ifs1, 0⟩] scope gpos) (genM2 g it t it1 g1 t1 x (own.map (·.2)) own1) := by
  have hcell : ∀ y ∈ scope.names, y.2 ≠ .cell := fun y hy z => by
    have := List.all_eq_true.mp hcell y hy
    rw [z] at this
    exact absurd this (by decide)
  refine pgn_core (LD := fun stop ds e => genL2 g t it1 g1 t1 x (own.map (·.2)) own1 stop ds e) hc hN hr0 TB hP hcode hi ok hcell hdot (eval_gen2 _ _ _ _ _ _ _ _ _ _ hco) np nd hs ?_
  intro A s3 H3 code fp p gn B e1 Z stop ds ys st er M ia tn J zp s₀ s σ pins cenv Y hcenv hY hr bk zk T ok2 hf hfz h hz I ss n5 st5 ow
  have hsl : ∀ i ∈ sl, i ∈ own.map (·.2) := fun i hi => by simpa using List.all_eq_true.mp hsl i hi
  have np : ∀ i ∈ own.map (·.2), i ∉ G.Pr := fun i hi => by simpa using List.all_eq_true.mp np i hi
  have np1 : ∀ i ∈ own1, i ∈ own.map (·.2) := fun i hi => by simpa using List.all_eq_true.mp np1 i hi
  have hsl1 : ∀ i ∈ sl1, i ∈ own1 := fun i hi => by simpa using List.all_eq_true.mp hsl1 i hi
  subst hcenv
  subst hY
  exact seg_two bk zk hco rfl (hs1 _) T ok2 hf hfz (hg _ _ _ _ _ _) (ht _ _ _ _ _ _ hr) (hi1 _ _ _ _ _ _ hr) (hg1 _ _ _ _ _ _) (ht1 _ _ _ _ _ _ hr) (he _ _ _ _ _ _ hr) np nd hsl np1 hsl1 ds 0 _ H3 s₀ s ys er zp (by simp) (Nat.zero_le _) h rfl ⟨[], by simp⟩ hz I ss n5 (Ext.refl _) st5 (by rw [Nat.sub_self]; exact ow)
end
end VL
end

section
set_option Elab.async false
set_option linter.all false
set_option maxRecDepth 100000
/-! VLo: readers of generator expressions: any, all, tuple, list. -/
namespace VL
open PySem PySem.Spec L2 VD
open PyProof.Rows (AllBare IsTup)
/-- what the reader's stop says of the items -/
structure StopOk (stop : D → Option Bool) (ys : List D) (st : Bool) : Prop where
  at_ : ∀ j d, ys[j]? = some d → stop d = some (decide (j + 1 = ys.length) && st)
  nil : ys = [] → st = false
theorem StopOk.goOn {ys : List D} {st : Bool} (h : StopOk goOn ys st) : st = false := by
  cases st with
  | false => rfl
  | true =>
    cases hy : ys with
    | nil => exact h.nil hy
    | cons d r =>
      have hl : ys.length - 1 < ys.length := by rw [hy]; simp
      have := h.at_ (ys.length - 1) _ (List.getElem?_eq_getElem hl)
      unfold VD.goOn at this
      simp at this
      omega
theorem stop_l1 {g : FG} {t : FT} {x : FE} {own : List Nat} {stop : D → Option Bool} : ∀ {l : List D} {e e' : En} {ys : List D} {st : Bool}, genL1 g t x own stop l e = some ((ys, st), e') → StopOk stop ys st
  | [], e, e', ys, st, h => by cases h; exact ⟨fun j d h => by simp at h, fun _ => rfl⟩
  | z :: l, e, e', ys, st, h => by
    obtain ⟨_, _, h⟩ := bnd h
    obtain ⟨⟨c, _⟩, _, h⟩ := bnd h
    cases c with
    | false => simp only [Bool.false_eq_true, if_false] at h; exact stop_l1 h
    | true =>
      simp only [if_true] at h
      obtain ⟨⟨d, e1⟩, _, h⟩ := bnd h
      obtain ⟨c2, h2, h⟩ := bnd h
      cases c2 with
      | true =>
        simp only [if_true] at h
        cases h
        refine ⟨fun j d' hd => ?_, fun h => by cases h⟩
        cases j with
        | zero => simp at hd; subst hd; rw [h2]; rfl
        | succ j => simp at hd
      | false =>
        simp only [Bool.false_eq_true, if_false] at h
        obtain ⟨⟨⟨y2, b2⟩, e2⟩, h3, h⟩ := bnd h
        cases h
        have ih := stop_l1 h3
        refine ⟨fun j d' hd => ?_, fun h => by cases h⟩
        cases j with
        | zero =>
          simp at hd; subst hd; rw [h2]
          cases y2 with
          | nil => rw [show ((([] : List D), b2), e2).1.2 = b2 from rfl, ih.nil rfl]; simp
          | cons _ _ => simp
        | succ j =>
          have := ih.at_ j d' (by simpa using hd)
          rw [this]
          simp
theorem stop_app {stop : D → Option Bool} {y1 y2 : List D} {st : Bool} (h1 : StopOk stop y1 false) (h2 : StopOk stop y2 st) : StopOk stop (y1 ++ y2) st := by
  refine ⟨fun j d hd => ?_, fun h => h2.nil (List.append_eq_nil_iff.mp h).2⟩
  by_cases hj : j < y1.length
  · rw [List.getElem?_append_left hj] at hd
    have := h1.at_ j d hd
    rw [this]
    cases hy : y2 with
    | nil => rw [h2.nil hy]; simp
    | cons _ _ => simp; omega
  · rw [List.getElem?_append_right (by omega)] at hd
    have := h2.at_ _ d hd
    rw [this]
    congr 2
    simp
    omega
theorem stop_l2 {g g1 : FG} {t t1 : FT} {it1 : FI} {x : FE} {own own1 : List Nat} {stop : D → Option Bool} : ∀ {l : List D} {e e' : En} {ys : List D} {st : Bool}, genL2 g t it1 g1 t1 x own own1 stop l e = some ((ys, st), e') → StopOk stop ys st
  | [], e, e', ys, st, h => by cases h; exact ⟨fun j d h => by simp at h, fun _ => rfl⟩
  | z :: l, e, e', ys, st, h => by
    obtain ⟨_, _, h⟩ := bnd h
    obtain ⟨⟨c, _⟩, _, h⟩ := bnd h
    cases c with
    | false => simp only [Bool.false_eq_true, if_false] at h; exact stop_l2 h
    | true =>
      simp only [if_true] at h
      obtain ⟨_, _, h⟩ := bnd h
      obtain ⟨⟨⟨y1, b1⟩, e1⟩, h1, h⟩ := bnd h
      cases b1 with
      | true =>
        simp only [if_true, Option.some.injEq, Prod.mk.injEq] at h
        obtain ⟨⟨q1, q2⟩, _⟩ := h
        subst q1 q2
        exact stop_l1 h1
      | false =>
        simp only [Bool.false_eq_true, if_false] at h
        obtain ⟨⟨⟨y2, b2⟩, e2⟩, h2, h⟩ := bnd h
        simp only [Option.some.injEq, Prod.mk.injEq] at h
        obtain ⟨⟨q1, q2⟩, _⟩ := h
        subst q1 q2
        exact stop_app (stop_l1 h1) (stop_l2 h2)
/-- a generator expression, its reader's stop told -/
structure PGs (X : Cx) (G : Gx) (k : Nat) (ex : Expr) (f : FGn) : Prop where
  gn : PGn X G k ex f
  ok : ∀ stop e ys st ef, f stop e = some ((ys, st), ef) → StopOk stop ys st
theorem pgs1 {X : Cx} {G : Gx} {k : Nat} {ex : Expr} {g : FG} {it : FI} {t : FT} {x : FE} {own : List Nat} (h : PGn X G k ex (genM1 g it t x own)) : PGs X G k ex (genM1 g it t x own) := ⟨h, fun stop e ys st ef h => by
  obtain ⟨_, _, h⟩ := bnd h
  obtain ⟨⟨⟨y, b⟩, e2⟩, h2, h⟩ := bnd h
  cases h
  exact stop_l1 h2⟩
theorem pgs2 {X : Cx} {G : Gx} {k : Nat} {ex : Expr} {g g1 : FG} {it it1 : FI} {t t1 : FT} {x : FE} {own own1 : List Nat} (h : PGn X G k ex (genM2 g it t it1 g1 t1 x own own1)) : PGs X G k ex (genM2 g it t it1 g1 t1 x own own1) := ⟨h, fun stop e ys st ef h => by
  obtain ⟨_, _, h⟩ := bnd h
  obtain ⟨⟨⟨y, b⟩, e2⟩, h2, h⟩ := bnd h
  cases h
  exact stop_l2 h2⟩

/-! ### the modes -/
def mode0 (K : Kx) (ys : List D) : Mode K ys [] where
  nap := fun _ _ h h' => ∀ b o, h.get? b = some o → h'.get? b = some o
  own := fun _ _ _ => True
  nkeep := fun _ _ _ _ h b o _ e => h b o e
  nown := fun _ _ _ _ _ b hb => by cases hb
  keep := fun _ _ _ _ _ _ _ _ => trivial
  step := fun _ _ _ _ _ _ _ _ _ _ _ _ => trivial
/-- the reader's own object S, what it holds at each turn -/
def modeS (K : Kx) (ys : List D) (S : Addr) (C : Nat → Obj → Prop) (hC : ∀ j o, C j o → ∀ v, o.data ≠ .cell v) : Mode K ys [S] where
  nap := fun j _ h h' => (∀ b o, b ≠ S → h.get? b = some o → h'.get? b = some o) ∧ ∃ o, h'.get? S = some o ∧ C (j + 1) o
  own := fun j _ h => ∃ o, h.get? S = some o ∧ C j o
  nkeep := fun _ _ _ _ h b o hb e => h.1 b o (fun z => hb (by simp [z])) e
  nown := fun _ _ _ _ h b hb => by
    obtain ⟨o, e, c⟩ := h.2
    rw [List.mem_singleton.mp hb]
    exact ⟨o, e, hC _ _ c⟩
  keep := fun _ _ _ _ _ ⟨o, e, c⟩ _ k => ⟨o, k S (by simp) o e, c⟩
  step := fun _ _ _ _ _ _ _ _ _ _ _ n => n.2
/-- the reader's list -/
def modeL (K : Kx) (ys : List D) (S : Addr) : Mode K ys [S] where
  nap := fun j v h h' => (∀ b o, b ≠ S → h.get? b = some o → h'.get? b = some o) ∧ ∃ acc c c', h.get? S = some (lstObj acc c) ∧ h'.get? S = some (lstObj (acc.push v) c')
  own := fun j H h => ∃ acc c vs, h.get? S = some (lstObj acc c) ∧ Vals vs acc.toList ∧ ImL K H (ys.take j) vs
  nkeep := fun _ _ _ _ h b o hb e => h.1 b o (fun z => hb (by simp [z])) e
  nown := fun _ _ _ _ h b hb => by
    obtain ⟨acc, c, c', _, e⟩ := h.2
    rw [List.mem_singleton.mp hb]
    exact ⟨_, e, fun v z => nomatch z⟩
  keep := fun _ _ _ _ _ ⟨acc, c, vs, e, r, i⟩ x k => ⟨acc, c, vs, k S (by simp) _ e, r, i.ext x⟩
  step := fun j H h h' d u v ⟨acc, c, vs, e, r, i⟩ hd im ru n => by
    obtain ⟨acc', c1, c2, e1, e2⟩ := n.2
    rw [e] at e1
    cases e1
    refine ⟨_, c2, vs ++ [u], e2, ?_, ?_⟩
    · rw [Array.toList_push]; exact r.append (.cons ru .nil)
    · rw [List.take_add_one, hd]
      exact i.append (ImL.cons im ImL.nil)

section
variable {X : Cx} {pins : List (Addr × Obj)} {σ : L2.St} {G : Gx} {B : Bx} {Hb : Hp} {a : Addr} {g : Nat} {ys : List D} {st : Bool} {ef : En} {A : Around}
theorem any_loop {R : Result → Shared → Prop} (hh : A.handled = none) (hroom : A.depth < recursionLimit) (so : StopOk stopAny ys st) (hR : ∀ s' H', Inv X pins σ H' s' → Ext Hb H' → SS G B ef σ H' → R (.ok (.ret (.bool st))) s') :
    ∀ (n j : Nat) (s : Shared), ys.length - j = n → j ≤ ys.length → (j = ys.length → st = false) → Live X pins σ G B Hb a g ys st ef (mode0 G.K ys) A.in1.in1 j s → codeAny (model X.prog X.w) A (.builtin "any.loop" ⟨[.ref a], []⟩) R s := by
  intro n
  induction n with
  | zero =>
    intro j s hn hj hst L
    refine codeAny_builtin F.entry_any_loop ?_
    rw [Around.under_plainId F.plain_any_loop _]
    show wpAny _ A.in1 (pyNext (.ref a) >>= _) _ _ s
    refine wpAny_bind (live_next (A := A.in1) hh hroom (fun _ _ _ h _ => ⟨h, fun _ _ e => e⟩) (by simp) (by simp) hj hst L (fun hlt => by omega) fun _ s' H' ow I x zi ss => ?_)
    refine wpAny_bind (wpAny_rule (wpAny_pure ?_))
    have := hR s' H' I x ss
    rw [hst (by omega)] at this
    exact this
  | succ n ih =>
    intro j s hn hj hst L
    refine codeAny_builtin F.entry_any_loop ?_
    rw [Around.under_plainId F.plain_any_loop _]
    show wpAny _ A.in1 (pyNext (.ref a) >>= _) _ _ s
    refine wpAny_bind (live_next (A := A.in1) hh hroom (fun _ _ _ h _ => ⟨h, fun _ _ e => e⟩) (by simp) (by simp) hj hst L (fun hlt s' d u v H' hd r im ow I x zi hs more => ?_) fun h => by omega)
    have hso := so.at_ j d hd
    obtain ⟨b, rfl, hb⟩ : ∃ b, d = .bl b ∧ b = (decide (j + 1 = ys.length) && st) := by
      unfold stopAny at hso
      split at hso
      · exact ⟨_, rfl, Option.some.inj hso⟩
      · cases hso
    have im := im.bl_
    subst im
    have r : v = .bool b := r
    subst r
    refine wpAny_bind (wpAny_holding (wpAny_truthy_bool ?_))
    refine wpAny_bind (wpAny_letGo ?_)
    cases b with
    | false =>
      simp only [Bool.false_eq_true, if_false]
      have hns : j + 1 = ys.length → st = false := fun e => by
        rw [decide_eq_true e] at hb
        simpa using hb.symm
      exact wpAny_pure ⟨plainId_quiet F.plain_any_loop _, ih (j + 1) s' (by omega) (by omega) hns (more hns s' rfl rfl fun _ _ e => e)⟩
    | true =>
      simp only [if_true]
      refine wpAny_bind (wpAny_rule (wpAny_pure ?_))
      obtain ⟨e1, e2⟩ : j + 1 = ys.length ∧ st = true := by simpa using hb.symm
      have := hR s' H' I x (hs e1 e2)
      rw [e2] at this
      exact this
theorem all_loop {R : Result → Shared → Prop} (hh : A.handled = none) (hroom : A.depth < recursionLimit) (so : StopOk stopAll ys st) (hR : ∀ s' H', Inv X pins σ H' s' → Ext Hb H' → SS G B ef σ H' → R (.ok (.ret (.bool (!st)))) s') :
    ∀ (n j : Nat) (s : Shared), ys.length - j = n → j ≤ ys.length → (j = ys.length → st = false) → Live X pins σ G B Hb a g ys st ef (mode0 G.K ys) A.in1.in1 j s → codeAny (model X.prog X.w) A (.builtin "all.loop" ⟨[.ref a], []⟩) R s := by
  intro n
  induction n with
  | zero =>
    intro j s hn hj hst L
    refine codeAny_builtin F.entry_all_loop ?_
    rw [Around.under_plainId F.plain_all_loop _]
    show wpAny _ A.in1 (pyNext (.ref a) >>= _) _ _ s
    refine wpAny_bind (live_next (A := A.in1) hh hroom (fun _ _ _ h _ => ⟨h, fun _ _ e => e⟩) (by simp) (by simp) hj hst L (fun hlt => by omega) fun _ s' H' ow I x zi ss => ?_)
    refine wpAny_bind (wpAny_rule (wpAny_pure ?_))
    have := hR s' H' I x ss
    rw [hst (by omega)] at this
    exact this
  | succ n ih =>
    intro j s hn hj hst L
    refine codeAny_builtin F.entry_all_loop ?_
    rw [Around.under_plainId F.plain_all_loop _]
    show wpAny _ A.in1 (pyNext (.ref a) >>= _) _ _ s
    refine wpAny_bind (live_next (A := A.in1) hh hroom (fun _ _ _ h _ => ⟨h, fun _ _ e => e⟩) (by simp) (by simp) hj hst L (fun hlt s' d u v H' hd r im ow I x zi hs more => ?_) fun h => by omega)
    have hso := so.at_ j d hd
    obtain ⟨b, rfl, hb⟩ : ∃ b, d = .bl b ∧ (!b) = (decide (j + 1 = ys.length) && st) := by
      unfold stopAll at hso
      split at hso
      · exact ⟨_, rfl, Option.some.inj hso⟩
      · cases hso
    have im := im.bl_
    subst im
    have r : v = .bool b := r
    subst r
    refine wpAny_bind (wpAny_holding (wpAny_truthy_bool ?_))
    refine wpAny_bind (wpAny_letGo ?_)
    cases b with
    | true =>
      simp only [if_true]
      have hns : j + 1 = ys.length → st = false := fun e => by
        rw [decide_eq_true e] at hb
        simpa using hb.symm
      exact wpAny_pure ⟨plainId_quiet F.plain_all_loop _, ih (j + 1) s' (by omega) (by omega) hns (more hns s' rfl rfl fun _ _ e => e)⟩
    | false =>
      simp only [Bool.false_eq_true, if_false]
      refine wpAny_bind (wpAny_rule (wpAny_pure ?_))
      obtain ⟨e1, e2⟩ : j + 1 = ys.length ∧ st = true := by simpa using hb.symm
      have := hR s' H' I x (hs e1 e2)
      rw [e2] at this
      exact this
/-- the list is filled -/
theorem ext_loop {R : Result → Shared → Prop} {S : Addr} {res : Value} (hh : A.handled = none) (hroom : A.depth < recursionLimit) (st0 : st = false) (hz : ys.length ≤ sizeLine) (haS : a ≠ S) (hcS : cStatics ≠ S)
    (hR : ∀ s' H' acc c vs, s'.heap.get? S = some (lstObj acc c) → Vals vs acc.toList → ImL G.K H' ys vs → Inv X pins σ H' s' → Ext Hb H' → H' S = none → SS G B ef σ H' → R (.ok (.ret res)) s') :
    ∀ (n j : Nat) (s : Shared), ys.length - j = n → j ≤ ys.length → Live X pins σ G B Hb a g ys st ef (modeL G.K ys S) A.in1.in1 j s → codeAny (model X.prog X.w) A (.builtin "list.extend.loop" ⟨[.ref S, .ref a, res], []⟩) R s := by
  have nex : ∀ j H v (h : Heap), (modeL G.K ys S).own j H h → ∃ h', (modeL G.K ys S).nap j v h h' := fun j H v h ⟨acc, c, vs, e, _, _⟩ =>
    ⟨h.update S (Obj.mapSeq (·.push v)), fun b o hb e => (Heap.get?_update_other _ _ (Ne.symm hb)).trans e, acc, c, _, e, Heap.get?_update_self _ e rfl⟩
  intro n
  induction n with
  | zero =>
    intro j s hn hj L
    refine codeAny_builtin F.entry_extend_loop ?_
    rw [Around.under_plainId F.plain_extend_loop _]
    show wpAny _ A.in1 (pyNext (.ref a) >>= _) _ _ s
    refine wpAny_bind (live_next (A := A.in1) hh hroom nex (by simpa using haS) (by simpa using hcS) hj (fun _ => st0) L (fun hlt => by omega) fun hje s' H' ow I x zi ss => ?_)
    obtain ⟨acc, c, vs, e, r, i⟩ := ow
    rw [hje, List.take_length] at i
    exact wpAny_pure (hR s' H' acc c vs e r i I x (zi S (by simp)).1 ss)
  | succ n ih =>
    intro j s hn hj L
    refine codeAny_builtin F.entry_extend_loop ?_
    rw [Around.under_plainId F.plain_extend_loop _]
    show wpAny _ A.in1 (pyNext (.ref a) >>= _) _ _ s
    refine wpAny_bind (live_next (A := A.in1) hh hroom nex (by simpa using haS) (by simpa using hcS) hj (fun _ => st0) L (fun hlt s' d u v H' hd r im ow I x zi hs more => ?_) fun h => by omega)
    obtain ⟨acc, c, vs, e, rv, i⟩ := ow
    have hsz : acc.size = j := by
      have h1 := rv.length
      have h2 := i.length
      rw [List.length_take] at h2
      rw [← Array.length_toList, ← h1, ← h2]
      omega
    show wpAny _ A.in1 (updateSeq S (·.push v) >>= _) _ _ _
    refine wpAny_bind ?_
    refine wpAny_updateSeq e rfl (wpAny_pure ⟨plainId_quiet F.plain_extend_loop _, ih (j + 1) _ (by omega) (by omega) (more (fun _ => st0) _ rfl rfl ⟨fun b o hb e => (Heap.get?_update_other _ _ (Ne.symm hb)).trans e, acc, c, _, e, Heap.get?_update_self _ e rfl⟩)⟩) (by rw [hsz]; omega) (by show (acc.push v).size ≤ sizeLine + 1; rw [Array.size_push, hsz]; omega)
end
end VL
end

section
set_option Elab.async false
set_option linter.all false
set_option maxRecDepth 100000
/-! VLp: data by the heap: ==, in, sorted. -/
namespace VL
open PySem PySem.Spec L2 VD
open PyProof.Rows (AllBare IsTup)
open PySem.SeqAt
mutual
def toPy : D → PyData
  | .non => .none
  | .bl b => .bool b
  | .int i => .int i
  | .str s => .str (st s)
  | .tup xs => .tuple (toPyL xs)
  | .lst xs => .list (toPyL xs)
  | .dct _ => .none
def toPyL : List D → List PyData
  | [] => []
  | x :: xs => toPy x :: toPyL xs
end
theorem toPyL_map : ∀ xs : List D, toPyL xs = xs.map toPy
  | [] => by simp only [toPyL, List.map_nil]
  | x :: xs => by simp only [toPyL, List.map_cons, toPyL_map xs]
mutual
theorem toPy_plain : ∀ d : D, (toPy d).plain = true
  | .non => by simp only [toPy, PyData.plain]
  | .bl _ => by simp only [toPy, PyData.plain]
  | .int _ => by simp only [toPy, PyData.plain]
  | .str _ => by simp only [toPy, PyData.plain]
  | .tup xs => by simp only [toPy, PyData.plain, toPyL_plain xs]
  | .lst xs => by simp only [toPy, PyData.plain, toPyL_plain xs]
  | .dct _ => by simp only [toPy, PyData.plain]
theorem toPyL_plain : ∀ xs : List D, PyData.plainAll (toPyL xs) = true
  | [] => by simp only [toPyL, PyData.plainAll]
  | x :: xs => by simp only [toPyL, PyData.plainAll, toPy_plain x, toPyL_plain xs, Bool.and_self]
end
mutual
/-- no dict lies within -/
def nod : D → Bool
  | .tup xs => nodL xs
  | .lst xs => nodL xs
  | .dct _ => false
  | _ => true
def nodL : List D → Bool
  | [] => true
  | x :: xs => nod x && nodL xs
end
mutual
theorem toPy_dep : ∀ d : D, nod d = true → (toPy d).depth = dep d
  | .non, _ => by simp only [toPy, PyData.depth, dep]
  | .bl _, _ => by simp only [toPy, PyData.depth, dep]
  | .int _, _ => by simp only [toPy, PyData.depth, dep]
  | .str _, _ => by simp only [toPy, PyData.depth, dep]
  | .tup xs, h => by simp only [toPy, PyData.depth, dep, toPyL_dep xs (by simpa [nod] using h)]
  | .lst xs, h => by simp only [toPy, PyData.depth, dep, toPyL_dep xs (by simpa [nod] using h)]
  | .dct _, h => by simp [nod] at h
theorem toPyL_dep : ∀ xs : List D, nodL xs = true → PyData.depthAll (toPyL xs) = depL xs
  | [], _ => by simp only [toPyL, PyData.depthAll, depL]
  | x :: xs, h => by
    simp only [nodL, Bool.and_eq_true] at h
    simp only [toPyL, PyData.depthAll, depL, toPy_dep x h.1, toPyL_dep xs h.2]
end
mutual
theorem nod_dep : ∀ d : D, dep d ≤ VD.room → nod d = true
  | .non, _ => rfl
  | .bl _, _ => rfl
  | .int _, _ => rfl
  | .str _, _ => rfl
  | .tup xs, h => by
    simp only [nod]
    exact nodL_dep xs (by simp only [dep] at h; omega)
  | .lst xs, h => by
    simp only [nod]
    exact nodL_dep xs (by simp only [dep] at h; omega)
  | .dct _, h => by simp only [dep] at h; exact absurd h (by decide)
theorem nodL_dep : ∀ xs : List D, depL xs ≤ VD.room → nodL xs = true
  | [], _ => rfl
  | x :: xs, h => by
    simp only [depL] at h
    simp only [nodL, nod_dep x (by omega), nodL_dep xs (by omega), Bool.and_self]
end
theorem st_eqb (a b : List Nat) : (st a == st b) = decide (a = b) := by
  rw [Bool.eq_iff_iff, beq_iff_eq, decide_eq_true_iff]
  exact ⟨st_inj, fun h => by rw [h]⟩
mutual
theorem toPy_eqv : ∀ a b : D, nod a = true → nod b = true → PyData.eqv (toPy a) (toPy b) = peq a b
  | .non, b, _, hb => by cases b <;> simp_all [toPy, PyData.eqv, peq, nod]
  | .bl _, b, _, hb => by cases b <;> simp_all [toPy, PyData.eqv, peq, nod]
  | .int _, b, _, hb => by cases b <;> simp_all [toPy, PyData.eqv, peq, nod]
  | .str x, b, _, hb => by
    cases b with
    | str y => simp only [toPy, PyData.eqv, peq]; exact st_eqb x y
    | _ => simp_all [toPy, PyData.eqv, peq, nod]
  | .tup xs, b, ha, hb => by
    cases b with
    | tup ys => simp only [toPy, PyData.eqv, peq]; exact toPyL_eqv xs ys (by simpa [nod] using ha) (by simpa [nod] using hb)
    | _ => simp_all [toPy, PyData.eqv, peq, nod]
  | .lst xs, b, ha, hb => by
    cases b with
    | lst ys => simp only [toPy, PyData.eqv, peq]; exact toPyL_eqv xs ys (by simpa [nod] using ha) (by simpa [nod] using hb)
    | _ => simp_all [toPy, PyData.eqv, peq, nod]
  | .dct _, _, h, _ => by simp [nod] at h
theorem toPyL_eqv : ∀ a b : List D, nodL a = true → nodL b = true → PyData.eqvAll (toPyL a) (toPyL b) = peqL a b
  | [], b, _, _ => by cases b <;> simp only [toPyL, PyData.eqvAll, peqL]
  | x :: xs, [], _, _ => by simp only [toPyL, PyData.eqvAll, peqL]
  | x :: xs, y :: ys, h, hb => by
    simp only [nodL, Bool.and_eq_true] at h hb
    simp only [toPyL, PyData.eqvAll, peqL, toPy_eqv x y h.1 hb.1, toPyL_eqv xs ys h.2 hb.2]
end
section
variable {X : Cx} {pins : List (Addr × Obj)} {σ : L2.St} {H : Hp} {s : Shared}
mutual
theorem reads_im (I : Inv X pins σ H s) : ∀ {d : D} {v : V} {u : Value}, Im (kxOf X) H d v → RelV v u → nod d = true → ∃ as, Reads s.heap u (toPy d) as
  | .non, v, u, h, r, hn => by
    cases h.non_
    cases r
    exact ⟨[], by simp only [toPy]; exact .none⟩
  | .bl b, v, u, h, r, hn => by
    cases h.bl_
    cases r
    exact ⟨[], by simp only [toPy]; exact .bool b⟩
  | .int i, v, u, h, r, hn => by
    cases h.int_
    obtain ⟨t, rfl⟩ := r
    exact ⟨[], by simp only [toPy]; exact .int i t⟩
  | .str x, v, u, h, r, hn => by
    cases h.str_
    obtain ⟨t, rfl⟩ := r
    exact ⟨[], by simp only [toPy]; exact .str _ t⟩
  | .tup ds, v, u, h, r, hn => by
    obtain ⟨a, vs, rfl, h1, h2⟩ := h.tup_
    cases r
    obtain ⟨its, rv, p, hz⟩ := I.tuple (SqT.of h1)
    obtain ⟨as, ra⟩ := readsAll_im I h2 rv (by simpa [nod] using hn)
    obtain ⟨o, ho, hc, n, hd⟩ := p
    exact ⟨as, by simp only [toPy]; exact .tuple ho hc hd (by simpa using ra)⟩
  | .lst ds, v, u, h, r, hn => by
    obtain ⟨a, vs, rfl, h1, h2⟩ := h.lst_
    cases r
    obtain ⟨its, rv, p, hz⟩ := I.list h1.sq
    obtain ⟨as, ra⟩ := readsAll_im I h2 rv (by simpa [nod] using hn)
    obtain ⟨o, ho, hc, n, hd⟩ := p.isList
    exact ⟨a :: as, by simp only [toPy]; exact .list ho hc hd (by simpa using ra)⟩
  | .dct _, _, _, _, _, hn => by simp [nod] at hn
theorem readsAll_im (I : Inv X pins σ H s) : ∀ {ds : List D} {vs : List V} {us : List Value}, ImL (kxOf X) H ds vs → Vals vs us → nodL ds = true → ∃ as, ReadsAll s.heap us (toPyL ds) as
  | [], vs, us, h, r, hn => by
    simp only [ImL] at h
    subst h
    cases r
    exact ⟨[], by simp only [toPyL]; exact .nil⟩
  | d :: ds, vs, us, h, r, hn => by
    simp only [ImL] at h
    obtain ⟨v, vr, rfl, h1, h2⟩ := h
    simp only [nodL, Bool.and_eq_true] at hn
    cases r with
    | cons r1 r2 =>
      obtain ⟨as, ra⟩ := reads_im I h1 r1 hn.1
      obtain ⟨bs, rb⟩ := readsAll_im I h2 r2 hn.2
      exact ⟨as ++ bs, by simp only [toPyL]; exact .cons ra rb⟩
end
end

/-! ### ==, != -/
section
variable {X : Cx} {G : Gx} {pos : Pos} {a b c : Expr} {fa fb fc : FE}
theorem room_ok {n : Nat} (hr : Room 0 X.A) (h : n ≤ VD.room) : X.A.units + 2 + n < cLine := by
  have := hr.un
  have : n ≤ 100 := h
  omega
def rImB (f : D → D → Option Bool) (K : Kx) : R2 := fun x y H Q => ∃ a b d, Im K H a x ∧ Im K H b y ∧ f a b = some d ∧ Q (.bl d) H
theorem op_eqI (hr : Room 0 X.A) : OpR X (compareOp .Eq) (rImB eqD (kxOf X)) := fun pins s σ H x y v u Q I rx ry ⟨a, b, d, i1, i2, h, q⟩ => by
  obtain ⟨⟨hd, hd2⟩, rfl⟩ := iff_some h
  have n1 := nod_dep a hd
  have n2 := nod_dep b hd2
  obtain ⟨as, ra⟩ := reads_im I i1 rx n1
  obtain ⟨bs, rb⟩ := reads_im I i2 ry n2
  refine eq_plain ra rb (toPy_plain a) (toPy_plain b) ?_ ?_
  · rw [toPy_dep a n1]
    have := room_ok hr hd
    omega
  · rw [toPy_eqv a b n1 n2]
    exact ⟨.bl _, H, I, rfl, q⟩
theorem op_neI (hr : Room 0 X.A) : OpR X (compareOp .NotEq) (rImB neD (kxOf X)) := fun pins s σ H x y v u Q I rx ry ⟨a, b, d, i1, i2, h, q⟩ => by
  obtain ⟨⟨hd, hd2⟩, rfl⟩ := iff_some h
  have n1 := nod_dep a hd
  have n2 := nod_dep b hd2
  obtain ⟨as, ra⟩ := reads_im I i1 rx n1
  obtain ⟨bs, rb⟩ := reads_im I i2 ry n2
  refine ne_plain ra rb (toPy_plain a) (toPy_plain b) ?_ ?_
  · rw [toPy_dep a n1]
    have := room_ok hr hd
    omega
  · rw [toPy_eqv a b n1 n2]
    exact ⟨.bl _, H, I, rfl, q⟩
theorem any_py (xs : List D) (x : D) (h : nodL xs = true) (hx : nod x = true) : ((toPyL xs).any fun y => PyData.eqv y (toPy x)) = xs.any fun y => peq y x := by
  induction xs with
  | nil => rfl
  | cons y ys ih =>
    simp only [nodL, Bool.and_eq_true] at h
    rw [toPyL, List.any_cons, List.any_cons, ih h.2, toPy_eqv _ _ h.1 hx]
theorem op_inI (hr : Room 0 X.A) : OpR X (compareOp .In) (rImB inD (kxOf X)) := fun pins s σ H x y v u Q I rx ry ⟨a, b, d, i1, i2, h, q⟩ => by
  unfold inD at h
  split at h
  · cases h
    cases i1.str_
    cases i2.str_
    refine op_in_sign (X := X) pins s σ H _ _ _ _ Q I rx ry ⟨_, _, rfl, rfl, ?_⟩
    rw [st_toList]
    exact q
  · obtain ⟨⟨hd, hd2⟩, rfl⟩ := iff_some h
    have n1 := nod_dep a hd
    have n2 := nodL_dep _ hd2
    obtain ⟨as, ra⟩ := reads_im I i1 rx n1
    obtain ⟨bs, rb⟩ := reads_im I i2 ry (by simpa [nod] using n2)
    simp only [toPy] at rb
    refine in_tuple_data rb ra (toPyL_plain _) (toPy_plain a) ?_ ?_
    · rw [toPy_dep a n1]
      have := room_ok hr hd
      omega
    · rw [any_py _ _ n2 n1]
      exact ⟨.bl _, H, I, rfl, q⟩
  · obtain ⟨⟨hd, hd2⟩, rfl⟩ := iff_some h
    have n1 := nod_dep a hd
    have n2 := nodL_dep _ hd2
    obtain ⟨as, ra⟩ := reads_im I i1 rx n1
    obtain ⟨bs, rb⟩ := reads_im I i2 ry (by simpa [nod] using n2)
    simp only [toPy] at rb
    refine in_list_data rb ra (toPyL_plain _) (toPy_plain a) ?_ ?_
    · rw [toPy_dep a n1]
      have := room_ok hr hd
      omega
    · rw [any_py _ _ n2 n1]
      exact ⟨.bl _, H, I, rfl, q⟩
  · cases h
theorem op_notInI (hr : Room 0 X.A) : OpR X (compareOp .NotIn) (rImB notInD (kxOf X)) := fun pins s σ H x y v u Q I rx ry ⟨a, b, d, i1, i2, h, q⟩ => by
  unfold notInD at h
  obtain ⟨d', h1, rfl⟩ := mpd h
  clear h
  have h := h1
  clear h1
  unfold inD at h
  split at h
  · cases h
    cases i1.str_
    cases i2.str_
    refine op_notIn_sign (X := X) pins s σ H _ _ _ _ Q I rx ry ⟨_, _, rfl, rfl, ?_⟩
    rw [st_toList]
    exact q
  · obtain ⟨⟨hd, hd2⟩, rfl⟩ := iff_some h
    have n1 := nod_dep a hd
    have n2 := nodL_dep _ hd2
    obtain ⟨as, ra⟩ := reads_im I i1 rx n1
    obtain ⟨bs, rb⟩ := reads_im I i2 ry (by simpa [nod] using n2)
    simp only [toPy] at rb
    refine notIn_tuple_data rb ra (toPyL_plain _) (toPy_plain a) ?_ ?_
    · rw [toPy_dep a n1]
      have := room_ok hr hd
      omega
    · rw [any_py _ _ n2 n1]
      exact ⟨.bl _, H, I, rfl, q⟩
  · obtain ⟨⟨hd, hd2⟩, rfl⟩ := iff_some h
    have n1 := nod_dep a hd
    have n2 := nodL_dep _ hd2
    obtain ⟨as, ra⟩ := reads_im I i1 rx n1
    obtain ⟨bs, rb⟩ := reads_im I i2 ry (by simpa [nod] using n2)
    simp only [toPy] at rb
    refine notIn_list_data rb ra (toPyL_plain _) (toPy_plain a) ?_ ?_
    · rw [toPy_dep a n1]
      have := room_ok hr hd
      omega
    · rw [any_py _ _ n2 n1]
      exact ⟨.bl _, H, I, rfl, q⟩
  · cases h
theorem t_op2I {ex : Expr} {op : D → D → Option Bool} (hK : kxOf X = G.K) (h : PE X ex (tOp (rImB op (kxOf X)) (tV G fa) (tV G fb))) : PE X ex (tV G (valF (ts2 op fa fb))) :=
  t_op2 h fun a b d v w H Q h i1 i2 k => ⟨a, b, d, by rw [hK]; exact i1, by rw [hK]; exact i2, h, k⟩
theorem c_eq (ha : PE X a (tV G fa)) (hb : PE X b (tV G fb)) (hK : kxOf X = G.K) (hr : Room 0 X.A) : PE X (.Compare a [.Eq] [b] pos) (tV G (valF (ts2 eqD fa fb))) := t_op2I hK (pe_cmpR (op_eqI hr) ha hb (nomark _))
theorem c_ne (ha : PE X a (tV G fa)) (hb : PE X b (tV G fb)) (hK : kxOf X = G.K) (hr : Room 0 X.A) : PE X (.Compare a [.NotEq] [b] pos) (tV G (valF (ts2 neD fa fb))) := t_op2I hK (pe_cmpR (op_neI hr) ha hb (nomark _))
theorem c_in (ha : PE X a (tV G fa)) (hb : PE X b (tV G fb)) (hK : kxOf X = G.K) (hr : Room 0 X.A) (hm : behindInMarks .In b = false := by rfl) : PE X (.Compare a [.In] [b] pos) (tV G (valF (ts2 inD fa fb))) := t_op2I hK (pe_cmpR (op_inI hr) ha hb hm)
theorem c_notIn (ha : PE X a (tV G fa)) (hb : PE X b (tV G fb)) (hK : kxOf X = G.K) (hr : Room 0 X.A) (hm : behindInMarks .NotIn b = false := by rfl) : PE X (.Compare a [.NotIn] [b] pos) (tV G (valF (ts2 notInD fa fb))) := t_op2I hK (pe_cmpR (op_notInI hr) ha hb hm)
end
end VL
end

section
set_option Elab.async false
set_option linter.all false
set_option maxRecDepth 100000
/-! VLq: readers of generators as expressions; built-ins. -/
namespace VL
open PySem PySem.Spec L2 VD
open PyProof.Rows (AllBare IsTup)

/-! ### texts -/
theorem glue_st (sep : List Nat) : ∀ (l : List (List Nat)), Txt.join (st sep) (l.map st) = st (glue sep l)
  | [] => by
    show Builtin.Str.glued _ _ = _
    unfold Builtin.Str.glued
    rfl
  | x :: r => by
    show Builtin.Str.glued _ _ = _
    unfold Builtin.Str.glued
    have go : ∀ (r : List (List Nat)) (acc : List Nat), ((r.map st).foldl (fun (acc : Array Nat) p => acc ++ (st sep).cps ++ p.cps) acc.toArray) = (r.foldl (fun a p => a ++ sep ++ p) acc).toArray := by
      intro r
      induction r with
      | nil => intro acc; rfl
      | cons p r ih =>
        intro acc
        simp only [List.map_cons, List.foldl_cons]
        rw [← ih]
        simp [st]
    have go2 : ∀ (r : List (List Nat)) (acc x : List Nat), r.foldl (fun a p => a ++ sep ++ p) (acc ++ x) = acc ++ glue sep (x :: r) := by
      intro r
      induction r with
      | nil => intro acc x; simp [glue]
      | cons p r ih =>
        intro acc x
        simp only [List.foldl_cons]
        have : acc ++ x ++ sep ++ p = (acc ++ x ++ sep) ++ p := rfl
        rw [this, ih]
        simp [glue]
    have h1 := go r x
    have h2 := go2 r [] x
    simp only [List.nil_append] at h2
    rw [h2] at h1
    have h3 : List.foldl (fun acc p => acc ++ (st sep).cps ++ p.cps) ((List.map st (x :: r)).headD Str.empty).cps (List.drop 1 (List.map st (x :: r))) = (glue sep (x :: r)).toArray := h1
    rw [h3]
theorem joinOk_st (sep : List Nat) (l : List (List Nat)) (h : (l.map fun z => z.length + sep.length).sum ≤ big) : JoinOk (st sep) (l.map st) = true := by
  unfold JoinOk Builtin.Str.tooLong
  have go : ∀ (l : List (List Nat)) (acc : Nat), (l.map st).foldl (fun a p => a + p.length + (st sep).length) acc = acc + (l.map fun z => z.length + sep.length).sum := by
    intro l
    induction l with
    | nil => intro acc; simp
    | cons p r ih =>
      intro acc
      simp only [List.map_cons, List.foldl_cons, List.sum_cons]
      rw [ih, st_len, st_len]
      omega
  simp only [List.foldl_toArray', List.size_toArray]
  rw [big_eq] at h
  simp only [Bool.not_eq_true', decide_eq_false_iff_not, Nat.not_lt, gt_iff_lt]
  first
    | (rw [go]; omega)
    | (rw [show (List.foldl (fun x1 x2 => x1 + x2.length + (st sep).length) 0 (l.map st)) = _ from go l 0]; omega)
theorem strsD_im {K : Kx} {H : Hp} : ∀ {ds : List D} {vs : List V} {l : List (List Nat)}, strsD ds = some l → ImL K H ds vs → vs = l.map fun z => V.str (st z)
  | [], vs, l, h, i => by cases h; simp only [ImL] at i; subst i; rfl
  | d :: ds, vs, l, h, i => by
    simp only [ImL] at i
    obtain ⟨v, vr, rfl, i1, i2⟩ := i
    cases d with
    | str z =>
      obtain ⟨l', h1, h2⟩ := mpd (show (strsD ds).map (fun l => z :: l) = some l from h)
      subst h2
      rw [i1.str_, strsD_im h1 i2]
      rfl
    | _ => cases h
theorem strs_vals {l : List (List Nat)} {us : List Value} (r : Vals (l.map fun z => V.str (st z)) us) : ∃ p : List (Str × Tok), us = strValues p ∧ p.map (·.1) = l.map st := by
  induction l generalizing us with
  | nil => cases r; exact ⟨[], rfl, rfl⟩
  | cons z l ih =>
    cases r with
    | cons r1 r2 =>
      obtain ⟨t, rfl⟩ := r1
      obtain ⟨p, rfl, e⟩ := ih r2
      exact ⟨(st z, t) :: p, rfl, by simp [e]⟩

/-! ### the items collected -/
section
variable {X : Cx} {pins : List (Addr × Obj)} {σ : L2.St} {G : Gx} {B : Bx} {Hb : Hp} {a : Addr} {g : Nat} {ys : List D} {st' : Bool} {ef : En} {A : Around} {s : Shared} {k : Nat} {E : Value → Shared → Prop}
theorem gen_collect {Q : List Value → Shared → Prop} (R : Ready X pins σ G B Hb a g ys st' ef k s) (hr : Room (k + 2) A) (hf : A.frames = some X.stack) (st0 : st' = false) (hz : ys.length ≤ sizeLine)
    (hQ : ∀ s' H' us vs, Vals vs us → ImL G.K H' ys vs → Inv X pins σ H' s' → Ext Hb H' → SS G B ef σ H' → Q us s') : wpAny (model X.prog X.w) A (collect (.ref a)) Q E s := by
  have hh : A.handled = none := hr.hd
  have hI := R.gen
  have haS : a < s.heap.objs.size := let ⟨o, _, _, ho, _⟩ := R.gen; Heap.lt_size ho
  have hSI : s.heap.objs.size ≠ a := Nat.ne_of_gt haS
  have hcS : cStatics < s.heap.objs.size := let ⟨_, hn, _⟩ := R.inv.nolimit; hn.lt
  have gty : ∀ {h : Heap}, (∀ b o, s.heap.get? b = some o → h.get? b = some o) → h.IsGen a g := fun {h} q => hI.keeps q
  unfold collect
  refine wpAny_bind (wpAny_runValue (codeAny_builtin F.entry_proto_collect ?_))
  rw [Around.under_plainId F.plain_proto_collect _]
  show wpAny _ A.in1 (newList [] >>= fun l => again (.builtin "list.__iadd__" ⟨[l, .ref a], []⟩)) _ _ s
  refine wpAny_bind (wpAny_newObj_type ?_)
  refine wpAny_pure ⟨plainId_quiet F.plain_list_iadd _, codeAny_builtin F.entry_list_iadd ?_⟩
  rw [Around.under_plainId F.plain_list_iadd _]
  have k1 : ∀ b o, s.heap.get? b = some o → (s.heap.push { cls := .type "list", data := .seq ([] : List Value).toArray }).get? b = some o := fun b o e => Heap.get?_push_of_some _ e
  show wpAny _ A.in1 (Builtin.List.listExtendWith (.ref s.heap.objs.size) (.ref a) (.ref s.heap.objs.size)) _ _ _
  unfold Builtin.List.listExtendWith
  refine wpAny_bind (wpAny_typeOf (Heap.IsGen.typeIs (s := { s with heap := _ }) (gty k1)) ?_)
  have h1 : Builtin.List.listSameRef (.ref s.heap.objs.size) (.ref a) = false := by simp [Builtin.List.listSameRef, hSI]
  have h2 : (Value.type "generator" == Value.type "list") = false := by decide
  have h3 : (Value.type "generator" == Value.type "tuple") = false := by decide
  simp only [h1, h2, h3, Bool.or_false, Bool.false_eq_true, if_false]
  refine wpAny_bind (wpAny_pyIter_gen (s := { s with heap := _ }) (gty k1) ?_)
  refine wpAny_bind (wpAny_holding ?_)
  unfold Builtin.List.listLengthHint
  refine wpAny_bind (wpAny_specialOf (Heap.IsGen.typeIs (s := { s with heap := _ }) (gty k1)) F.gen_no_len ?_)
  show wpAny _ A.in1 (specialOf (Value.ref a) (Str.ofString "__length_hint__") >>= _) _ _ _
  refine wpAny_bind (wpAny_specialOf (Heap.IsGen.typeIs (s := { s with heap := _ }) (gty k1)) F.gen_no_hint ?_)
  refine wpAny_pure ?_
  show wpAny _ A.in1 (rule "list.extend.makes-room" >>= fun _ => Builtin.List.listTouch (.ref s.heap.objs.size) >>= fun _ =>
    again (.builtin "list.extend.loop" ⟨[.ref s.heap.objs.size, .ref a, .ref s.heap.objs.size], []⟩)) _ _ _
  refine wpAny_bind (wpAny_rule ?_)
  have hS₁ : (s.heap.push { cls := .type "list", data := .seq ([] : List Value).toArray }).get? s.heap.objs.size = some { cls := .type "list", data := .seq ([] : List Value).toArray } := Heap.get?_push_size _ rfl
  refine wpAny_bind ?_
  show wpAny _ A.in1 (updateSeq s.heap.objs.size (·.push .none) >>= fun _ => updateSeq s.heap.objs.size (·.pop)) _ _ _
  refine wpAny_bind (wpAny_updateSeq hS₁ rfl ?_)
  have hS₂ := Heap.get?_update_self (Obj.mapSeq (·.push Value.none)) hS₁ rfl
  refine wpAny_updateSeq hS₂ rfl ?_
  have hS₃ := Heap.get?_update_self (Obj.mapSeq (·.pop)) hS₂ rfl
  have k3 : ∀ b o, s.heap.get? b = some o → (((s.heap.push { cls := .type "list", data := .seq ([] : List Value).toArray }).update s.heap.objs.size (Obj.mapSeq (·.push Value.none))).update s.heap.objs.size (Obj.mapSeq (·.pop))).get? b = some o :=
    fun b o e => by
      have hb : b ≠ s.heap.objs.size := Nat.ne_of_lt (Heap.lt_size e)
      exact (Heap.get?_update_other _ _ (Ne.symm hb)).trans ((Heap.get?_update_other _ _ (Ne.symm hb)).trans (k1 b o e))
  refine wpAny_pure ⟨plainId_quiet F.plain_extend_loop _, ?_⟩
  refine ext_loop (X := X) (pins := pins) (σ := σ) (G := G) (B := B) (Hb := Hb) (g := g) (ys := ys) (st := st') (ef := ef) (S := s.heap.objs.size) hh (by have := hr.dp; omega) st0 hz (Ne.symm hSI) (Nat.ne_of_lt hcS)
    (fun s' H' acc c vs e rv im I x hS ss => ?_) ys.length 0 _ (Nat.sub_zero _) (Nat.zero_le _) (R.live (hr.in1.in1) hf (fun z hz => by rw [List.mem_singleton.mp hz]; exact Nat.le_refl _) (fun z hz => ?_) k3 rfl rfl ⟨_, _, [], hS₃, .nil, by simpa using ImL.nil⟩)
  · show wpAny _ A (load s.heap.objs.size >>= _) _ _ s'
    refine wpAny_bind (wpAny_load e ?_)
    exact wpAny_pure (hQ s' H' acc.toList vs rv im I x ss)
  · rw [List.mem_singleton.mp hz]
    exact ⟨_, hS₃, fun v q => nomatch q⟩
end

/-! ### readers -/
section
variable {X : Cx} {G : Gx} {pos : Pos} {ex : Expr} {f : FGn} {k : Nat}
theorem boot_any' : bootBuiltins "any" = some (.builtin "any") := by decide +kernel
theorem t_any {p : Pos} (hr : Room (k + 2) X.A) (hg : Gl X "any") (hm : X.mg "any" = none) (h : PGs X G k ex f) (he : starEach [ex] X.env = (false, eval ex X.env) :: starEach [] X.env := by rfl) (hpl : (backTo pos (starEach [] X.env)).any (·.1) = false := by rfl) :
    PE X (.Call (.Name "any" p) [ex] [] pos) (tV G (valF (anyF f))) := by
  refine ⟨fun pins s σ H Q I hq => ?_⟩
  obtain ⟨B, e, d, e', ss, h1, kq⟩ := hq
  obtain ⟨⟨b, e1⟩, hA, hB⟩ := bnd h1
  obtain ⟨⟨⟨ys, st'⟩, ef⟩, h2, hC⟩ := mpd hA
  cases hC
  cases hB
  refine wpAny_Call_Name_kw (ld_blt I hg hm boot_any' ?_)
  refine PyProof.Rows.callWith_builtin1 ?_ he hpl
  rw [he]
  show wpAny _ _ (spliced ((false, eval ex X.env) :: backTo pos (starEach [] X.env))) _ _ s
  refine Calls.spliced_cons (thn (h.gn.run pins s σ H B e stopAny ys st' ef I ss h2) fun u s5 ⟨a, g, Hb, eu, x, R⟩ => ?_)
  subst eu
  refine Calls.spliced_nil ?_
  have so := h.ok _ _ _ _ _ h2
  refine call_function_tree F.kind_any F.plain_any F.entry_any (F.args_any1 _) ?_
  unfold Builtin.«any»
  refine wpAny_bind (m := oneArg "any" _) (wpAny_pure ?_)
  refine wpAny_bind (wpAny_pyIter_gen R.gen ?_)
  refine wpAny_pure ⟨plainId_quiet F.plain_any_loop _, any_loop (X := X) hr.hd (by have := hr.dp; omega) so (fun s' H' I' x' ss' => ⟨.bl st', H', I', rfl, kq _ _ ss' (Im.bl _) (x.trans x')⟩) ys.length 0 s5 (Nat.sub_zero _) (Nat.zero_le _) (fun h0 => so.nil (List.length_eq_zero_iff.mp h0.symm))
    (R.live hr.in1.in1 I.ok.frames (by simp) (by simp) (fun _ _ e => e) rfl rfl trivial)⟩
theorem boot_all : bootBuiltins "all" = some (.builtin "all") := by decide +kernel
theorem t_all {p : Pos} (hr : Room (k + 2) X.A) (hg : Gl X "all") (hm : X.mg "all" = none) (h : PGs X G k ex f) (he : starEach [ex] X.env = (false, eval ex X.env) :: starEach [] X.env := by rfl) (hpl : (backTo pos (starEach [] X.env)).any (·.1) = false := by rfl) :
    PE X (.Call (.Name "all" p) [ex] [] pos) (tV G (valF (allF f))) := by
  refine ⟨fun pins s σ H Q I hq => ?_⟩
  obtain ⟨B, e, d, e', ss, h1, kq⟩ := hq
  obtain ⟨⟨b, e1⟩, hA, hB⟩ := bnd h1
  obtain ⟨⟨⟨ys, st'⟩, ef⟩, h2, hC⟩ := mpd hA
  cases hC
  cases hB
  refine wpAny_Call_Name_kw (ld_blt I hg hm boot_all ?_)
  refine PyProof.Rows.callWith_builtin1 ?_ he hpl
  rw [he]
  show wpAny _ _ (spliced ((false, eval ex X.env) :: backTo pos (starEach [] X.env))) _ _ s
  refine Calls.spliced_cons (thn (h.gn.run pins s σ H B e stopAll ys st' ef I ss h2) fun u s5 ⟨a, g, Hb, eu, x, R⟩ => ?_)
  subst eu
  refine Calls.spliced_nil ?_
  have so := h.ok _ _ _ _ _ h2
  refine call_function_tree F.kind_all F.plain_all F.entry_all (F.args_all1 _) ?_
  unfold Builtin.«all»
  refine wpAny_bind (m := oneArg "all" _) (wpAny_pure ?_)
  refine wpAny_bind (wpAny_pyIter_gen R.gen ?_)
  refine wpAny_pure ⟨plainId_quiet F.plain_all_loop _, all_loop (X := X) hr.hd (by have := hr.dp; omega) so (fun s' H' I' x' ss' => ⟨.bl (!st'), H', I', rfl, kq _ _ ss' (Im.bl _) (x.trans x')⟩) ys.length 0 s5 (Nat.sub_zero _) (Nat.zero_le _) (fun h0 => so.nil (List.length_eq_zero_iff.mp h0.symm))
    (R.live hr.in1.in1 I.ok.frames (by simp) (by simp) (fun _ _ e => e) rfl rfl trivial)⟩
theorem boot_tuple : bootBuiltins "tuple" = some (.type "tuple") := by decide +kernel
/-- tuple(..for..) -/
theorem v_tupG {p : Pos} (hr : Room (k + 4) X.A) (hg : Gl X "tuple") (hm : X.mg "tuple" = none) (h : PGs X G k ex f) (he : starEach [ex] X.env = (false, eval ex X.env) :: starEach [] X.env := by rfl) (hpl : (backTo pos (starEach [] X.env)).any (·.1) = false := by rfl) :
    PE X (.Call (.Name "tuple" p) [ex] [] pos) (tV G (tupGF f)) := by
  refine ⟨fun pins s σ H Q I hq => ?_⟩
  obtain ⟨B, e, d, e', ss, h1, kq⟩ := hq
  obtain ⟨⟨⟨ys, st'⟩, ef⟩, h2, hC⟩ := bnd h1
  obtain ⟨hz, hD⟩ := iff_some hC
  cases hD
  rw [big_eq] at hz
  refine wpAny_Call_Name_kw (ld_blt I hg hm boot_tuple ?_)
  refine PyProof.Rows.callWith_type1 ?_ he hpl
  rw [he]
  show wpAny _ _ (spliced ((false, eval ex X.env) :: backTo pos (starEach [] X.env))) _ _ s
  refine Calls.spliced_cons (thn (h.gn.run pins s σ H B e goOn ys st' ef I ss h2) fun u s5 ⟨a, g, Hb, eu, x, R⟩ => ?_)
  subst eu
  refine Calls.spliced_nil ?_
  have so := h.ok _ _ _ _ _ h2
  refine callType_codes (Q₁ := fun obj s₁ => s₁.TypeIs obj "tuple" ∧ EP X pins σ Q obj s₁) F.called_tuple (F.typeCall_tuple_1 _) F.entry_object_init ?_ fun obj s₁ h₁ => ?_
  · refine codeAny_of_tree ?_
    show wpAny _ X.A.in1.in1 (do checkBuiltinCall "tuple.__new__" ⟨[.type "tuple", .ref a], []⟩; again (.builtin "tuple.__new__" ⟨[.type "tuple", .ref a], []⟩)) _ _ s5
    refine wpAny_bind (wpAny_of_eq (F.newCall_tuple_1 _) (wpAny_pure ⟨plainId_quiet F.plain_tuple_new _, codeAny_builtin F.entry_tuple_new ?_⟩))
    rw [Around.under_plainId F.plain_tuple_new _]
    have hsub := sub_tuple_self
    have hinit := init_tuple_lookup
    have hmh := madeHere_tuple
    have hTI : s5.TypeIs (.ref a) "generator" := R.gen.typeIs
    have hcol : ∀ {Q' : List Value → Shared → Prop} {E' : Value → Shared → Prop}, (∀ s' H' us vs, Vals vs us → ImL G.K H' ys vs → Inv X pins σ H' s' → Ext Hb H' → SS G B ef σ H' → Q' us s') → wpAny (model X.prog X.w) X.A.in1.in1 (collect (.ref a)) Q' E' s5 :=
      fun hq => gen_collect R hr.in1.in1 I.ok.frames so.goOn hz hq
    wp_walk using wpAny_typeOf hTI, hcol
    intro s' H' us vs rv im I' x' ss'
    show wpAny _ _ (Builtin.Tuple.tupleExact us.toArray >>= fun v => ret v) _ _ _
    unfold Builtin.Tuple.tupleExact
    have hl : us.toArray.size ≤ sizeLine := by
      rw [List.size_toArray, ← rv.length, ← im.length]; exact hz
    refine wpAny_bind (wpAny_newObj_type ?_ hl)
    refine wpAny_pure ?_
    have hn : H' s'.heap.objs.size = none := I'.hok.fresh (Nat.le_refl _)
    refine ⟨⟨_, Heap.get?_push_size _ rfl, rfl⟩, .ref s'.heap.objs.size, upd H' s'.heap.objs.size (.tup vs), ?_, rfl, kq _ _ (ss'.grow (Grow.new hn)) (Im.newTup hn im) ((x.trans x').trans (Ext.new hn))⟩
    exact I'.laid (t' := s'.toks) (fun b o e => Heap.get?_push_of_some _ e) (Nat.le_refl _) ⟨by rw [← im.length]; exact hz, us, rv, IsTup.new _ _⟩
  · exact ⟨h₁.1, F.args_object_init_2 obj _, object_init_meets F.called_tuple.init.lookup F.called_tuple.made (by decide) X.prog X.w X.A.in1 _ s₁ ⟨h₁.1, rfl, h₁.2⟩⟩
end
end VL
end

section
set_option Elab.async false
set_option linter.all false
set_option maxRecDepth 100000
/-! VLr: join, sorted, min, max, count, index, isinstance, tuple, list. -/
namespace VL
open PySem PySem.Spec L2 VD
open PyProof.Rows (AllBare IsTup)
section
variable {X : Cx} {G : Gx} {pos : Pos} {a b ex : Expr} {fa fb : FE} {fm : FM} {f : FGn} {k : Nat}
/-- sep.join(..for..) -/
theorem v_joinG {apos : Pos} (ha : PE X a (tV G fa)) (hr : Room (k + 3) X.A) (h : PGs X G k ex f) (hbase : attributeBase a "join" X.env (eval a X.env) = eval a X.env := by rfl)
    (hfew : ((backTo pos (starEach [ex] X.env)).all (fun x => !x.1) && (backToKw pos (keywordEach [] X.env)).all (fun x => x.1.isSome)
      && decide (([ex] : List Expr).length + ([] : List Keyword).length + (if ([] : List Keyword).isEmpty then 0 else 1) < 30)) = true := by rfl)
    (hline : (apos.endLine == pos.line) = true := by rfl) (he : starEach [ex] X.env = (false, eval ex X.env) :: starEach [] X.env := by rfl) (hplain : (backTo pos (starEach [] X.env)).any (·.1) = false := by rfl) :
    PE X (.Call (.Attribute a "join" apos) [ex] [] pos) (tV G (joinGF fa f)) := by
  refine ⟨fun pins s σ H Q I hq => ?_⟩
  obtain ⟨B, e, d, e', ss, h1, kq⟩ := hq
  obtain ⟨⟨ds, e1⟩, h2, h3⟩ := bnd h1
  cases ds with
  | str sep =>
    obtain ⟨⟨⟨ys, st'⟩, ef⟩, h4, h5⟩ := bnd h3
    obtain ⟨z, h6, h7⟩ := mpd h5
    cases h7
    obtain ⟨l, h8, h9⟩ := bnd h6
    obtain ⟨⟨hz1, hz2⟩, rfl⟩ := iff_some h9
    refine wpAny_Call_method_late hbase hfew hline rfl (thn (ha.run pins s σ H (fun v H1 => SS G B e1 σ H1 ∧ Im G.K H1 (.str sep) v ∧ Ext H H1) I ⟨B, e, _, e1, ss, h2, fun v H1 s1 i1 x1 => ⟨s1, i1, x1⟩⟩) fun v s1 ⟨x', H1, I1, r1, ss1, i1, x1⟩ => ?_)
    cases i1.str_
    obtain ⟨tk, rfl⟩ := (show ∃ t, v = Value.str (st sep) t from r1)
    refine ⟨"str", _, PySem.F.plainAttrs_str, PySem.F.slot_str_join, PySem.F.type_str_join, typeIs_str _ _ _, (fun _ e => nomatch e), ?_⟩
    rw [he]
    refine Calls.callWith_builtin (by show (false || (backTo pos (starEach [] X.env)).any (·.1)) = false; rw [hplain] <;> rfl) (Calls.evalArgs_plain ?_)
    show wpAny _ _ (spliced ((false, eval ex X.env) :: backTo pos (starEach [] X.env))) _ _ s1
    refine Calls.spliced_cons (thn (h.gn.run pins s1 σ H1 B e1 goOn ys st' ef I1 ss1 h4) fun u s5 ⟨a, g, Hb, eu, x, R⟩ => ?_)
    subst eu
    refine Calls.spliced_nil ?_
    have so := h.ok _ _ _ _ _ h4
    have hlen : ys.length = l.length := by
      have : ∀ {ds : List D} {l : List (List Nat)}, strsD ds = some l → ds.length = l.length := by
        intro ds
        induction ds with
        | nil => intro l h; cases h; rfl
        | cons d ds ih =>
          intro l h
          cases d with
          | str z =>
            obtain ⟨l', q1, q2⟩ := mpd (show (strsD ds).map (fun l => z :: l) = some l from h)
            subst q2
            simp [ih q1]
          | _ => cases h
      exact this h8
    refine wpAny_call (codeAny_call_builtin F.slot_str_join.plain F.entry_str_join (F.slot_str_join.check _ _ _ _ _ _ _ _ (typeIs_str _ _ _) (F.args_str_join_2 _ _) ?_))
    show wpAny _ X.A.in1 (Builtin.«str.join» ⟨[.str (st sep) tk, .ref a], []⟩) _ _ s5
    rw [join_tree_other]
    refine wpAny_bind (wpAny_typeOf R.gen.typeIs ?_)
    show wpAny _ X.A.in1 ((pyIter (.ref a)).tryCatch _ >>= fun it => collect it >>= fun items => joinTail (st sep) items) _ _ s5
    refine wpAny_bind (wpAny_tryCatch (wpAny_pyIter_gen R.gen ?_))
    refine wpAny_bind (gen_collect R hr.in1 I.ok.frames so.goOn (by rw [hlen, ← big_eq]; exact hz2) fun s' H' us vs rv im I' x' ss' => ?_)
    have ev := strsD_im h8 im
    subst ev
    obtain ⟨p, rfl, ep⟩ := strs_vals rv
    have hok : JoinOk (st sep) (p.map (·.1)) = true := by rw [ep]; exact joinOk_st sep l hz1
    have hok' := hok
    unfold JoinOk at hok'
    rw [Bool.not_eq_true'] at hok'
    have gg : Gives (joinTail (st sep) (strValues p)) (joinMade (st sep) p) := by
      have g0 := gives_joinTail (st sep) p hok'
      cases p with
      | nil => exact g0
      | cons p r => cases r with
        | nil => exact g0
        | cons q r' => exact g0
    refine gg X.prog X.w X.A (wants (EP X pins σ Q) X.xe) s' (post_join p ⟨joinFit_length hok', fun t' k' => ?_⟩)
    rw [ep, glue_st]
    exact ⟨.str _, H', I'.tok k', ⟨t', rfl⟩, kq _ _ ss' (Im.str _) ((x1.trans x).trans x')⟩
  | _ => cases h3

/-! ### min, max of two -/
theorem two_strs {A : Around} {prog : Program} {w : World} (f : Nat → List Nat) (P : Nat → Value → Prop) (hP : ∀ i v, P i v → ∃ t, v = .str (st (f i)) t) : CmpOf prog w A .Lt P (fun i j => decide (f i < f j)) ∧ CmpOf prog w A .Gt P (fun i j => decide (f j < f i)) := by
  refine ⟨fun i j vi vj s Q E hi hj h => ?_, fun i j vi vj s Q E hi hj h => ?_⟩
  · obtain ⟨t, rfl⟩ := hP i vi hi
    obtain ⟨u, rfl⟩ := hP j vj hj
    exact PySem.P.lt_str (by rw [st_toList, st_toList]; exact h)
  · obtain ⟨t, rfl⟩ := hP i vi hi
    obtain ⟨u, rfl⟩ := hP j vj hj
    exact PySem.P.gt_str (by rw [st_toList, st_toList]; exact h)
def two2 (x y : List Nat) (i : Nat) : List Nat := if i = 0 then x else y
theorem two_vals {x y : List Nat} {t u : Tok} : ∀ (i : Nat) (v : Value), (#[Value.str (st x) t, Value.str (st y) u])[i]? = some v → ∃ t, v = Value.str (st (two2 x y i)) t
  | 0, v, h => by simp at h; exact ⟨t, h.symm⟩
  | 1, v, h => by simp at h; exact ⟨u, h.symm⟩
  | n + 2, v, h => by simp at h
theorem min_two_strs {prog : Program} {w : World} {A : Around} {E : Value → Shared → Prop} {s : Shared} {x y : List Nat} {t u : Tok} {Q : Value → Shared → Prop} (hh : A.handled = none)
    (h : ∀ h' tk, (∀ c o, s.heap.get? c = some o → h'.get? c = some o) → Q (if y < x then .str (st y) u else .str (st x) t) { s with heap := h', toks := tk }) :
    wpAny (model prog w) A (call (.builtin "min") [.str (st x) t, .str (st y) u]) Q E s := by
  have hT : (s.heap.push { cls := .type "tuple", data := .seq #[.str (st x) t, .str (st y) u] }).IsTuple s.heap.objs.size #[.str (st x) t, .str (st y) u] := ⟨_, Heap.get?_push_size _ rfl, rfl, 0, rfl⟩
  refine call_min_two (wpAny_pyIter_tuple hT ?_)
  have hsz : (s.heap.push { cls := .type "tuple", data := .seq #[.str (st x) t, .str (st y) u] }).objs.size = s.heap.objs.size + 1 := Heap.size_push ..
  refine ⟨_, [_, s.heap.objs.size], [_], _, _, _, _, rfl, Walks.tuple (A := A.in1) hh _ s.heap.objs.size (by rw [hsz]; exact Nat.ne_of_lt (Nat.lt_succ_self _)) #[.str (st x) t, .str (st y) u],
    ⟨⟨_, Heap.get?_push_size _ rfl, rfl, rfl⟩, hT.push _⟩, fun c hc => ?_, by simp, (two_strs _ _ two_vals).1, fun v h' tk hP hk => ?_⟩
  · show c < ((s.heap.push _).push _).objs.size
    rw [Heap.size_push, hsz]
    rcases List.mem_cons.mp hc with rfl | hc
    · rw [hsz]; exact Nat.lt_succ_self _
    · rcases List.mem_cons.mp hc with rfl | hc
      · exact Nat.lt_succ_of_lt (Nat.lt_succ_self _)
      · cases hc
  · have hold : ∀ c o, s.heap.get? c = some o → h'.get? c = some o := fun c o e => by
      refine hk c o (fun hm => ?_) (Heap.get?_push_of_some _ (Heap.get?_push_of_some _ e))
      rcases List.mem_cons.mp hm with e1 | hm
      · have := Heap.lt_size e; rw [e1, hsz] at this; exact Nat.lt_irrefl _ (Nat.lt_of_succ_lt this)
      · cases hm
    have := h h' tk hold
    have hP' : (#[Value.str (st x) t, Value.str (st y) u])[argBest (fun i j => decide (two2 x y i < two2 x y j)) 1]? = some v := hP
    have hv : v = if y < x then Value.str (st y) u else Value.str (st x) t := by
      by_cases hba : y < x
      · have e : argBest (fun i j => decide (two2 x y i < two2 x y j)) 1 = 1 := by simp [argBest, two2, hba]
        rw [e] at hP'
        simpa [hba] using hP'.symm
      · have e : argBest (fun i j => decide (two2 x y i < two2 x y j)) 1 = 0 := by simp [argBest, two2, hba]
        rw [e] at hP'
        simpa [hba] using hP'.symm
    rw [hv]; exact this
theorem max_two_strs {prog : Program} {w : World} {A : Around} {E : Value → Shared → Prop} {s : Shared} {x y : List Nat} {t u : Tok} {Q : Value → Shared → Prop} (hh : A.handled = none)
    (h : ∀ h' tk, (∀ c o, s.heap.get? c = some o → h'.get? c = some o) → Q (if x < y then .str (st y) u else .str (st x) t) { s with heap := h', toks := tk }) :
    wpAny (model prog w) A (call (.builtin "max") [.str (st x) t, .str (st y) u]) Q E s := by
  have hT : (s.heap.push { cls := .type "tuple", data := .seq #[.str (st x) t, .str (st y) u] }).IsTuple s.heap.objs.size #[.str (st x) t, .str (st y) u] := ⟨_, Heap.get?_push_size _ rfl, rfl, 0, rfl⟩
  refine call_max_two (wpAny_pyIter_tuple hT ?_)
  have hsz : (s.heap.push { cls := .type "tuple", data := .seq #[.str (st x) t, .str (st y) u] }).objs.size = s.heap.objs.size + 1 := Heap.size_push ..
  refine ⟨_, [_, s.heap.objs.size], [_], _, _, _, _, rfl, Walks.tuple (A := A.in1) hh _ s.heap.objs.size (by rw [hsz]; exact Nat.ne_of_lt (Nat.lt_succ_self _)) #[.str (st x) t, .str (st y) u],
    ⟨⟨_, Heap.get?_push_size _ rfl, rfl, rfl⟩, hT.push _⟩, fun c hc => ?_, by simp, (two_strs _ _ two_vals).2, fun v h' tk hP hk => ?_⟩
  · show c < ((s.heap.push _).push _).objs.size
    rw [Heap.size_push, hsz]
    rcases List.mem_cons.mp hc with rfl | hc
    · rw [hsz]; exact Nat.lt_succ_self _
    · rcases List.mem_cons.mp hc with rfl | hc
      · exact Nat.lt_succ_of_lt (Nat.lt_succ_self _)
      · cases hc
  · have hold : ∀ c o, s.heap.get? c = some o → h'.get? c = some o := fun c o e => by
      refine hk c o (fun hm => ?_) (Heap.get?_push_of_some _ (Heap.get?_push_of_some _ e))
      rcases List.mem_cons.mp hm with e1 | hm
      · have := Heap.lt_size e; rw [e1, hsz] at this; exact Nat.lt_irrefl _ (Nat.lt_of_succ_lt this)
      · cases hm
    have := h h' tk hold
    have hP' : (#[Value.str (st x) t, Value.str (st y) u])[argBest (fun i j => decide (two2 x y j < two2 x y i)) 1]? = some v := hP
    have hv : v = if x < y then Value.str (st y) u else Value.str (st x) t := by
      by_cases hba : x < y
      · have e : argBest (fun i j => decide (two2 x y j < two2 x y i)) 1 = 1 := by simp [argBest, two2, hba]
        rw [e] at hP'
        simpa [hba] using hP'.symm
      · have e : argBest (fun i j => decide (two2 x y j < two2 x y i)) 1 = 0 := by simp [argBest, two2, hba]
        rw [e] at hP'
        simpa [hba] using hP'.symm
    rw [hv]; exact this
theorem call_min2s (hc : X.calm = true) : CallR X (.builtin "min") (fun xs H Q => ∃ i j, xs = [.str (st i), .str (st j)] ∧ Q (.str (st (if j < i then j else i))) H) := by
  intro pins s σ H xs us Q I r h
  obtain ⟨i, j, rfl, q⟩ := h
  obtain ⟨u, w', rfl, ⟨t, rfl⟩, ⟨t', rfl⟩⟩ := vals2 r
  refine min_two_strs (I.ok.hd hc) fun h' tk k => ⟨_, H, I.kept k, ?_, q⟩
  by_cases hj : j < i
  · rw [if_pos hj, if_pos hj]; exact ⟨_, rfl⟩
  · rw [if_neg hj, if_neg hj]; exact ⟨_, rfl⟩
theorem call_max2s (hc : X.calm = true) : CallR X (.builtin "max") (fun xs H Q => ∃ i j, xs = [.str (st i), .str (st j)] ∧ Q (.str (st (if i < j then j else i))) H) := by
  intro pins s σ H xs us Q I r h
  obtain ⟨i, j, rfl, q⟩ := h
  obtain ⟨u, w', rfl, ⟨t, rfl⟩, ⟨t', rfl⟩⟩ := vals2 r
  refine max_two_strs (I.ok.hd hc) fun h' tk k => ⟨_, H, I.kept k, ?_, q⟩
  by_cases hj : i < j
  · rw [if_pos hj, if_pos hj]; exact ⟨_, rfl⟩
  · rw [if_neg hj, if_neg hj]; exact ⟨_, rfl⟩
theorem CallR.or {u : Value} {r r' : List V → Hp → VK → Prop} (h : CallR X u r) (h' : CallR X u r') : CallR X u (fun xs H Q => r xs H Q ∨ r' xs H Q) :=
  fun pins s σ H xs us Q I rv q => q.elim (h pins s σ H xs us Q I rv) (h' pins s σ H xs us Q I rv)
theorem boot_min : bootBuiltins "min" = some (.builtin "min") := by decide +kernel
theorem boot_max : bootBuiltins "max" = some (.builtin "max") := by decide +kernel
theorem v_min2 {p : Pos} (hc : X.calm = true) (ha : PA X [a, b] (tL G (consA fa (consA fb nilA)))) (hg : Gl X "min") (hm : X.mg "min" = none) (he : starEach [a, b] X.env = (false, eval a X.env) :: starEach [b] X.env := by rfl)
    (hpl : (backTo pos (starEach [b] X.env)).any (·.1) = false := by rfl) : PE X (.Call (.Name "min" p) [a, b] [] pos) (tV G (op2 min2D fa fb)) := by
  refine PE.le (pe_callB (CallR.or (call_min2 hc) (call_min2s hc)) hg hm boot_min ha (he := he) (hpl := hpl)) fun σ H Q ⟨B, e, d, e', s, h, k⟩ => ?_
  obtain ⟨⟨a1, e1⟩, h1, h⟩ := bnd h
  obtain ⟨⟨b1, e2⟩, h2, h⟩ := bnd h
  obtain ⟨d1, h3, h⟩ := mpd h
  cases h
  refine ⟨B, e, [a1, b1], e2, s, by unfold consA nilA; rw [h1]; simp only [Option.bind_some]; rw [h2]; rfl, fun vs H1 s1 i1 x1 => ?_⟩
  simp only [ImL] at i1
  obtain ⟨v, vr, rfl, i2, w, wr, rfl, i3, rfl⟩ := i1
  have h3 : min2D a1 b1 = some _ := h3
  unfold min2D at h3
  split at h3
  · cases h3
    rw [i2.int_, i3.int_]
    exact .inl ⟨_, _, rfl, k _ H1 s1 (Im.int _) x1⟩
  · cases h3
    rw [i2.str_, i3.str_]
    exact .inr ⟨_, _, rfl, k _ H1 s1 (Im.str _) x1⟩
  · cases h3
theorem v_max2 {p : Pos} (hc : X.calm = true) (ha : PA X [a, b] (tL G (consA fa (consA fb nilA)))) (hg : Gl X "max") (hm : X.mg "max" = none) (he : starEach [a, b] X.env = (false, eval a X.env) :: starEach [b] X.env := by rfl)
    (hpl : (backTo pos (starEach [b] X.env)).any (·.1) = false := by rfl) : PE X (.Call (.Name "max" p) [a, b] [] pos) (tV G (op2 max2D fa fb)) := by
  refine PE.le (pe_callB (CallR.or (call_max2 hc) (call_max2s hc)) hg hm boot_max ha (he := he) (hpl := hpl)) fun σ H Q ⟨B, e, d, e', s, h, k⟩ => ?_
  obtain ⟨⟨a1, e1⟩, h1, h⟩ := bnd h
  obtain ⟨⟨b1, e2⟩, h2, h⟩ := bnd h
  obtain ⟨d1, h3, h⟩ := mpd h
  cases h
  refine ⟨B, e, [a1, b1], e2, s, by unfold consA nilA; rw [h1]; simp only [Option.bind_some]; rw [h2]; rfl, fun vs H1 s1 i1 x1 => ?_⟩
  simp only [ImL] at i1
  obtain ⟨v, vr, rfl, i2, w, wr, rfl, i3, rfl⟩ := i1
  have h3 : max2D a1 b1 = some _ := h3
  unfold max2D at h3
  split at h3
  · cases h3
    rw [i2.int_, i3.int_]
    exact .inl ⟨_, _, rfl, k _ H1 s1 (Im.int _) x1⟩
  · cases h3
    rw [i2.str_, i3.str_]
    exact .inr ⟨_, _, rfl, k _ H1 s1 (Im.str _) x1⟩
  · cases h3
end
end VL
end

section
set_option Elab.async false
set_option linter.all false
set_option maxRecDepth 100000
/-! VLs: sorted, tuple, list, len, count, isinstance. -/
namespace VL
open PySem PySem.Spec L2 VD
open PyProof.Rows (AllBare IsTup)
open PySem.W (EachIs AllAlike Sortable dataLe keyToks keyToksAll)
mutual
theorem keyToks_py : ∀ d : D, keyToks (toPy d) = tok d
  | .non => by simp only [toPy, keyToks, tok]
  | .bl _ => by simp only [toPy, keyToks, tok]
  | .int _ => by simp only [toPy, keyToks, tok]
  | .str x => by simp only [toPy, keyToks, tok, st_toList]
  | .tup xs => by simp only [toPy, keyToks, tok, keyToksL_py xs]
  | .lst xs => by simp only [toPy, keyToks, tok, keyToksL_py xs]
  | .dct _ => by simp only [toPy, keyToks, tok]
theorem keyToksL_py : ∀ ds : List D, keyToksAll (toPyL ds) = tokL ds
  | [] => by simp only [toPyL, keyToksAll, tokL]
  | x :: xs => by simp only [toPyL, keyToksAll, tokL, keyToks_py x, keyToksL_py xs]
end
mutual
theorem alike_py : ∀ a b : D, nod a = true → nod b = true → PySem.W.alike (toPy a) (toPy b) = alk a b
  | .non, b, _, hb => by cases b <;> simp_all [toPy, PySem.W.alike, alk, nod]
  | .bl _, b, _, hb => by cases b <;> simp_all [toPy, PySem.W.alike, alk, nod]
  | .int _, b, _, hb => by cases b <;> simp_all [toPy, PySem.W.alike, alk, nod]
  | .str x, b, _, hb => by cases b <;> simp_all [toPy, PySem.W.alike, alk, nod]
  | .tup xs, b, ha, hb => by
    cases b with
    | tup ys => simp only [toPy, PySem.W.alike, alk]; exact alikeL_py xs ys (by simpa [nod] using ha) (by simpa [nod] using hb)
    | _ => simp_all [toPy, PySem.W.alike, alk, nod]
  | .lst xs, b, ha, hb => by
    cases b with
    | lst ys => simp only [toPy, PySem.W.alike, alk]; exact alikeL_py xs ys (by simpa [nod] using ha) (by simpa [nod] using hb)
    | _ => simp_all [toPy, PySem.W.alike, alk, nod]
  | .dct _, _, h, _ => by simp [nod] at h
theorem alikeL_py : ∀ a b : List D, nodL a = true → nodL b = true → PySem.W.alikeAll (toPyL a) (toPyL b) = alkL a b
  | [], b, _, _ => by cases b <;> simp only [toPyL, PySem.W.alikeAll, alkL]
  | x :: xs, [], _, _ => by simp only [toPyL, PySem.W.alikeAll, alkL]
  | x :: xs, y :: ys, h, hb => by
    simp only [nodL, Bool.and_eq_true] at h hb
    simp only [toPyL, PySem.W.alikeAll, alkL, alike_py x y h.1 hb.1, alikeL_py xs ys h.2 hb.2]
end
theorem lex_py : ∀ a b : List (Int ⊕ List Nat), PyProof.Rows.lexLt PyProof.Rows.itemOrd a b = tokLt a b
  | [], [] => rfl
  | [], _ :: _ => rfl
  | _ :: _, [] => rfl
  | x :: r, y :: t => by
    have h1 : ∀ x y : Int ⊕ List Nat, PyProof.Rows.itemLt x y = tokLt1 x y := fun x y => by cases x <;> cases y <;> rfl
    show (PyProof.Rows.itemLt x y || (!PyProof.Rows.itemLt y x && PyProof.Rows.lexLt PyProof.Rows.itemOrd r t)) = _
    rw [h1, h1, lex_py r t]
    rfl
theorem dataLe_py : dataLe false toPy = dLe := by
  funext a b
  show (!PyProof.Rows.lexLt PyProof.Rows.itemOrd (keyToks (toPy b)) (keyToks (toPy a))) = !tokLt (tok b) (tok a)
  rw [keyToks_py, keyToks_py, lex_py]
theorem nod_mem : ∀ {ds : List D}, nodL ds = true → ∀ d ∈ ds, nod d = true
  | x :: xs, h, d, hd => by
    simp only [nodL, Bool.and_eq_true] at h
    rcases List.mem_cons.mp hd with z | z
    · rw [z]; exact h.1
    · exact nod_mem h.2 d z
theorem srt_alike {ds : List D} (hn : nodL ds = true) (h : ds.all (fun a => ds.all fun b => alk a b) = true) : AllAlike (ds.map toPy) := by
  intro x hx y hy
  obtain ⟨a, ha, rfl⟩ := List.mem_map.mp hx
  obtain ⟨b, hb, rfl⟩ := List.mem_map.mp hy
  rw [alike_py a b (nod_mem hn a ha) (nod_mem hn b hb)]
  exact List.all_eq_true.mp (List.all_eq_true.mp h a ha) b hb
theorem srt_kind {ds : List D} (hn : nodL ds = true) (h : (ds.all tup1 || ds.all untup) = true) : Sortable (ds.map toPy) := by
  rcases Bool.or_eq_true _ _ |>.mp h with h | h
  · refine .inl fun x hx => ?_
    obtain ⟨a, ha, rfl⟩ := List.mem_map.mp hx
    have := List.all_eq_true.mp h a ha
    cases a with
    | tup xs =>
      cases xs with
      | nil => cases this
      | cons y ys => exact ⟨toPy y, toPyL ys, by simp only [toPy, toPyL]⟩
    | _ => cases this
  · refine .inr fun x hx => ?_
    obtain ⟨a, ha, rfl⟩ := List.mem_map.mp hx
    have := List.all_eq_true.mp h a ha
    have nn := nod_mem hn a ha
    cases a with
    | tup _ => cases this
    | non => cases this
    | dct _ => simp [nod] at nn
    | _ => exact ⟨by simp [toPy], by simp [toPy]⟩
def rV (K : Kx) (H : Hp) (v : Value) (d : D) : Prop := ∃ x, RelV x v ∧ Im K H d x
theorem each_of {K : Kx} {H : Hp} : ∀ {ds : List D} {vs : List V} {us : List Value}, ImL K H ds vs → Vals vs us → EachIs (rV K H) us ds
  | [], vs, us, h, r => by
    simp only [ImL] at h
    subst h
    cases r
    exact .nil
  | d :: ds, vs, us, h, r => by
    simp only [ImL] at h
    obtain ⟨v, vr, rfl, h1, h2⟩ := h
    cases r with
    | cons r1 r2 => exact .cons ⟨v, r1, h1⟩ (each_of h2 r2)
theorem of_each {K : Kx} {H : Hp} : ∀ {ds : List D} {us : List Value}, EachIs (rV K H) us ds → ∃ vs, ImL K H ds vs ∧ Vals vs us
  | [], us, h => by cases h; exact ⟨[], ImL.nil, .nil⟩
  | d :: ds, us, h => by
    cases h with
    | cons h1 h2 =>
      obtain ⟨x, r, i⟩ := h1
      obtain ⟨vs, i2, r2⟩ := of_each h2
      exact ⟨x :: vs, ImL.cons i i2, .cons r r2⟩
theorem sortL_ok {ds l : List D} (h : sortL ds = some l) : ds.all (fun a => ds.all fun b => alk a b) = true ∧ (ds.all tup1 || ds.all untup) = true ∧ (∀ d ∈ ds, dep d ≤ room) ∧ ds.length ≤ big ∧ l = ds.mergeSort dLe := by
  unfold sortL at h
  obtain ⟨h1, rfl⟩ := iff_some h
  unfold sortable at h1
  simp only [Bool.and_eq_true, decide_eq_true_eq] at h1
  obtain ⟨⟨⟨q1, q2⟩, q3⟩, q4⟩ := h1
  exact ⟨q1, q2, fun d hd => by simpa using List.all_eq_true.mp q3 d hd, q4, rfl⟩
section
variable {X : Cx}
def rSrtI (K : Kx) : List V → Hp → VK → Prop := fun xs H Q => ∃ p vs ds l, xs = [.ref p] ∧ SqL K.fr H p vs ∧ ImL K H ds vs ∧ sortL ds = some l ∧ ∀ q ws, H q = none → ImL K H l ws → Q (.ref q) (upd H q (.lst ws))
theorem cr_srtI (hr : Room 0 X.A) : CallR X (.builtin "sorted") (rSrtI (kxOf X)) := by
  intro pins s σ H xs us Q I r h
  obtain ⟨p, vs, ds, l, rfl, hs, im, hl, q⟩ := h
  obtain ⟨u, rfl, ru⟩ := vals1 r
  cases ru
  obtain ⟨its, rv, pl, hz⟩ := I.list hs
  obtain ⟨q1, q2, q3, q4, rfl⟩ := sortL_ok hl
  have nn : nodL ds = true := by
    have : ∀ {l : List D}, (∀ d ∈ l, dep d ≤ VD.room) → nodL l = true := by
      intro l
      induction l with
      | nil => intro _; rfl
      | cons x xs ih => intro h; simp only [nodL, nod_dep x (h x List.mem_cons_self), ih fun d hd => h d (List.mem_cons_of_mem _ hd), Bool.and_self]
    exact this q3
  refine PySem.W.sorted_data (bs := ds) (enc := toPy) (R := rV (kxOf X) H) pl.isList (each_of im rv) ((PySem.W.each_mem (each_of im rv)).mono fun v d ⟨⟨x, rx, ix⟩, hd⟩ => reads_im I ix rx (nod_mem nn d hd)) (srt_alike nn q1) (srt_kind nn q2) (by rw [← big_eq]; exact q4) (fun b hb => ?_) fun out ho eo => ?_
  · rw [toPy_dep b (nod_mem nn b hb)]
    exact room_ok hr (q3 b hb)
  · rw [dataLe_py] at eo
    obtain ⟨ws, iw, rw'⟩ := of_each eo
    obtain ⟨e, he⟩ := PyProof.Rows.sortedAll_at s.heap its out.toArray
    have hn : H (s.heap.objs.size + 1) = none := I.hok.fresh (Nat.le_succ _)
    refine ⟨.ref (s.heap.objs.size + 1), upd H (s.heap.objs.size + 1) (.lst ws), ?_, rfl, q _ ws hn iw⟩
    exact I.laid (t' := s.toks) (fun b o e => PyProof.Rows.sortedAll_old e) (Nat.le_succ _) ⟨by rw [← iw.length, List.length_mergeSort, ← big_eq]; exact q4, out, e, rw', he⟩
variable {G : Gx} {pos : Pos} {a b ex : Expr} {fa fb : FE} {fm : FM} {f : FGn} {k : Nat}
theorem boot_sorted : bootBuiltins "sorted" = some (.builtin "sorted") := by decide +kernel
theorem PA.one {t : TE} {t' : TA} (h : PE X a t) (he : starEach [a] X.env = (false, eval a X.env) :: starEach [] X.env) (k : ∀ σ H Q, t' σ H Q → t σ H fun v H1 => Q [v] H1) : PA X [a] t' :=
  PA.le (pa_cons h pa_nil he) fun σ H Q hq => k σ H Q hq
/-- sorted(x), x a new or a frozen list -/
theorem m_srt {p : Pos} (hr : Room 0 X.A) (h : PE X a (tM G fm)) (hK : kxOf X = G.K) (hg : Gl X "sorted") (hm : X.mg "sorted" = none) (he : starEach [a] X.env = (false, eval a X.env) :: starEach [] X.env := by rfl) (hpl : (backTo pos (starEach [] X.env)).any (·.1) = false := by rfl) :
    PE X (.Call (.Name "sorted" p) [a] [] pos) (tM G (srtFM fm)) := by
  refine PE.le (pe_callB (cr_srtI hr) hg hm boot_sorted (pa_cons h pa_nil he) (he := he) (hpl := hpl)) fun σ H Q ⟨B, e, m, e', s, h, kq⟩ => ?_
  obtain ⟨⟨m1, e1⟩, h1, hA⟩ := bnd h
  obtain ⟨ds, h2, hB⟩ := bnd hA
  obtain ⟨l, h3, hC⟩ := mpd hB
  cases hC
  refine ⟨B, e, m1, e1, s, h1, fun v H1 s1 x1 => ?_⟩
  have fin : ∀ {p vs}, v = .ref p → SqL X.K H1 p vs → ImL (kxOf X) H1 ds vs → rSrtI (kxOf X) [v] H1 Q := fun {p vs} e1 e2 e3 => ⟨p, vs, ds, l, by rw [e1], e2, e3, h3, fun q ws hn iw => kq _ _ (s1.pop.new hn (by rw [← hK]; exact iw)) (x1.trans (Ext.new hn))⟩
  have h2 : lstItems m1 = some ds := h2
  rw [hK] at fin
  cases m1 with
  | lst xs =>
    cases h2
    obtain ⟨p, vs, rfl, g1, g2, _⟩ := s1.lstAt
    show rSrtI (kxOf X) _ _ _
    rw [hK]
    exact fin rfl (SqL.of g1) g2
  | imm d =>
    cases d with
    | lst xs =>
      cases h2
      obtain ⟨p, vs, rfl, g1, g2⟩ := s1.imm.lst_
      show rSrtI (kxOf X) _ _ _
      rw [hK]
      exact fin rfl (by rw [frK hK]; exact g1.sq) g2
    | _ => cases h2
  | _ => cases h2
end
end VL
end

section
/-! VD2: dicts, more built-ins. -/
set_option linter.all false
namespace VD
mutual
/-- what a tuple that is a key may hold -/
def hsh : D → Bool
  | .non => true | .bl _ => true | .int _ => true | .str _ => true
  | .tup xs => hshL xs
  | _ => false
def hshL : List D → Bool
  | [] => true
  | x :: xs => hsh x && hshL xs
end
def tupK : D → Bool
  | .tup xs => hshL xs && decide (depL xs + 1 ≤ 8)
  | _ => false
def fltK : D → Bool
  | .int _ => true | .str _ => true
  | _ => false
def keyOk (kvs : List (D × D)) (k : D) : Bool := (fltK k && kvs.all fun p => fltK p.1) || (tupK k && kvs.all fun p => tupK p.1)
def getK (kvs : List (D × D)) (k : D) : Option D := (kvs.find? fun p => peq p.1 k).map (·.2)
def putD (kvs : List (D × D)) (k d : D) : List (D × D) := if (kvs.any fun p => peq p.1 k) = true then kvs.map (fun p => if peq p.1 k = true then (p.1, d) else p) else kvs ++ [(k, d)]
/-- the dict of a slot -/
def dctM : M → Option (List (D × D))
  | .dct kvs => some kvs
  | .imm (.dct kvs) => some kvs
  | _ => none
def keyM (m : M) (k : D) : Option (List (D × D)) := (dctM m).bind fun kvs => if keyOk kvs k = true then some kvs else none
/-- x in slot, x not in slot: a dict -/
def inDS (a : FE) (i : Nat) : FT := fun e => (a e).bind fun p => (slot p.2 i).bind fun m => (keyM m p.1).map fun kvs => (kvs.any fun q => peq q.1 p.1, p.2)
def notInDS (a : FE) (i : Nat) : FT := fun e => (a e).bind fun p => (slot p.2 i).bind fun m => (keyM m p.1).map fun kvs => (!kvs.any fun q => peq q.1 p.1, p.2)
/-- slot[x], slot.get(x) -/
def itemS (i : Nat) (a : FE) : FE := fun e => (slot e i).bind fun _ => (a e).bind fun p => (slot p.2 i).bind fun m => (keyM m p.1).bind fun kvs => (getK kvs p.1).map fun d => (d, p.2)
def getDS (i : Nat) (a : FE) : FE := fun e => (slot e i).bind fun m0 => (dctM m0).bind fun _ => (a e).bind fun p => (slot p.2 i).bind fun m => (keyM m p.1).map fun kvs => ((getK kvs p.1).getD .non, p.2)
/-- slot[k] = x -/
def putKS (i : Nat) (k : FE) (a : FE) : FS := fun e => (a e).bind fun p => (slot p.2 i).bind fun _ => (k p.2).bind fun q => match slot q.2 i with
  | some (.dct kvs) => if keyOk kvs q.1 = true ∧ kvs.length < big then some (.nx, q.2.set i (some (.dct (putD kvs q.1 p.1)))) else none
  | _ => none
/-- {k: v, ..} -/
def dnewM : FM := fun e => some (.dct [], e)
abbrev FP := En → Option (List (D × D) × En)
def nilP : FP := fun e => some ([], e)
def consP (k v : FE) (r : FP) : FP := fun e => (k e).bind fun p => (v p.2).bind fun q => (r q.2).bind fun z => some ((p.1, q.1) :: z.1, z.2)
def putAll (kvs : List (D × D)) : List (D × D) → Option (List (D × D))
  | [] => some kvs
  | p :: r => if keyOk kvs p.1 = true ∧ kvs.length < big then putAll (putD kvs p.1 p.2) r else none
def dctPM (f : FP) : FM := fun e => (f e).bind fun p => (putAll [] p.1).map fun kvs => (.dct kvs, p.2)
/-- the items of a list or a tuple, new or frozen -/
def seqItems : M → Option (List D)
  | .lst xs => some xs
  | .imm (.lst xs) => some xs
  | .imm (.tup xs) => some xs
  | _ => none
def tupFM (f : FM) : FE := fun e => (f e).bind fun p => (seqItems p.1).map fun ds => (.tup ds, p.2)
def tupSS (i : Nat) : FE := fun e => (slot e i).bind fun m => (seqItems m).map fun ds => (.tup ds, e)
def lstFM (f : FM) : FM := fun e => (f e).bind fun p => (seqItems p.1).map fun ds => (.lst ds, p.2)
def lstSS (i : Nat) : FM := fun e => (slot e i).bind fun m => (seqItems m).map fun ds => (.lst ds, e)
def lenOfM (f : FM) : FE := fun e => (f e).bind fun p => (seqItems p.1).map fun ds => (.int ds.length, p.2)
def srtSS (i : Nat) : FM := fun e => (slot e i).bind fun m => (lstItems m).bind fun ds => (sortL ds).map fun l => (.lst l, e)
/-- x in slot: a list or a tuple -/
def inSS (a : FE) (i : Nat) : FT := fun e => (a e).bind fun p => (slot p.2 i).bind fun m => (seqItems m).bind fun xs => if dep p.1 ≤ room ∧ depL xs ≤ room then some (xs.any fun y => peq y p.1, p.2) else none
def notInSS (a : FE) (i : Nat) : FT := fun e => (a e).bind fun p => (slot p.2 i).bind fun m => (seqItems m).bind fun xs => if dep p.1 ≤ room ∧ depL xs ≤ room then some (!xs.any fun y => peq y p.1, p.2) else none
end VD
end

section
set_option Elab.async false
set_option linter.all false
set_option maxRecDepth 100000
/-! VLt: dicts. -/
namespace VL
open PySem PySem.Spec L2 VD
open PyProof.Rows (AllBare IsTup)
mutual
theorem nk_peq : ∀ a b : D, hsh a = true → hsh b = true → (nk a = nk b ↔ peq a b = true)
  | .non, b, _, hb => by cases b <;> simp_all [nk, peq, hsh]
  | .bl x, b, _, hb => by cases b <;> cases x <;> simp_all [nk, peq, hsh]
  | .int _, b, _, hb => by cases b <;> simp_all [nk, peq, hsh]
  | .str x, b, _, hb => by
    cases b with
    | str y => simp only [nk, peq, NestedKey.text.injEq, decide_eq_true_eq]; exact ⟨st_inj, fun h => by rw [h]⟩
    | _ => simp_all [nk, peq, hsh]
  | .tup xs, b, ha, hb => by
    cases b with
    | tup ys => simp only [nk, peq, NestedKey.tup.injEq]; exact nkL_peq xs ys (by simpa [hsh] using ha) (by simpa [hsh] using hb)
    | _ => simp_all [nk, peq, hsh]
  | .lst _, _, h, _ => by simp [hsh] at h
  | .dct _, _, h, _ => by simp [hsh] at h
theorem nkL_peq : ∀ a b : List D, hshL a = true → hshL b = true → (nkL a = nkL b ↔ peqL a b = true)
  | [], b, _, _ => by cases b <;> simp [nkL, peqL]
  | x :: xs, [], _, _ => by simp [nkL, peqL]
  | x :: xs, y :: ys, h, hb => by
    simp only [hshL, Bool.and_eq_true] at h hb
    simp only [nkL, peqL, List.cons.injEq, Bool.and_eq_true, nk_peq x y h.1 hb.1, nkL_peq xs ys h.2 hb.2]
end
theorem nk_dec (a b : D) (ha : hsh a = true) (hb : hsh b = true) : decide (nk a = nk b) = peq a b := by
  rw [Bool.eq_iff_iff, decide_eq_true_iff]
  exact nk_peq a b ha hb
theorem tupK_hsh {d : D} (h : tupK d = true) : hsh d = true ∧ ∃ ds, d = .tup ds := by
  cases d with
  | tup xs => simp only [tupK, Bool.and_eq_true] at h; exact ⟨by simpa [hsh] using h.1, xs, rfl⟩
  | _ => simp [tupK] at h
mutual
theorem nk_depth : ∀ d : D, hsh d = true → (nk d).depth = dep d
  | .non, _ => by simp only [nk, NestedKey.depth, dep]
  | .bl _, _ => by simp only [nk, NestedKey.depth, dep]
  | .int _, _ => by simp only [nk, NestedKey.depth, dep]
  | .str _, _ => by simp only [nk, NestedKey.depth, dep]
  | .tup xs, h => by simp only [nk, NestedKey.depth, dep, nkL_depth xs (by simpa [hsh] using h)]
  | .lst _, h => by simp [hsh] at h
  | .dct _, h => by simp [hsh] at h
theorem nkL_depth : ∀ xs : List D, hshL xs = true → NestedKey.depthAll (nkL xs) = depL xs
  | [], _ => by simp only [nkL, NestedKey.depthAll, depL]
  | x :: xs, h => by
    simp only [hshL, Bool.and_eq_true] at h
    simp only [nkL, NestedKey.depthAll, depL, nk_depth x h.1, nkL_depth xs h.2]
end
theorem tupK_depth {d : D} (h : tupK d = true) : (nk d).depth ≤ 8 := by
  have h1 := tupK_hsh h
  rw [nk_depth d h1.1]
  obtain ⟨_, ds, rfl⟩ := h1
  simp only [tupK, Bool.and_eq_true, decide_eq_true_eq] at h
  simp only [dep]
  exact h.2
section
variable {X : Cx} {pins : List (Addr × Obj)} {σ : L2.St} {H : Hp} {s : Shared}
mutual
theorem nested_im (I : Inv X pins σ H s) : ∀ {d : D} {v : V} {u : Value}, Im (kxOf X) H d v → RelV v u → hsh d = true → NestedIs s.heap (nk d) u
  | .non, v, u, h, r, _ => by cases h.non_; cases r; simp only [nk]; exact .none
  | .bl b, v, u, h, r, _ => by cases h.bl_; cases r; simp only [nk]; exact .bool rfl
  | .int i, v, u, h, r, _ => by cases h.int_; obtain ⟨t, rfl⟩ := r; simp only [nk]; exact .int i t
  | .str x, v, u, h, r, _ => by cases h.str_; obtain ⟨t, rfl⟩ := r; simp only [nk]; exact .text _ t
  | .tup ds, v, u, h, r, hh => by
    obtain ⟨a, vs, rfl, h1, h2⟩ := h.tup_
    cases r
    obtain ⟨its, rv, p, hz⟩ := I.tuple (SqT.of h1)
    obtain ⟨o, ho, hc, n, hd⟩ := p
    simp only [nk]
    exact .tup ho hc hd (by simpa using nestedAll_im I h2 rv (by simpa [hsh] using hh))
  | .lst _, _, _, _, _, h => by simp [hsh] at h
  | .dct _, _, _, _, _, h => by simp [hsh] at h
theorem nestedAll_im (I : Inv X pins σ H s) : ∀ {ds : List D} {vs : List V} {us : List Value}, ImL (kxOf X) H ds vs → Vals vs us → hshL ds = true → NestedAll s.heap (nkL ds) us
  | [], vs, us, h, r, _ => by
    simp only [ImL] at h
    subst h
    cases r
    simp only [nkL]
    exact .nil
  | d :: ds, vs, us, h, r, hh => by
    simp only [ImL] at h
    obtain ⟨v, vr, rfl, h1, h2⟩ := h
    simp only [hshL, Bool.and_eq_true] at hh
    cases r with
    | cons r1 r2 => simp only [nkL]; exact .cons (nested_im I h1 r1 hh.1) (nestedAll_im I h2 r2 hh.2)
end
theorem key_nested (I : Inv X pins σ H s) {d : D} {b : Addr} (i : Im (kxOf X) H d (.ref b)) (h : tupK d = true) : (nestedKind X.prog X.w).is s.heap (nk d) b := ⟨nested_im I i rfl (tupK_hsh h).1, tupK_depth h⟩
theorem im_tupK {K : Kx} {d : D} {v : V} (i : Im K H d v) (h : tupK d = true) : ∃ b, v = .ref b := by
  obtain ⟨_, ds, rfl⟩ := tupK_hsh h
  obtain ⟨a, vs, rfl, _⟩ := i.tup_
  exact ⟨a, rfl⟩

/-! ### flat keys -/
theorem flatK_of {d : D} (h : fltK d = true) : ∃ k, flatK d = some k := by
  cases d <;> simp_all [fltK, flatK]
theorem flatK_peq {a b : D} {j k : Key} (ha : flatK a = some j) (hb : flatK b = some k) : peq a b = decide (j = k) := by
  cases a with
  | int i =>
    cases ha
    cases b with
    | int j => cases hb; simp only [peq]; rw [key_ll]
    | str j => cases hb; simp only [peq]; rw [key_lr]
    | _ => cases hb
  | str i =>
    cases ha
    cases b with
    | int j => cases hb; simp only [peq]; rw [key_rl]
    | str j =>
      cases hb
      simp only [peq]
      rw [key_rr, Bool.eq_iff_iff, decide_eq_true_iff, decide_eq_true_iff]
      exact ⟨fun h => by rw [h], st_inj⟩
    | _ => cases hb
  | _ => cases ha
theorem flatK_im {K : Kx} {d : D} {v : V} {k : Key} (i : Im K H d v) (h : flatK d = some k) : v = kV k := by
  cases d with
  | int i' => cases h; exact i.int_
  | str z => cases h; exact i.str_
  | _ => cases h
/-- a dict by flat keys -/
structure VA (X : Cx) (H : Hp) (h : Heap) (a : Addr) (kvs : List (D × D)) (l : List (Key × V)) (vs : List (Key × Value)) : Prop where
  sys : (a == sysModules) = false
  len : l.length ≤ sizeLine
  rel : KV l vs
  dct : h.DictOf (mixKind X.prog X.w) a vs
  keys : kvs.map (fun p => flatK p.1) = l.map fun p => some p.1
  im : ImK (kxOf X) H kvs (l.map fun p => (kV p.1, p.2))
theorem viewA {a : Addr} {u : HO} {kvs : List (D × D)} {ks : List (V × V)} (I : Inv X pins σ H s) (e : Rd H a u) (sh : Sh (kxOf X) a kvs u ks) (im : ImK (kxOf X) H kvs ks) (hf : kvs.all (fun p => fltK p.1) = true) : ∃ l vs, VA X H s.heap a kvs l vs := by
  cases sh with
  | flat l hk =>
    obtain ⟨z, hd, vs, rel, dd⟩ := dk_rd I.hok e
    exact ⟨l, vs, hd, z, rel, dd, hk, im⟩
  | tups xs ks h h2 r =>
    have k0 : kvs = [] := by
      cases kvs with
      | nil => rfl
      | cons p q =>
        obtain ⟨ds, e1⟩ := h2 p List.mem_cons_self
        simp only [List.all_cons, Bool.and_eq_true, e1] at hf
        exact absurd hf.1 (by simp [fltK])
    subst k0
    have x0 : xs = [] := by simpa using h
    subst x0
    obtain ⟨⟨z, hd, o, es, ep, ho, hx, hdat, hes, hnd⟩, _⟩ := (show ObjOk X.prog X.w H s.heap a (dtO X.prog X.w a []) from e.ok I.hok)
    have es0 : es = #[] := by
      apply Array.toList_inj.mp
      simpa using hes
    subst es0
    exact ⟨[], [], hd, Nat.zero_le _, .nil, ⟨o, #[], ep, ho, hx, hdat, fun e he => by simp at he, .nil, List.nodup_nil⟩, rfl, by simp only [ImK, List.map_nil]⟩
theorem VA.get {K : Kx} {k : D} {kk : Key} (hk : flatK k = some kk) : ∀ {kvs : List (D × D)} {l : List (Key × V)}, kvs.map (fun p => flatK p.1) = l.map (fun p => some p.1) → ImK K H kvs (l.map fun p => (kV p.1, p.2)) →
    (getK kvs k = none → valV l kk = none) ∧ (∀ d, getK kvs k = some d → ∃ v, valV l kk = some v ∧ Im K H d v) ∧ (kvs.any fun p => peq p.1 k) = (valV l kk).isSome
  | [], [], _, _ => ⟨fun _ => rfl, fun d h => by simp [getK] at h, rfl⟩
  | [], _ :: _, h, _ => by simp at h
  | _ :: _, [], h, _ => by simp at h
  | (kd, d) :: r, (kv, v) :: t, h, im => by
    simp only [List.map_cons, List.cons.injEq] at h
    simp only [List.map_cons, ImK, List.cons.injEq, Prod.mk.injEq] at im
    obtain ⟨u', v', vr, ⟨⟨e1, e2⟩, e3⟩, i1, i2, i3⟩ := im
    subst e1 e2 e3
    obtain ⟨g1, g2, g3⟩ := VA.get hk h.2 i3
    have pe := flatK_peq h.1 hk
    by_cases e : kv = kk
    · rw [decide_eq_true e] at pe
      refine ⟨fun hn => ?_, fun d' hd => ?_, ?_⟩
      · simp [getK, List.find?_cons, pe] at hn
      · simp [getK, List.find?_cons, pe] at hd
        subst hd
        exact ⟨v, valV_pos e, i2⟩
      · rw [List.any_cons, pe, valV_pos (p := (kv, v)) e]; rfl
    · rw [decide_eq_false e] at pe
      refine ⟨fun hn => ?_, fun d' hd => ?_, ?_⟩
      · rw [valV_neg (p := (kv, v)) e]
        exact g1 (by simpa [getK, List.find?_cons, pe] using hn)
      · rw [valV_neg (p := (kv, v)) e]
        exact g2 d' (by simpa [getK, List.find?_cons, pe] using hd)
      · rw [List.any_cons, pe, valV_neg (p := (kv, v)) e, Bool.false_or, g3]
theorem VA.put {K : Kx} {k d : D} {kk : Key} {v : V} (hk : flatK k = some kk) (id : Im K H d v) (ik : Im K H k (kV kk)) {kvs : List (D × D)} {l : List (Key × V)} (h : kvs.map (fun p => flatK p.1) = l.map (fun p => some p.1)) (im : ImK K H kvs (l.map fun p => (kV p.1, p.2))) :
    (putD kvs k d).map (fun p => flatK p.1) = (putK l kk v).map (fun p => some p.1) ∧ ImK K H (putD kvs k d) ((putK l kk v).map fun p => (kV p.1, p.2)) := by
  have any_eq : (kvs.any fun p => peq p.1 k) = l.any fun kv => decide (kv.1 = kk) := by
    rw [(VA.get hk h im).2.2, valV_any]
  unfold putD putK
  rw [any_eq]
  split
  · have go : ∀ {kvs : List (D × D)} {l : List (Key × V)}, kvs.map (fun p => flatK p.1) = l.map (fun p => some p.1) → ImK K H kvs (l.map fun p => (kV p.1, p.2)) →
        (kvs.map (fun p => if peq p.1 k = true then (p.1, d) else p)).map (fun p => flatK p.1) = (l.map (fun kv => if kv.1 = kk then (kv.1, v) else kv)).map (fun p => some p.1) ∧ ImK K H (kvs.map (fun p => if peq p.1 k = true then (p.1, d) else p)) ((l.map (fun kv => if kv.1 = kk then (kv.1, v) else kv)).map fun p => (kV p.1, p.2)) := by
      intro kvs
      induction kvs with
      | nil => intro l h im; cases l with
        | nil => exact ⟨rfl, im⟩
        | cons _ _ => simp at h
      | cons p r ih =>
        intro l h im
        cases l with
        | nil => simp at h
        | cons q t =>
          obtain ⟨kd, dd⟩ := p
          obtain ⟨kv, vv⟩ := q
          simp only [List.map_cons, List.cons.injEq] at h
          simp only [List.map_cons, ImK, List.cons.injEq, Prod.mk.injEq] at im
          obtain ⟨u', v', vr, ⟨⟨e1, e2⟩, e3⟩, i1, i2, i3⟩ := im
          subst e1 e2 e3
          obtain ⟨j1, j2⟩ := ih h.2 i3
          have pe := flatK_peq h.1 hk
          by_cases e : kv = kk
          · rw [decide_eq_true e] at pe
            simp only [List.map_cons, pe, if_true, if_pos e, ImK, List.cons.injEq]
            exact ⟨⟨h.1, j1⟩, _, _, _, ⟨rfl, rfl⟩, i1, id, j2⟩
          · rw [decide_eq_false e] at pe
            simp only [List.map_cons, pe, Bool.false_eq_true, if_false, if_neg e, ImK, List.cons.injEq]
            exact ⟨⟨h.1, j1⟩, _, _, _, ⟨rfl, rfl⟩, i1, i2, j2⟩
    exact go h im
  · have app : ∀ {kvs : List (D × D)} {ks : List (V × V)}, ImK K H kvs ks → ImK K H (kvs ++ [(k, d)]) (ks ++ [(kV kk, v)]) := by
      intro kvs
      induction kvs with
      | nil => intro ks h; simp only [ImK] at h; subst h; simp only [List.nil_append, ImK]; exact ⟨_, _, [], rfl, ik, id, rfl⟩
      | cons p r ih =>
        intro ks h
        obtain ⟨kd, dd⟩ := p
        simp only [ImK] at h
        obtain ⟨u', v', vr, rfl, i1, i2, i3⟩ := h
        simp only [List.cons_append, ImK, List.cons.injEq]
        exact ⟨_, _, _, ⟨rfl, rfl⟩, i1, i2, ih i3⟩
    exact ⟨by simp [h, hk], by simpa using app im⟩
end
end VL
end

section
set_option Elab.async false
set_option linter.all false
set_option maxRecDepth 100000
/-! VLu: dicts: tuple keys, the operations. -/
namespace VL
open PySem PySem.Spec L2 VD
open PyProof.Rows (AllBare IsTup)
section
variable {X : Cx} {pins : List (Addr × Obj)} {σ : L2.St} {H : Hp} {s : Shared}
abbrev PrB (q : V × V) (x : NestedKey × Addr × Value) : Prop := q.1 = .ref x.2.1 ∧ RelV q.2 x.2.2
structure VB (X : Cx) (H : Hp) (h : Heap) (a : Addr) (kvs : List (D × D)) (xs : List (NestedKey × Addr × Value)) (ks : List (V × V)) : Prop where
  sys : (a == sysModules) = false
  len : xs.length ≤ sizeLine
  dct : h.DictOfH (nestedKind X.prog X.w) a xs
  keys : xs.map (·.1) = kvs.map fun p => nk p.1
  rel : Paired PrB ks xs
  im : ImK (kxOf X) H kvs ks
theorem is_all (I : Inv X pins σ H s) : ∀ {kvs : List (D × D)} {xs : List (NestedKey × Addr × Value)} {ks : List (V × V)}, xs.map (·.1) = kvs.map (fun p => nk p.1) → Paired PrB ks xs → ImK (kxOf X) H kvs ks → kvs.all (fun p => tupK p.1) = true → ∀ x ∈ xs, (nestedKind X.prog X.w).is s.heap x.1 x.2.1
  | [], xs, ks, h, r, im, _, x, hx => by
    have : xs = [] := by simpa using h
    subst this
    simp at hx
  | (k, d) :: kvs, xs, ks, h, r, im, ht, x, hx => by
    simp only [ImK] at im
    obtain ⟨u, v, vr, rfl, i1, i2, i3⟩ := im
    cases r with
    | @cons q y qs ys hq t =>
      simp only [List.map_cons, List.cons.injEq] at h
      simp only [List.all_cons, Bool.and_eq_true] at ht
      rcases List.mem_cons.mp hx with e | hx
      · subst e
        rw [h.1]
        have e1 : u = .ref x.2.1 := hq.1
        subst e1
        exact key_nested I i1 ht.1
      · exact is_all I h.2 t i3 ht.2 x hx
theorem viewB {a : Addr} {u : HO} {kvs : List (D × D)} {ks : List (V × V)} (I : Inv X pins σ H s) (e : Rd H a u) (sh : Sh (kxOf X) a kvs u ks) (im : ImK (kxOf X) H kvs ks) (hf : kvs.all (fun p => tupK p.1) = true) : ∃ xs ks', VB X H s.heap a kvs xs ks' := by
  cases sh with
  | flat l hk =>
    have k0 : kvs = [] := by
      cases kvs with
      | nil => rfl
      | cons p q =>
        cases l with
        | nil => simp at hk
        | cons r t =>
          simp only [List.map_cons, List.cons.injEq] at hk
          simp only [List.all_cons, Bool.and_eq_true] at hf
          obtain ⟨_, ds, e1⟩ := tupK_hsh hf.1
          rw [e1] at hk
          exact absurd hk.1 (by simp [flatK])
    subst k0
    have l0 : l = [] := by simpa using hk.symm
    subst l0
    obtain ⟨z, hd, vs, rel, o, es, ep, ho, hx, hdat, hk, hp, hn⟩ := dk_rd I.hok e
    cases rel
    have es0 : es = #[] := by
      apply Array.toList_inj.mp
      generalize es.toList = el at hp
      cases hp
      rfl
    subst es0
    exact ⟨[], [], hd, Nat.zero_le _, ⟨o, #[], ep, ho, hx, hdat, rfl, fun x hx => by simp at hx, List.nodup_nil⟩, rfl, .nil, by simpa using im⟩
  | tups xs ks h h2 r =>
    obtain ⟨⟨z, hd, o, es, ep, ho, hx, hdat, hes, hnd⟩, _⟩ := (show ObjOk X.prog X.w H s.heap a (dtO X.prog X.w a xs) from e.ok I.hok)
    exact ⟨xs, ks, hd, z, ⟨o, es, ep, ho, hx, hdat, hes, is_all I h r im hf, hnd⟩, h, r, im⟩
theorem VB.get {K : Kx} {k : D} (hk : tupK k = true) : ∀ {kvs : List (D × D)} {xs : List (NestedKey × Addr × Value)} {ks : List (V × V)}, kvs.all (fun p => tupK p.1) = true → xs.map (·.1) = kvs.map (fun p => nk p.1) → Paired PrB ks xs → ImK K H kvs ks →
    (getK kvs k = none → atKey xs (nk k) = none) ∧ (∀ d, getK kvs k = some d → ∃ p v, atKey xs (nk k) = some p ∧ RelV v p.2 ∧ Im K H d v) ∧ (kvs.any fun p => peq p.1 k) = (atKey xs (nk k)).isSome
  | [], xs, ks, _, h, r, im => by
    have : xs = [] := by simpa using h
    subst this
    exact ⟨fun _ => rfl, fun d h => by simp [getK] at h, rfl⟩
  | (kd, d) :: kvs, xs, ks, ht, h, r, im => by
    simp only [ImK] at im
    obtain ⟨u, v, vr, rfl, i1, i2, i3⟩ := im
    cases r with
    | @cons q y qs ys hq t =>
      simp only [List.map_cons, List.cons.injEq] at h
      simp only [List.all_cons, Bool.and_eq_true] at ht
      obtain ⟨g1, g2, g3⟩ := VB.get hk ht.2 h.2 t i3
      have pe := nk_dec kd k (tupK_hsh ht.1).1 (tupK_hsh hk).1
      have e1 : y.1 = nk kd := h.1
      have fy : decide (y.1 = nk k) = peq kd k := by rw [e1]; exact pe
      cases hp : peq kd k with
      | true =>
        rw [hp] at fy
        refine ⟨fun hn => ?_, fun d' hd => ?_, ?_⟩
        · simp [getK, List.find?_cons, hp] at hn
        · simp [getK, List.find?_cons, hp] at hd
          subst hd
          exact ⟨y.2, v, by simp only [atKey, List.find?_cons, fy]; rfl, hq.2, i2⟩
        · simp only [List.any_cons, hp, atKey, List.find?_cons, fy]; rfl
      | false =>
        rw [hp] at fy
        have ea : atKey (y :: ys) (nk k) = atKey ys (nk k) := by simp only [atKey, List.find?_cons, fy]
        refine ⟨fun hn => ?_, fun d' hd => ?_, ?_⟩
        · rw [ea]; exact g1 (by simpa [getK, List.find?_cons, hp] using hn)
        · rw [ea]; exact g2 d' (by simpa [getK, List.find?_cons, hp] using hd)
        · rw [ea, List.any_cons, hp, Bool.false_or]; exact g3
theorem VB.put {K : Kx} {k d : D} {b : Addr} {v : V} {vv : Value} (hk : tupK k = true) (id : Im K H d v) (rv : RelV v vv) (ik : Im K H k (.ref b)) {kvs : List (D × D)} {xs : List (NestedKey × Addr × Value)} {ks : List (V × V)} (ht : kvs.all (fun p => tupK p.1) = true) (h : xs.map (·.1) = kvs.map (fun p => nk p.1)) (r : Paired PrB ks xs) (im : ImK K H kvs ks) :
    ∃ ks', (storedH xs (nk k) b vv).map (·.1) = (putD kvs k d).map (fun p => nk p.1) ∧ Paired PrB ks' (storedH xs (nk k) b vv) ∧ ImK K H (putD kvs k d) ks' := by
  have any_eq := (VB.get hk ht h r im).2.2
  unfold putD storedH
  rw [any_eq]
  split
  · have go : ∀ {kvs : List (D × D)} {xs : List (NestedKey × Addr × Value)} {ks : List (V × V)}, kvs.all (fun p => tupK p.1) = true → xs.map (·.1) = kvs.map (fun p => nk p.1) → Paired PrB ks xs → ImK K H kvs ks →
        ∃ ks', (xs.map (putAt (nk k) vv)).map (·.1) = (kvs.map (fun p => if peq p.1 k = true then (p.1, d) else p)).map (fun p => nk p.1) ∧ Paired PrB ks' (xs.map (putAt (nk k) vv)) ∧ ImK K H (kvs.map (fun p => if peq p.1 k = true then (p.1, d) else p)) ks' := by
      intro kvs
      induction kvs with
      | nil =>
        intro xs ks _ h r im
        have : xs = [] := by simpa using h
        subst this
        cases r
        exact ⟨[], rfl, .nil, im⟩
      | cons p kvs ih =>
        intro xs ks ht h r im
        obtain ⟨kd, dd⟩ := p
        simp only [ImK] at im
        obtain ⟨u, v0, vr, rfl, i1, i2, i3⟩ := im
        cases r with
        | @cons q y qs ys hq t =>
          simp only [List.map_cons, List.cons.injEq] at h
          simp only [List.all_cons, Bool.and_eq_true] at ht
          obtain ⟨ks', j1, j2, j3⟩ := ih ht.2 h.2 t i3
          have pe := nk_dec kd k (tupK_hsh ht.1).1 (tupK_hsh hk).1
          have e1 : y.1 = nk kd := h.1
          cases hp : peq kd k with
          | true =>
            have ey : y.1 = nk k := by rw [e1]; rw [hp] at pe; exact of_decide_eq_true pe
            refine ⟨(u, v) :: ks', ?_, .cons ?_ j2, ?_⟩
            · simp only [List.map_cons, hp, if_true, List.cons.injEq]
              exact ⟨by rw [putAt, if_pos ey]; exact e1, j1⟩
            · rw [putAt, if_pos ey]; exact ⟨hq.1, rv⟩
            · simp only [List.map_cons, hp, if_true, ImK, List.cons.injEq]
              exact ⟨_, _, _, ⟨rfl, rfl⟩, i1, id, j3⟩
          | false =>
            have ey : ¬ y.1 = nk k := by rw [e1]; rw [hp] at pe; exact of_decide_eq_false pe
            refine ⟨(u, v0) :: ks', ?_, .cons ?_ j2, ?_⟩
            · simp only [List.map_cons, hp, Bool.false_eq_true, if_false, List.cons.injEq]
              exact ⟨by rw [putAt, if_neg ey]; exact e1, j1⟩
            · rw [putAt, if_neg ey]; exact hq
            · simp only [List.map_cons, hp, Bool.false_eq_true, if_false, ImK, List.cons.injEq]
              exact ⟨_, _, _, ⟨rfl, rfl⟩, i1, i2, j3⟩
    exact go ht h r im
  · have app : ∀ {kvs : List (D × D)} {ks : List (V × V)}, ImK K H kvs ks → ImK K H (kvs ++ [(k, d)]) (ks ++ [(.ref b, v)]) := by
      intro kvs
      induction kvs with
      | nil => intro ks h; simp only [ImK] at h; subst h; simp only [List.nil_append, ImK]; exact ⟨_, _, [], rfl, ik, id, rfl⟩
      | cons p r ih =>
        intro ks h
        obtain ⟨kd, dd⟩ := p
        simp only [ImK] at h
        obtain ⟨u', v', vr, rfl, i1, i2, i3⟩ := h
        simp only [List.cons_append, ImK, List.cons.injEq]
        exact ⟨_, _, _, ⟨rfl, rfl⟩, i1, i2, ih i3⟩
    have papp : ∀ {l : List (V × V)} {m : List (NestedKey × Addr × Value)} {q y}, Paired PrB l m → PrB q y → Paired PrB (l ++ [q]) (m ++ [y]) := by
      intro l m q y hp
      induction hp with
      | nil => intro hq; exact .cons hq .nil
      | cons a _ ih => intro hq; exact .cons a (ih hq)
    exact ⟨ks ++ [(.ref b, v)], by simp [h], papp r ⟨rfl, rv⟩, app im⟩

/-! ### the operations -/
/-- what is known of the dict at a -/
structure DK (X : Cx) (H : Hp) (a : Addr) (kvs : List (D × D)) (u : HO) (ks : List (V × V)) : Prop where
  rd : Rd H a u
  sh : Sh (kxOf X) a kvs u ks
  im : ImK (kxOf X) H kvs ks
variable {a : Addr} {kvs : List (D × D)} {u : HO} {ks : List (V × V)} {k : D} {y : V} {uv : Value} {A : Around} {E : Value → Shared → Prop}
theorem keyOk_cases (h : keyOk kvs k = true) : (fltK k = true ∧ kvs.all (fun p => fltK p.1) = true) ∨ (tupK k = true ∧ kvs.all (fun p => tupK p.1) = true) := by
  unfold keyOk at h
  simpa [Bool.or_eq_true, Bool.and_eq_true] using h
theorem dk_in {Q : Value → Shared → Prop} (hu : A.units + 100 < cLine) (I : Inv X pins σ H s) (g : DK X H a kvs u ks) (hk : keyOk kvs k = true) (i : Im (kxOf X) H k y) (ry : RelV y uv) (h : ∀ s', Inv X pins σ H s' → Q (.bool (kvs.any fun p => peq p.1 k)) s') :
    wpAny (model X.prog X.w) A (compareOp .In uv (.ref a)) Q E s := by
  rcases keyOk_cases hk with ⟨h1, h2⟩ | ⟨h1, h2⟩
  · obtain ⟨l, vs, v⟩ := viewA I g.rd g.sh g.im h2
    obtain ⟨kk, hkk⟩ := flatK_of h1
    have ey := flatK_im i hkk
    subst ey
    refine wpAny_in_of (kV_is ry) v.sys v.dct.mapOf ?_
    rw [← (v.rel.val kk).isSome_eq, ← (VA.get hkk v.keys v.im).2.2]
    exact h _ (I.tok _)
  · obtain ⟨xs, ks', v⟩ := viewB I g.rd g.sh g.im h2
    obtain ⟨b, rfl⟩ := im_tupK i h1
    cases ry
    refine wpAny_in_heap (show A.in1.units + 8 < cLine by show A.units + 1 + 8 < cLine; omega) (key_nested I i h1) v.sys v.dct ?_
    rw [← (VB.get h1 h2 v.keys v.rel v.im).2.2]
    exact h _ (I.tok _)
theorem dk_notIn {Q : Value → Shared → Prop} (hu : A.units + 100 < cLine) (I : Inv X pins σ H s) (g : DK X H a kvs u ks) (hk : keyOk kvs k = true) (i : Im (kxOf X) H k y) (ry : RelV y uv) (h : ∀ s', Inv X pins σ H s' → Q (.bool (!kvs.any fun p => peq p.1 k)) s') :
    wpAny (model X.prog X.w) A (compareOp .NotIn uv (.ref a)) Q E s := by
  rcases keyOk_cases hk with ⟨h1, h2⟩ | ⟨h1, h2⟩
  · obtain ⟨l, vs, v⟩ := viewA I g.rd g.sh g.im h2
    obtain ⟨kk, hkk⟩ := flatK_of h1
    have ey := flatK_im i hkk
    subst ey
    refine wpAny_notIn_of (kV_is ry) v.sys v.dct.mapOf ?_
    rw [← (v.rel.val kk).isSome_eq, ← (VA.get hkk v.keys v.im).2.2]
    exact h _ (I.tok _)
  · obtain ⟨xs, ks', v⟩ := viewB I g.rd g.sh g.im h2
    obtain ⟨b, rfl⟩ := im_tupK i h1
    cases ry
    refine PyProof.Rows.wpAny_notIn_heap (show A.in1.units + 8 < cLine by show A.units + 1 + 8 < cLine; omega) (key_nested I i h1) v.sys v.dct ?_
    rw [← (VB.get h1 h2 v.keys v.rel v.im).2.2]
    exact h _ (I.tok _)
theorem dk_item {d : D} {Q : Value → Shared → Prop} (hu : A.units + 100 < cLine) (I : Inv X pins σ H s) (g : DK X H a kvs u ks) (hk : keyOk kvs k = true) (hd : getK kvs k = some d) (i : Im (kxOf X) H k y) (ry : RelV y uv) (h : ∀ v w' s', Inv X pins σ H s' → RelV v w' → Im (kxOf X) H d v → Q w' s') :
    wpAny (model X.prog X.w) A (getItem (.ref a) uv) Q E s := by
  rcases keyOk_cases hk with ⟨h1, h2⟩ | ⟨h1, h2⟩
  · obtain ⟨l, vs, v⟩ := viewA I g.rd g.sh g.im h2
    obtain ⟨kk, hkk⟩ := flatK_of h1
    have ey := flatK_im i hkk
    subst ey
    obtain ⟨v1, hv1, iv⟩ := (VA.get hkk v.keys v.im).2.1 d hd
    obtain ⟨w', hw, rw'⟩ := RelO.some_of (v := v1) (o := valueAt vs kk) (by rw [← hv1]; exact v.rel.val kk)
    exact wpAny_getItem_of (kV_is ry) v.dct.mapOf hw (h v1 w' _ (I.tok _) rw' iv)
  · obtain ⟨xs, ks', v⟩ := viewB I g.rd g.sh g.im h2
    obtain ⟨b, rfl⟩ := im_tupK i h1
    cases ry
    obtain ⟨p, v1, hp, rv, iv⟩ := (VB.get h1 h2 v.keys v.rel v.im).2.1 d hd
    exact wpAny_getItem_heap (show A.in1.units + 8 < cLine by show A.units + 1 + 8 < cLine; omega) (key_nested I i h1) v.dct hp (h v1 p.2 _ (I.tok _) rv iv)
theorem dk_get {Q : Value → Shared → Prop} (hu : A.units + 100 < cLine) (I : Inv X pins σ H s) (g : DK X H a kvs u ks) (hk : keyOk kvs k = true) (i : Im (kxOf X) H k y) (ry : RelV y uv) (h : ∀ v w' s', Inv X pins σ H s' → RelV v w' → Im (kxOf X) H ((getK kvs k).getD .non) v → Q w' s') :
    wpAny (model X.prog X.w) A (call (.builtin "dict.get") [.ref a, uv]) Q E s := by
  rcases keyOk_cases hk with ⟨h1, h2⟩ | ⟨h1, h2⟩
  · obtain ⟨l, vs, v⟩ := viewA I g.rd g.sh g.im h2
    obtain ⟨kk, hkk⟩ := flatK_of h1
    have ey := flatK_im i hkk
    subst ey
    refine call_meetsIn PySem.F.slot_dict_get v.dct.typeIs PySem.F.entry_dict_get (PySem.F.args_dict_get_2 _ _) (meets_dict_get (mixKind X.prog X.w) a (kV_is ry) v.sys) ⟨_, v.dct.mapOf, ?_⟩
    have gg := VA.get hkk v.keys v.im
    cases hd : getK kvs k with
    | none =>
      have hn := gg.1 hd
      have : valueAt vs kk = none := by
        have := (v.rel.val kk).isSome_eq
        rw [hn] at this
        cases hv : valueAt vs kk with
        | none => rfl
        | some _ => rw [hv] at this; cases this
      rw [this]
      rw [hd] at h
      exact h .non _ _ (I.tok _) rfl Im.non
    | some d =>
      obtain ⟨v1, hv1, iv⟩ := gg.2.1 d hd
      obtain ⟨w', hw, rw'⟩ := RelO.some_of (v := v1) (o := valueAt vs kk) (by rw [← hv1]; exact v.rel.val kk)
      rw [hw]
      rw [hd] at h
      exact h v1 w' _ (I.tok _) rw' iv
  · obtain ⟨xs, ks', v⟩ := viewB I g.rd g.sh g.im h2
    obtain ⟨b, rfl⟩ := im_tupK i h1
    cases ry
    refine call_meetsIn PySem.F.slot_dict_get v.dct.typeIs PySem.F.entry_dict_get (PySem.F.args_dict_get_2 _ _) (meetsH_dict_get (nestedKind X.prog X.w) a b v.sys) ⟨(show A.in1.units + 8 < cLine by show A.units + 1 + 8 < cLine; omega), nk k, xs, key_nested I i h1, v.dct, ?_⟩
    have gg := VB.get h1 h2 v.keys v.rel v.im
    cases hd : getK kvs k with
    | none =>
      rw [gg.1 hd]
      rw [hd] at h
      exact h .non _ _ (I.tok _) rfl Im.non
    | some d =>
      obtain ⟨p, v1, hp, rv, iv⟩ := gg.2.1 d hd
      rw [hp]
      rw [hd] at h
      exact h v1 p.2 _ (I.tok _) rv iv
theorem putD_len (kvs : List (D × D)) (k d : D) : (putD kvs k d).length ≤ kvs.length + 1 := by
  unfold putD
  split <;> simp
theorem dk_set {d : D} {v : V} {vv : Value} {Q : Unit → Shared → Prop} (hu : A.units + 100 < cLine) (I : Inv X pins σ H s) (g : DK X H a kvs u ks) (hm : H a = some u) (hk : keyOk kvs k = true) (hz : kvs.length < sizeLine) (i : Im (kxOf X) H k y) (ry : RelV y uv) (id : Im (kxOf X) H d v) (rv : RelV v vv)
    (h : ∀ u' ks' s', OwnO u' → Inv X pins σ (upd H a u') s' → Sh (kxOf X) a (putD kvs k d) u' ks' → ImK (kxOf X) (upd H a u') (putD kvs k d) ks' → Q () s') :
    wpAny (model X.prog X.w) A (setItem (.ref a) uv vv) Q E s := by
  have mu : Mut (H a) := by rw [hm]; exact g.sh.own.mut
  have xe : ∀ u', Ext H (upd H a u') := fun u' => Ext.chg hm g.sh.own.mut
  have lenE : ∀ {kvs : List (D × D)} {ks : List (V × V)}, ImK (kxOf X) H kvs ks → kvs.length = ks.length := by
    intro kvs
    induction kvs with
    | nil => intro ks h; simp only [ImK] at h; subst h; rfl
    | cons p r ih =>
      intro ks h
      obtain ⟨kd, dd⟩ := p
      simp only [ImK] at h
      obtain ⟨u', v', vr, rfl, i1, i2, i3⟩ := h
      simp [ih i3]
  rcases keyOk_cases hk with ⟨h1, h2⟩ | ⟨h1, h2⟩
  · obtain ⟨l, vs, v0⟩ := viewA I g.rd g.sh g.im h2
    obtain ⟨kk, hkk⟩ := flatK_of h1
    have ey := flatK_im i hkk
    subst ey
    have hzl : l.length < sizeLine := by
      have := lenE v0.im
      rw [List.length_map] at this
      omega
    have hz' : vs.length ≤ sizeLine := by rw [← v0.rel.length]; omega
    have hl : (putK l kk v).length ≤ sizeLine := by have := length_putK l kk v; omega
    refine wpAny_setItem_pairs (hsz := hz') (kV_is ry) v0.dct fun h' dd' hs => ?_
    have he : ∃ q, h'.get? a = some q := let ⟨q, _, _, hq, _⟩ := dd'; ⟨q, hq⟩
    obtain ⟨p1, p2⟩ := VA.put hkk id i v0.keys v0.im
    exact h (.dK (putK l kk v)) _ _ trivial (d_write I mu hs he (dk_new hl v0.sys (v0.rel.put kk rv) dd')) (.flat _ p1) (p2.ext (xe _))
  · obtain ⟨xs, ks', v0⟩ := viewB I g.rd g.sh g.im h2
    obtain ⟨b, rfl⟩ := im_tupK i h1
    cases ry
    have hx : xs.length = kvs.length := by
      have := congrArg List.length v0.keys
      simpa using this
    have hz' : xs.length ≤ sizeLine := by omega
    refine wpAny_setItem_heap (hsz := hz') (show A.in1.units + 8 < cLine by show A.units + 1 + 8 < cLine; omega) (key_nested I i h1) v0.dct fun h' dd' hs => ?_
    obtain ⟨ks2, q1, q2, q3⟩ := VB.put h1 id rv i h2 v0.keys v0.rel v0.im
    obtain ⟨o, es, ep, ho, g2, g3, g4, _, g5⟩ := dd'
    have hl : (storedH xs (nk k) b vv).length ≤ sizeLine := by
      have e1 := congrArg List.length q1
      simp only [List.length_map] at e1
      rw [e1]
      have := putD_len kvs k d
      omega
    have ptup : ∀ p ∈ putD kvs k d, ∃ ds, p.1 = .tup ds := by
      intro p hp
      unfold putD at hp
      split at hp
      · obtain ⟨q, hq, rfl⟩ := List.mem_map.mp hp
        obtain ⟨_, ds, e1⟩ := tupK_hsh (List.all_eq_true.mp h2 q hq)
        split
        · exact ⟨ds, e1⟩
        · exact ⟨ds, e1⟩
      · rcases List.mem_append.mp hp with hp | hp
        · obtain ⟨_, ds, e1⟩ := tupK_hsh (List.all_eq_true.mp h2 p hp)
          exact ⟨ds, e1⟩
        · rw [List.mem_singleton.mp hp]
          exact (tupK_hsh h1).2
    refine h (dtO X.prog X.w a (storedH xs (nk k) b vv)) ks2 _ trivial (d_write I mu hs ⟨o, ho⟩ ⟨⟨hl, v0.sys, o, es, ep, ho, g2, g3, g4, g5⟩, ⟨o, ho⟩, fun h1 h2 hp hk => ?_⟩) (.tups _ _ q1 ptup q2) (q3.ext (xe _))
    obtain ⟨w1, w2, o', es', ep', ho', r⟩ := hp
    exact ⟨w1, w2, o', es', ep', hk o' ho', r⟩
end
end VL
end

section
set_option Elab.async false
set_option linter.all false
set_option maxRecDepth 100000
/-! VLv: dicts of slots: the expressions and statements. -/
namespace VL
open PySem PySem.Spec L2 VD
section
variable {G : Gx} {B : Bx} {e : En} {σ : L2.St} {H : Hp}
theorem SS.dk {i : Nat} {m : M} {kvs : List (D × D)} (s : SS G B e σ H) (h : slot e i = some m) (hd : dctM m = some kvs) : ∃ a u ks, σ[i]? = some (some (.ref a)) ∧ Rd H a u ∧ Sh G.K a kvs u ks ∧ ImK G.K H kvs ks := by
  unfold dctM at hd
  split at hd
  · cases hd
    obtain ⟨v, hv, s2⟩ := s.take h
    obtain ⟨a, u, ks, rfl, g1, g2, g3⟩ := s2.dctAt
    exact ⟨a, u, ks, hv, Rd.of g1, g2, g3⟩
  · cases hd
    obtain ⟨v, hv, i⟩ := s.var h
    simp only [Im] at i
    obtain ⟨a, o, u, ks, rfl, g1, g2, g3⟩ := i
    exact ⟨a, u, ks, hv, .inr ⟨o, g1⟩, g2, g3⟩
  · cases hd
end
theorem keyM_e {m : M} {k : D} {kvs : List (D × D)} (h : keyM m k = some kvs) : dctM m = some kvs ∧ keyOk kvs k = true := by
  unfold keyM at h
  obtain ⟨l, h1, h2⟩ := bnd h
  obtain ⟨h3, rfl⟩ := iff_some h2
  exact ⟨h1, h3⟩
theorem dk_at {X : Cx} {pins : List (Addr × Obj)} {σ : L2.St} {H : Hp} {s : Shared} {a : Addr} {kvs : List (D × D)} {u : HO} {ks : List (V × V)} (I : Inv X pins σ H s) (g : DK X H a kvs u ks) :
    s.TypeIs (.ref a) "dict" ∧ (∀ b, Value.ref a = .ref b → ∃ ob, s.heap.get? b = some ob ∧ ob.dict = none) ∧ (a == sysModules) = false := by
  obtain ⟨e, sh, im⟩ := g
  cases sh with
  | flat l hk =>
    obtain ⟨_, hd, vs, _, dd⟩ := dk_rd I.hok e
    refine ⟨dd.typeIs, fun b q => ?_, hd⟩
    cases q
    obtain ⟨ob, _, _, h1, h2, _⟩ := dd
    exact ⟨ob, h1, h2.2.1⟩
  | tups xs ks h h2 r =>
    obtain ⟨⟨z, hd, o, es, ep, ho, hx, hdat, hes, hnd⟩, _⟩ := (show ObjOk X.prog X.w H s.heap a (dtO X.prog X.w a xs) from e.ok I.hok)
    refine ⟨⟨o, ho, hx.1⟩, fun b q => ?_, hd⟩
    cases q
    exact ⟨o, ho, hx.2.1⟩
section
variable {X : Cx} {G : Gx} {pos : Pos} {a b c : Expr} {fa fb fc : FE}
/-- the dict at x, the key y -/
def rDk (X : Cx) (H : Hp) (x y : V) (kvs : List (D × D)) (k : D) : Prop := ∃ a u ks, x = .ref a ∧ DK X H a kvs u ks ∧ keyOk kvs k = true ∧ Im (kxOf X) H k y
theorem units_ok (hr : Room 0 X.A) : X.A.units + 100 < cLine := by
  have := hr.un
  omega
theorem op_inDk (hr : Room 0 X.A) : OpR X (compareOp .In) (fun y x H Q => ∃ kvs k, rDk X H x y kvs k ∧ Q (.bl (kvs.any fun p => peq p.1 k)) H) := fun pins s σ H y x uv v Q I ry rx ⟨kvs, k, ⟨a, u, ks, e, g, hk, i⟩, q⟩ => by
  subst e
  cases rx
  exact dk_in (units_ok hr) I g hk i ry fun s' I' => ⟨.bl _, H, I', rfl, q⟩
theorem op_notInDk (hr : Room 0 X.A) : OpR X (compareOp .NotIn) (fun y x H Q => ∃ kvs k, rDk X H x y kvs k ∧ Q (.bl (!kvs.any fun p => peq p.1 k)) H) := fun pins s σ H y x uv v Q I ry rx ⟨kvs, k, ⟨a, u, ks, e, g, hk, i⟩, q⟩ => by
  subst e
  cases rx
  exact dk_notIn (units_ok hr) I g hk i ry fun s' I' => ⟨.bl _, H, I', rfl, q⟩
theorem slot_rDk {B : Bx} {e : En} {σ : L2.St} {H : Hp} {i : Nat} {m : M} {k : D} {kvs : List (D × D)} {y : V} (hK : kxOf X = G.K) (s : SS G B e σ H) (h : slot e i = some m) (hd : keyM m k = some kvs) (iy : Im G.K H k y) : ∃ v, σ[i]? = some (some v) ∧ rDk X H v y kvs k := by
  obtain ⟨h1, h2⟩ := keyM_e hd
  obtain ⟨a, u, ks, g1, g2, g3, g4⟩ := s.dk h h1
  refine ⟨_, g1, a, u, ks, rfl, ⟨g2, ?_, ?_⟩, h2, ?_⟩
  · rw [hK]; exact g3
  · rw [hK]; exact g4
  · rw [hK]; exact iy
theorem c_inD (i : Nat) {x : Str} {p : Pos} (ha : PE X a (tV G fa)) (hK : kxOf X = G.K) (hr : Room 0 X.A) (hN : X.N[i]? = some x := by rfl) (hv : Vis X.env.scope x := by first | exact Or.inl rfl | exact Or.inr (Or.inl rfl) | exact Or.inr (Or.inr rfl)) (hd : (x == ("__debug__" : Str)) = false := by decide)
    (hcd : (x == ("__classdict__" : Str)) = false := by decide) : PE X (.Compare a [.In] [.Name x p] pos) (tV G (valF (inDS fa i))) := by
  refine PE.le (pe_cmpR (op_inDk hr) ha (pe_var (i := i) hN hv hd hcd) (by rfl)) fun σ H Q ⟨B, e, d, e', s, h, k⟩ => ?_
  obtain ⟨bb, hh, rfl⟩ := valF_e h
  obtain ⟨⟨y, e1⟩, h1, hA⟩ := bnd hh
  obtain ⟨m, h2, hB⟩ := bnd hA
  obtain ⟨kvs, h3, hC⟩ := mpd hB
  cases hC
  refine ⟨B, e, y, e1, s, h1, fun v H1 s1 i1 x1 => ?_⟩
  obtain ⟨w, hw, r⟩ := slot_rDk hK s1 h2 h3 i1
  exact ⟨w, hw, kvs, y, r, k _ H1 s1 (Im.bl _) x1⟩
theorem c_notInD (i : Nat) {x : Str} {p : Pos} (ha : PE X a (tV G fa)) (hK : kxOf X = G.K) (hr : Room 0 X.A) (hN : X.N[i]? = some x := by rfl) (hv : Vis X.env.scope x := by first | exact Or.inl rfl | exact Or.inr (Or.inl rfl) | exact Or.inr (Or.inr rfl)) (hd : (x == ("__debug__" : Str)) = false := by decide)
    (hcd : (x == ("__classdict__" : Str)) = false := by decide) : PE X (.Compare a [.NotIn] [.Name x p] pos) (tV G (valF (notInDS fa i))) := by
  refine PE.le (pe_cmpR (op_notInDk hr) ha (pe_var (i := i) hN hv hd hcd) (by rfl)) fun σ H Q ⟨B, e, d, e', s, h, k⟩ => ?_
  obtain ⟨bb, hh, rfl⟩ := valF_e h
  obtain ⟨⟨y, e1⟩, h1, hA⟩ := bnd hh
  obtain ⟨m, h2, hB⟩ := bnd hA
  obtain ⟨kvs, h3, hC⟩ := mpd hB
  cases hC
  refine ⟨B, e, y, e1, s, h1, fun v H1 s1 i1 x1 => ?_⟩
  obtain ⟨w, hw, r⟩ := slot_rDk hK s1 h2 h3 i1
  exact ⟨w, hw, kvs, y, r, k _ H1 s1 (Im.bl _) x1⟩
/-- slot[x]: a dict -/
theorem v_itemS (i : Nat) {x : Str} {p : Pos} (hb : PE X b (tV G fb)) (hK : kxOf X = G.K) (hr : Room 0 X.A) (hs : NoSl b := by exact fun _ _ => rfl) (hN : X.N[i]? = some x := by rfl) (hv : Vis X.env.scope x := by first | exact Or.inl rfl | exact Or.inr (Or.inl rfl) | exact Or.inr (Or.inr rfl)) (hd : (x == ("__debug__" : Str)) = false := by decide)
    (hcd : (x == ("__classdict__" : Str)) = false := by decide) : PE X (.Subscript (.Name x p) b pos) (tV G (itemS i fb)) := by
  refine ⟨fun pins s σ H Q I ⟨B, e, d, e', ss, h, k⟩ => ?_⟩
  obtain ⟨m0, h0, hA⟩ := bnd h
  obtain ⟨⟨y, e1⟩, h1, hB⟩ := bnd hA
  obtain ⟨m, h2, hC⟩ := bnd hB
  obtain ⟨kvs, h3, hD⟩ := bnd hC
  obtain ⟨d1, h4, hE⟩ := mpd hD
  cases hE
  obtain ⟨v, hv', _⟩ := ss.take h0
  refine subD_of PySem.F.slot_dict_getitem.lookup hs (thn ((pe_var (i := i) (pos := p) hN hv hd hcd).run pins s σ H (fun x H1 => x = v ∧ H1 = H) I ⟨v, hv', rfl, rfl⟩) fun u s1 ⟨x, H1, I1, rx, ex, eH⟩ => ?_)
  subst ex eH
  refine thn (hb.run pins s1 σ H1 (fun w H2 => SS G B e1 σ H2 ∧ Im G.K H2 y w ∧ Ext H1 H2) I1 ⟨B, e, y, e1, ss, h1, fun w H2 s2 i2 x2 => ⟨s2, i2, x2⟩⟩) fun iv s2 ⟨w, H2, I2, ry, ss2, i2, x2⟩ => ?_
  obtain ⟨v', hv2, aa, u', ks, e5, g, hk, i3⟩ := slot_rDk hK ss2 h2 h3 i2
  rw [hv'] at hv2
  cases hv2
  subst e5
  cases rx
  exact ⟨(dk_at I2 g).1, dk_item (units_ok hr) I2 g hk h4 i3 ry fun v w' s3 I3 rv iv => ⟨v, H2, I3, rv, k v H2 ss2 (by rw [← hK]; exact iv) x2⟩⟩
/-- slot.get(x) -/
theorem v_getDS (i : Nat) {x : Str} {p apos cpos : Pos} (he : PE X a (tV G fa)) (hK : kxOf X = G.K) (hr : Room 0 X.A) (m : M1 X (.Name x p) "get" apos a cpos := by exact ⟨rfl, rfl, rfl, rfl⟩) (hN : X.N[i]? = some x := by rfl) (hv : Vis X.env.scope x := by first | exact Or.inl rfl | exact Or.inr (Or.inl rfl) | exact Or.inr (Or.inr rfl)) (hd : (x == ("__debug__" : Str)) = false := by decide)
    (hcd : (x == ("__classdict__" : Str)) = false := by decide) : PE X (.Call (.Attribute (.Name x p) "get" apos) [a] [] cpos) (tV G (getDS i fa)) := by
  refine ⟨fun pins s σ H Q I ⟨B, e, d, e', ss, h, k⟩ => ?_⟩
  obtain ⟨m0, h0, hA⟩ := bnd h
  obtain ⟨kv0, h0', hA⟩ := bnd hA
  obtain ⟨⟨y, e1⟩, h1, hB⟩ := bnd hA
  obtain ⟨m', h2, hC⟩ := bnd hB
  obtain ⟨kvs, h3, hD⟩ := mpd hC
  cases hD
  obtain ⟨a0, u0, ks0, hv', q1, q2, q3⟩ := ss.dk h0 h0'
  refine wpAny_Call_method m.base m.few m.line PySem.F.plainAttrs_dict PySem.F.slot_dict_get PySem.F.type_dict_get (thn ((pe_var (i := i) (pos := p) hN hv hd hcd).run pins s σ H (fun x H1 => x = .ref a0 ∧ H1 = H) I ⟨_, hv', rfl, rfl⟩) fun u s1 ⟨x, H1, I1, rx, ex, eH⟩ => ?_)
  subst ex eH
  cases rx
  obtain ⟨t1, t2, _⟩ := dk_at (kvs := kv0) I1 ⟨q1, by rw [hK]; exact q2, by rw [hK]; exact q3⟩
  refine ⟨t1, t2, ?_⟩
  rw [m.trees]
  refine Calls.callWith_builtin rfl (Calls.evalArgs_plain (Calls.spliced_cons (thn (he.run pins s1 σ H1 (fun w H2 => SS G B e1 σ H2 ∧ Im G.K H2 y w ∧ Ext H1 H2) I1 ⟨B, e, y, e1, ss, h1, fun w H2 s2 i2 x2 => ⟨s2, i2, x2⟩⟩) fun iv s2 ⟨w, H2, I2, ry, ss2, i2, x2⟩ => Calls.spliced_nil ?_)))
  obtain ⟨v', hv2, aa, u', ks, e5, g, hk, i3⟩ := slot_rDk hK ss2 h2 h3 i2
  rw [hv'] at hv2
  cases hv2
  cases e5
  exact dk_get (units_ok hr) I2 g hk i3 ry fun v w' s3 I3 rv iv => ⟨v, H2, I3, rv, k v H2 ss2 (by rw [← hK]; exact iv) x2⟩
/-- slot[k] = x: a dict -/
def rSetDk (X : Cx) : TSet := fun o y v H Q => ∃ a kvs u ks k d, o = .ref a ∧ DK X H a kvs u ks ∧ H a = some u ∧ keyOk kvs k = true ∧ kvs.length < sizeLine ∧ Im (kxOf X) H k y ∧ Im (kxOf X) H d v ∧
  ∀ u' ks', OwnO u' → Sh (kxOf X) a (putD kvs k d) u' ks' → ImK (kxOf X) (upd H a u') (putD kvs k d) ks' → Q (upd H a u')
theorem set_dk (hr : Room 0 X.A) : PSet X (rSetDk X) := by
  intro pins s σ H o y v ov iv u Q I ro ri rv h
  obtain ⟨a, kvs, u', ks, k, d, rfl, g, hm, hk, hz, iy, id, q⟩ := h
  cases ro
  exact dk_set (units_ok hr) I g hm hk hz iy ri id rv fun u' ks' s' ho I' sh im => ⟨_, I', q u' ks' ho sh im⟩
theorem s_putK (i : Nat) {x : Str} {p sp : Pos} (ha : PE X a (tV G fa)) (hb : PE X b (tV G fb)) (hK : kxOf X = G.K) (hr : Room 0 X.A) (hN : X.N[i]? = some x := by rfl) (hv : Vis X.env.scope x := by first | exact Or.inl rfl | exact Or.inr (Or.inl rfl) | exact Or.inr (Or.inr rfl)) (hd : (x == ("__debug__" : Str)) = false := by decide)
    (hcd : (x == ("__classdict__" : Str)) = false := by decide) (hst : ∀ {t : TSet}, PSet X t → PS X (.Assign [.Subscript (.Name x p) b sp] a pos) (tAsg (tV G fa) (gSub (tVar i) (tV G fb) t))) :
    PS X (.Assign [.Subscript (.Name x p) b sp] a pos) (tS G (putKS i fb fa)) := by
  refine PS.le (hst (set_dk hr)) fun D σ H ⟨B, e, fl, e', s, h, k⟩ => ?_
  unfold putKS at h
  obtain ⟨⟨d, e1⟩, h1, hA⟩ := bnd h
  obtain ⟨m0, h0, hB⟩ := bnd hA
  obtain ⟨⟨kd, e2⟩, h2, hC⟩ := bnd hB
  refine ⟨B, e, d, e1, s, h1, fun y H1 s1 i1 x1 => ?_⟩
  obtain ⟨v, hv', _⟩ := s1.take h0
  refine ⟨v, hv', B, e1, kd, e2, s1, h2, fun w H2 s2 i2 x2 => ?_⟩
  split at hC
  · rename_i kvs hs
    obtain ⟨⟨hk, hz⟩, hD⟩ := iff_some hC
    cases hD
    obtain ⟨v', hv2, s3⟩ := s2.take hs
    rw [hv'] at hv2
    cases hv2
    obtain ⟨p1, u1, ks1, rfl, g1, g2, g3⟩ := s3.dctAt
    refine ⟨p1, kvs, u1, ks1, kd, d, rfl, ⟨Rd.of g1, by rw [hK]; exact g2, by rw [hK]; exact g3⟩, g1, hk, by rw [← big_eq]; exact hz, by rw [hK]; exact i2, by rw [hK]; exact i1.ext x2, fun u' ks' ho sh im => ?_⟩
    rw [hK] at sh im
    have mu : Mut (some u1) := g2.own.mut
    have x3 : Ext H2 (upd H2 p1 u') := Ext.chg g1 mu
    obtain ⟨s4, _⟩ := s3.changeD (o := u') rfl g1 mu (.dct (putD kvs kd d)) (.inl ⟨p1, u', ks', rfl, rfl, upd_same, sh, im⟩)
    have s5 := s4.give (by rw [List.length_set]; exact slot_lt hs) hv'
    rw [List.set_set] at s5
    exact k _ _ s5 ((x1.trans x2).trans x3)
  · cases hC
/-- {} -/
theorem m_dnew : PE X (.Dict [] [] pos) (tM G dnewM) := by
  refine PE.le pe_dnewK fun σ H Q ⟨B, e, m, e', s, h, k⟩ p hp => ?_
  cases h
  exact k _ _ (s.newM hp ⟨p, _, [], rfl, rfl, upd_same, .flat [] rfl, by simp only [ImK]⟩) (Ext.new hp)
end
end VL
end

section
/-! VD3: what is read of slots and of new objects. -/
set_option linter.all false
namespace VD
/-- a slot, as an object that is read -/
def slotM (i : Nat) : FM := fun e => (slot e i).map fun m => (m, e)
def inRM (x : D) : M → Option Bool
  | .imm d => inD x d
  | .lst xs => if dep x ≤ room ∧ depL xs ≤ room then some (xs.any fun y => peq y x) else none
  | _ => none
def inR (a : FE) (f : FM) : FT := fun e => (a e).bind fun p => (f p.2).bind fun q => (inRM p.1 q.1).map fun b => (b, q.2)
def notInR (a : FE) (f : FM) : FT := fun e => (a e).bind fun p => (f p.2).bind fun q => (inRM p.1 q.1).map fun b => (!b, q.2)
/-- list(x), x a text -/
def lstStr (a : FE) : FM := fun e => (a e).bind fun p => match p.1 with
  | .str z => if z.length ≤ big then some (.lst (z.map fun c => .str [c]), p.2) else none
  | _ => none
def augAdd : D → D → Option D
  | .int i, .int j => some (.int (i + j))
  | .str a, .str b => if a.length + b.length ≤ big then some (.str (a ++ b)) else none
  | _, _ => none
/-- [..] * n of a new list -/
def repM (f : FM) (b : FE) : FM := fun e => (f e).bind fun p => (b p.2).bind fun q => match p.1, q.1 with
  | .lst xs, .int k => if -9223372036854775808 ≤ k ∧ k < 9223372036854775808 ∧ xs.length * k.toNat ≤ big then some (.lst (List.replicate k.toNat xs).flatten, q.2) else none
  | _, _ => none
def scountD : D → D → Option D
  | .str z, .str [c] => some (.int (z.countP (· == c) : Nat))
  | _, _ => none
/-- isinstance(d, T), T one of the built-in types' names -/
def isB (S T : String) : Bool := S == T || (S == "bool" && T == "int")
def tyD : D → Option String
  | .non => some "NoneType"
  | .bl _ => some "bool"
  | .int _ => some "int"
  | .str _ => some "str"
  | .tup _ => some "tuple"
  | .lst _ => some "list"
  | .dct _ => none
def isiP (T : String) (d : D) : Option Bool := (tyD d).map fun S => isB S T
/-- {k: v} -/
def done1 (k v : FE) : FM := fun e => (k e).bind fun p => (v p.2).bind fun q => if fltK p.1 = true then some (.dct [(p.1, q.1)], q.2) else none
/-- a bound of the loops -/
def fuel : Nat := 10000000
end VD
end

section
set_option Elab.async false
set_option linter.all false
set_option maxRecDepth 100000
/-! VLw: what is read of slots and of new objects; more built-ins. -/
namespace VL
open PySem PySem.Spec L2 VD
open PySem.SeqAt
def RMx (K : Kx) (H : Hp) (m : M) (v : V) : Prop := ∃ as, RM K H m v as
def tR (G : Gx) (f : FM) : TE := fun σ H Q => ∃ B e m e', SS G B e σ H ∧ f e = some (m, e') ∧ ∀ v H', SS G B e' σ H' → RMx G.K H' m v → Ext H H' → Q v H'
theorem SS.rm {G : Gx} {B : Bx} {e : En} {σ : L2.St} {H : Hp} {m : M} {v : V} (s : SS G (B.put m v) e σ H) : RMx G.K H m v := by
  obtain ⟨as, bs, h1, ⟨b1, b2, rfl, h5, h2⟩, h3, h4⟩ := s.sl
  exact ⟨b1, h5⟩
section
variable {X : Cx} {G : Gx} {pos : Pos} {a b c : Expr} {fa fb fc : FE} {fm : FM}
theorem r_m (h : PE X a (tM G fm)) : PE X a (tR G fm) := PE.le h fun σ H Q ⟨B, e, m, e', s, h, k⟩ => ⟨B, e, m, e', s, h, fun v H1 s1 x1 => k v H1 s1.pop s1.rm x1⟩
theorem r_v (h : PE X a (tV G fa)) : PE X a (tR G (immM fa)) := PE.le h fun σ H Q ⟨B, e, m, e', s, h, k⟩ => by
  obtain ⟨⟨d, e1⟩, h1, h2⟩ := bnd h
  cases h2
  exact ⟨B, e, d, e1, s, h1, fun v H1 s1 i1 x1 => k v H1 s1 ⟨[], rfl, i1⟩ x1⟩
theorem r_slot (i : Nat) {x : Str} (hN : X.N[i]? = some x := by rfl) (hv : Vis X.env.scope x := by first | exact Or.inl rfl | exact Or.inr (Or.inl rfl) | exact Or.inr (Or.inr rfl)) (hd : (x == ("__debug__" : Str)) = false := by decide)
    (hcd : (x == ("__classdict__" : Str)) = false := by decide) : PE X (.Name x pos) (tR G (slotM i)) := PE.le (pe_var (i := i) hN hv hd hcd) fun σ H Q ⟨B, e, m, e', s, h, k⟩ => by
  obtain ⟨m1, h1, h2⟩ := mpd h
  cases h2
  obtain ⟨v, hv, s1⟩ := s.take h1
  exact ⟨v, hv, k v H s s1.rm (Ext.refl H)⟩
theorem RMx.lst {K : Kx} {H : Hp} {xs : List D} {v : V} (h : RMx K H (.lst xs) v) : ∃ p vs, v = .ref p ∧ H p = some (.lst vs) ∧ ImL K H xs vs := by
  obtain ⟨as, p, vs, e1, e2, h1, h2⟩ := h
  exact ⟨p, vs, e1, h1, h2⟩
theorem RMx.imm {K : Kx} {H : Hp} {d : D} {v : V} (h : RMx K H (.imm d) v) : Im K H d v := by
  obtain ⟨as, _, h⟩ := h
  exact h
theorem RMx.seq {K : Kx} {H : Hp} {m : M} {ds : List D} {v : V} (h : RMx K H m v) (e : seqItems m = some ds) : ∃ p vs, v = .ref p ∧ (SqL K.fr H p vs ∨ H p = some (.tup vs)) ∧ ImL K H ds vs := by
  unfold seqItems at e
  split at e
  · cases e
    obtain ⟨p, vs, rfl, h1, h2⟩ := h.lst
    exact ⟨p, vs, rfl, .inl (SqL.of h1), h2⟩
  · cases e
    obtain ⟨p, vs, rfl, h1, h2⟩ := h.imm.lst_
    exact ⟨p, vs, rfl, .inl h1.sq, h2⟩
  · cases e
    obtain ⟨p, vs, rfl, h1, h2⟩ := h.imm.tup_
    exact ⟨p, vs, rfl, .inr h1, h2⟩
  · cases e
theorem RMx.lsts {K : Kx} {H : Hp} {m : M} {ds : List D} {v : V} (h : RMx K H m v) (e : lstItems m = some ds) : ∃ p vs, v = .ref p ∧ SqL K.fr H p vs ∧ ImL K H ds vs := by
  unfold lstItems at e
  split at e
  · cases e
    obtain ⟨p, vs, rfl, h1, h2⟩ := h.lst
    exact ⟨p, vs, rfl, SqL.of h1, h2⟩
  · cases e
    obtain ⟨p, vs, rfl, h1, h2⟩ := h.imm.lst_
    exact ⟨p, vs, rfl, h1.sq, h2⟩
  · cases e
theorem boot_list : bootBuiltins "list" = some (.type "list") := by decide +kernel
/-- tuple(x) -/
theorem v_tupR {p : Pos} (h : PE X a (tR G fm)) (hK : kxOf X = G.K) (hg : Gl X "tuple") (hm : X.mg "tuple" = none) (he : starEach [a] X.env = (false, eval a X.env) :: starEach [] X.env := by rfl) (hpl : (backTo pos (starEach [] X.env)).any (·.1) = false := by rfl) :
    PE X (.Call (.Name "tuple" p) [a] [] pos) (tV G (tupFM fm)) := by
  refine PE.le (pe_callTy call_tuple_of hg hm boot_tuple (pa_cons h pa_nil he) (he := he) (hpl := hpl)) fun σ H Q ⟨B, e, d, e', s, h, k⟩ => ?_
  obtain ⟨⟨m, e1⟩, h1, hA⟩ := bnd h
  obtain ⟨ds, h2, hB⟩ := mpd hA
  cases hB
  refine ⟨B, e, m, e1, s, h1, fun v H1 s1 r1 x1 => ?_⟩
  obtain ⟨q, vs, rfl, g1, g2⟩ := r1.seq h2
  rcases g1 with g1 | g1
  · exact ⟨q, vs, rfl, .inl ⟨by rw [frK hK]; exact g1, fun l hl => k _ _ (s1.grow (Grow.new hl)) (Im.newTup hl g2) (x1.trans (Ext.new hl))⟩⟩
  · exact ⟨q, vs, rfl, .inr ⟨SqT.of g1, k _ _ s1 (Im.tup g1 g2) x1⟩⟩
/-- list(x) -/
theorem m_lstR {p : Pos} (h : PE X a (tR G fm)) (hK : kxOf X = G.K) (hg : Gl X "list") (hm : X.mg "list" = none) (he : starEach [a] X.env = (false, eval a X.env) :: starEach [] X.env := by rfl) (hpl : (backTo pos (starEach [] X.env)).any (·.1) = false := by rfl) :
    PE X (.Call (.Name "list" p) [a] [] pos) (tM G (lstFM fm)) := by
  refine PE.le (pe_callTy call_list_of hg hm boot_list (pa_cons h pa_nil he) (he := he) (hpl := hpl)) fun σ H Q ⟨B, e, d, e', s, h, k⟩ => ?_
  obtain ⟨⟨m, e1⟩, h1, hA⟩ := bnd h
  obtain ⟨ds, h2, hB⟩ := mpd hA
  cases hB
  refine ⟨B, e, m, e1, s, h1, fun v H1 s1 r1 x1 => ?_⟩
  obtain ⟨q, vs, rfl, g1, g2⟩ := r1.seq h2
  exact ⟨q, vs, rfl, g1.imp (fun g => by rw [frK hK]; exact g) (fun g => SqT.of g), fun l hl => k _ _ (s1.new hl g2) (x1.trans (Ext.new hl))⟩
/-- len(x) -/
theorem v_lenR {p : Pos} (h : PE X a (tR G fm)) (hK : kxOf X = G.K) (hg : Gl X "len") (hm : X.mg "len" = none) (he : starEach [a] X.env = (false, eval a X.env) :: starEach [] X.env := by rfl) (hpl : (backTo pos (starEach [] X.env)).any (·.1) = false := by rfl) :
    PE X (.Call (.Name "len" p) [a] [] pos) (tV G (lenOfM fm)) := by
  refine PE.le (pe_callB call_len hg hm PySem.boot_len (pa_cons h pa_nil he) (he := he) (hpl := hpl)) fun σ H Q ⟨B, e, d, e', s, h, k⟩ => ?_
  obtain ⟨⟨m, e1⟩, h1, hA⟩ := bnd h
  obtain ⟨ds, h2, hB⟩ := mpd hA
  cases hB
  refine ⟨B, e, m, e1, s, h1, fun v H1 s1 r1 x1 => ?_⟩
  obtain ⟨q, vs, rfl, g1, g2⟩ := r1.seq h2
  refine ⟨_, ds.length, rfl, ?_, k _ H1 s1 (Im.int _) x1⟩
  rcases g1 with g1 | g1
  · exact .inl ⟨vs, by rw [frK hK]; exact g1, g2.length⟩
  · exact .inr ⟨vs, SqT.of g1, g2.length⟩
/-- sorted(x) -/
theorem m_srtR {p : Pos} (hr : Room 0 X.A) (h : PE X a (tR G fm)) (hK : kxOf X = G.K) (hg : Gl X "sorted") (hm : X.mg "sorted" = none) (he : starEach [a] X.env = (false, eval a X.env) :: starEach [] X.env := by rfl) (hpl : (backTo pos (starEach [] X.env)).any (·.1) = false := by rfl) :
    PE X (.Call (.Name "sorted" p) [a] [] pos) (tM G (srtFM fm)) := by
  refine PE.le (pe_callB (cr_srtI hr) hg hm boot_sorted (pa_cons h pa_nil he) (he := he) (hpl := hpl)) fun σ H Q ⟨B, e, m, e', s, h, kq⟩ => ?_
  obtain ⟨⟨m1, e1⟩, h1, hA⟩ := bnd h
  obtain ⟨ds, h2, hB⟩ := bnd hA
  obtain ⟨l, h3, hC⟩ := mpd hB
  cases hC
  refine ⟨B, e, m1, e1, s, h1, fun v H1 s1 r1 x1 => ?_⟩
  obtain ⟨q, vs, rfl, g1, g2⟩ := r1.lsts h2
  show rSrtI (kxOf X) _ _ _
  rw [hK]
  exact ⟨q, vs, ds, l, rfl, g1, g2, h3, fun q ws hn iw => kq _ _ (s1.new hn iw) (x1.trans (Ext.new hn))⟩
/-! ### in -/
def rInM (K : Kx) (g : Bool → Bool) : R2 := fun y x H Q => ∃ k m b, Im K H k y ∧ RMx K H m x ∧ inRM k m = some b ∧ Q (.bl (g b)) H
theorem own_list (hr : Room 0 X.A) {pins : List (Addr × Obj)} {s : Shared} {σ : L2.St} {H : Hp} {xs : List D} {v : V} {u : Value} (I : Inv X pins σ H s) (r : RelV v u) (h : RMx (kxOf X) H (.lst xs) v) (hn : nodL xs = true) : ∃ as, Reads s.heap u (.list (toPyL xs)) as := by
  obtain ⟨p, vs, rfl, h1, h2⟩ := h.lst
  cases r
  obtain ⟨its, rv, pl, hz⟩ := I.list (SqL.of h1)
  obtain ⟨as, ra⟩ := readsAll_im I h2 rv hn
  obtain ⟨o, ho, hc, n, hd⟩ := pl.isList
  exact ⟨p :: as, .list ho hc hd (by simpa using ra)⟩
theorem op_inM (hr : Room 0 X.A) : OpR X (compareOp .In) (rInM (kxOf X) fun b => b) := fun pins s σ H y x v u Q I ry rx ⟨k, m, b, i1, i2, h, q⟩ => by
  unfold inRM at h
  split at h
  · exact op_inI hr pins s σ H y x v u Q I ry rx ⟨k, _, b, i1, i2.imm, h, q⟩
  · obtain ⟨⟨hd, hd2⟩, rfl⟩ := iff_some h
    have n1 := nod_dep k hd
    have n2 := nodL_dep _ hd2
    obtain ⟨as, ra⟩ := reads_im I i1 ry n1
    obtain ⟨bs, rb⟩ := own_list hr I rx i2 n2
    refine in_list_data rb ra (toPyL_plain _) (toPy_plain k) ?_ ?_
    · rw [toPy_dep k n1]
      have := room_ok hr hd
      omega
    · rw [any_py _ _ n2 n1]
      exact ⟨.bl _, H, I, rfl, q⟩
  · cases h
theorem op_notInM (hr : Room 0 X.A) : OpR X (compareOp .NotIn) (rInM (kxOf X) fun b => !b) := fun pins s σ H y x v u Q I ry rx ⟨k, m, b, i1, i2, h, q⟩ => by
  unfold inRM at h
  split at h
  · exact op_notInI hr pins s σ H y x v u Q I ry rx ⟨k, _, !b, i1, i2.imm, by unfold notInD; rw [h]; rfl, q⟩
  · obtain ⟨⟨hd, hd2⟩, rfl⟩ := iff_some h
    have n1 := nod_dep k hd
    have n2 := nodL_dep _ hd2
    obtain ⟨as, ra⟩ := reads_im I i1 ry n1
    obtain ⟨bs, rb⟩ := own_list hr I rx i2 n2
    refine notIn_list_data rb ra (toPyL_plain _) (toPy_plain k) ?_ ?_
    · rw [toPy_dep k n1]
      have := room_ok hr hd
      omega
    · rw [any_py _ _ n2 n1]
      exact ⟨.bl _, H, I, rfl, q⟩
  · cases h
theorem c_inR (ha : PE X a (tV G fa)) (hb : PE X b (tR G fm)) (hK : kxOf X = G.K) (hr : Room 0 X.A) (hm : behindInMarks .In b = false := by rfl) : PE X (.Compare a [.In] [b] pos) (tV G (valF (inR fa fm))) := by
  refine PE.le (pe_cmpR (op_inM hr) ha hb hm) fun σ H Q ⟨B, e, d, e', s, h, k⟩ => ?_
  obtain ⟨bb, hh, rfl⟩ := valF_e h
  obtain ⟨⟨y, e1⟩, h1, hA⟩ := bnd hh
  obtain ⟨⟨m, e2⟩, h2, hB⟩ := bnd hA
  obtain ⟨b1, h3, hC⟩ := mpd hB
  cases hC
  exact ⟨B, e, y, e1, s, h1, fun v H1 s1 i1 x1 => ⟨B, e1, m, e2, s1, h2, fun w H2 s2 r2 x2 => ⟨y, m, _, by rw [hK]; exact i1.ext x2, by rw [hK]; exact r2, h3, k _ H2 s2 (Im.bl _) (x1.trans x2)⟩⟩⟩
theorem c_notInR (ha : PE X a (tV G fa)) (hb : PE X b (tR G fm)) (hK : kxOf X = G.K) (hr : Room 0 X.A) (hm : behindInMarks .NotIn b = false := by rfl) : PE X (.Compare a [.NotIn] [b] pos) (tV G (valF (notInR fa fm))) := by
  refine PE.le (pe_cmpR (op_notInM hr) ha hb hm) fun σ H Q ⟨B, e, d, e', s, h, k⟩ => ?_
  obtain ⟨bb, hh, rfl⟩ := valF_e h
  obtain ⟨⟨y, e1⟩, h1, hA⟩ := bnd hh
  obtain ⟨⟨m, e2⟩, h2, hB⟩ := bnd hA
  obtain ⟨b1, h3, hC⟩ := mpd hB
  cases hC
  exact ⟨B, e, y, e1, s, h1, fun v H1 s1 i1 x1 => ⟨B, e1, m, e2, s1, h2, fun w H2 s2 r2 x2 => ⟨y, m, _, by rw [hK]; exact i1.ext x2, by rw [hK]; exact r2, h3, k _ H2 s2 (Im.bl _) (x1.trans x2)⟩⟩⟩
/-! ### str.count, isinstance -/
theorem chain_count (z : List Nat) (c : Nat) : ∀ (cuts : List Nat) (a f : Nat), StrLaws.ChainG (st z) (st [c]) (st z).length a cuts f → (∀ k, f ≤ k → ¬ StrLaws.At (st z) (st [c]) (st z).length k) → cuts.length = (z.drop a).countP (· == c)
  | [], a, f, h, hn => by
    have e : f = a := h
    subst e
    symm
    show _ = 0
    rw [List.countP_eq_zero]
    intro x hx e
    obtain ⟨j, hj⟩ := List.getElem?_of_mem hx
    rw [List.getElem?_drop] at hj
    have e' : x = c := by simpa using e
    exact hn (f + j) (Nat.le_add_right _ _) ((StrLaws.subAt_one (st z) c (f + j)).mpr (by rw [st_toList, hj, e']))
  | d :: r, a, f, h, hn => by
    obtain ⟨h1, h2, h3, h4⟩ := h
    have ih := chain_count z c r _ f h4 hn
    have hd : z[d]? = some c := by
      have := (StrLaws.subAt_one (st z) c d).mp h2
      rwa [st_toList] at this
    have hdl := (List.getElem?_eq_some_iff.mp hd).1
    have l1 : (st [c]).length = 1 := rfl
    rw [l1] at ih
    have split1 : z.drop a = (z.drop a).take (d - a) ++ (c :: z.drop (d + 1)) := by
      have q : (z.drop a).drop (d - a) = c :: z.drop (d + 1) := by
        rw [List.drop_drop, show a + (d - a) = d by omega, List.drop_eq_getElem_cons hdl]
        rw [List.getElem?_eq_getElem hdl] at hd
        cases hd
        rfl
      rw [← q, List.take_append_drop]
    rw [split1, List.countP_append, List.countP_cons, ← ih]
    have z0 : ((z.drop a).take (d - a)).countP (· == c) = 0 := by
      rw [List.countP_eq_zero]
      intro x hx e
      obtain ⟨j, hj⟩ := List.getElem?_of_mem hx
      have hjl := (List.getElem?_eq_some_iff.mp hj).1
      rw [List.length_take] at hjl
      rw [List.getElem?_take_of_lt (by omega), List.getElem?_drop] at hj
      have e' : x = c := by simpa using e
      exact h3 (a + j) (Nat.le_add_right _ _) (by omega) ((StrLaws.subAt_one (st z) c (a + j)).mpr (by rw [st_toList, hj, e']))
    rw [z0]
    simp
theorem count_one (z : List Nat) (c : Nat) : Txt.count (st z) (st [c]) = (z.countP (· == c) : Nat) := by
  obtain ⟨f, h1, h2⟩ := StrLaws.occ_tight (st z) (st [c]) (Nat.le_refl _)
  have := chain_count z c _ 0 f h1 h2
  rw [List.drop_zero] at this
  unfold Txt.count
  rw [this]
end
end VL
end

section
set_option Elab.async false
set_option linter.all false
set_option maxRecDepth 100000
/-! VLx: count, isinstance, op=, list(text), [..] * n. -/
namespace VL
open PySem PySem.Spec L2 VD
theorem isTrue_cmp (l op r pos whole) (env : PySem.Env) : isTrue (.Compare l [op] [r] pos) env whole = (eval (.Compare l [op] [r] pos) env >>= fun c => holding [c] (truthy c)) := by
  rw [isTrue_Compare1, eval_Compare1]
  simp only [bind_assoc]
theorem t_cmpC {X : Cx} {G : Gx} {a b : Expr} {pos : Pos} {op : CmpOp} {f : FT} (h : PE X (.Compare a [op] [b] pos) (tV G (valF f))) : PT X (.Compare a [op] [b] pos) (tT G f) := by
  refine ⟨fun pins s σ H Q I ⟨B, e, b, e', ss, hf, k⟩ => ?_⟩
  rw [isTrue_cmp]
  refine wpAny_bind (thn (h.run pins s σ H (fun v H1 => v = .bl b ∧ Q b H1) I ⟨B, e, .bl b, e', ss, by unfold valF; rw [hf]; rfl, fun v H' s' i x => ⟨i.bl_, k H' s' x⟩⟩) fun v s1 ⟨x, H1, I1, r1, e1, q1⟩ => ?_)
  subst e1
  cases r1
  exact wpAny_holding (wpAny_truthy_bool ⟨H1, I1, q1⟩)
theorem npL {i : Nat} {l : List Nat} (h : l.contains i = false) : i ∉ l := fun z => by
  rw [List.contains_eq_mem, decide_eq_true z] at h
  cases h
section
variable {X : Cx} {G : Gx} {pos : Pos} {a b c : Expr} {fa fb fc : FE} {fm : FM}
theorem v_scount {apos : Pos} (ho : PE X a (tV G fa)) (ha : PE X b (tV G fb)) (hbase : attributeBase a "count" X.env (eval a X.env) = eval a X.env := by rfl)
    (hfew : ((backTo pos (starEach [b] X.env)).all (fun x => !x.1) && (backToKw pos (keywordEach [] X.env)).all (fun x => x.1.isSome)
      && decide (([b] : List Expr).length + ([] : List Keyword).length + (if ([] : List Keyword).isEmpty then 0 else 1) < 30)) = true := by rfl)
    (hline : (apos.endLine == pos.line) = true := by rfl) (hs : starEach [b] X.env = (false, eval b X.env) :: starEach [] X.env := by rfl) (hplain : (backTo pos (starEach [] X.env)).any (·.1) = false := by rfl) :
    PE X (.Call (.Attribute a "count" apos) [b] [] pos) (tV G (op2 scountD fa fb)) := by
  refine PE.le (pe_bm F.plainAttrs_str F.slot_str_count F.type_str_count mt_count ho (pa_cons ha pa_nil hs) hbase hfew hline hs hplain) fun σ H Q ⟨B, e, d, e', s, h, k⟩ => ?_
  obtain ⟨⟨a1, e1⟩, h1, h⟩ := bnd h
  obtain ⟨⟨b1, e2⟩, h2, h⟩ := bnd h
  obtain ⟨d1, h3, h⟩ := mpd h
  cases h
  have h3 : scountD a1 b1 = some d := h3
  unfold scountD at h3
  split at h3
  · cases h3
    rename_i z c
    refine ⟨B, e, _, e1, s, h1, fun v H1 s1 i1 x1 => ?_⟩
    cases i1.str_
    refine ⟨rfl, B, e1, _, e2, s1, h2, fun w H2 s2 i2 x2 => ?_⟩
    cases i2.str_
    refine ⟨_, _, rfl, rfl, ?_⟩
    rw [count_one]
    exact k _ H2 s2 (Im.int _) (x1.trans x2)
  · cases h3
/-! ### isinstance -/
theorem tyX_im {K : Kx} {H : Hp} {d : D} {v : V} {T : String} (i : Im K H d v) (h : tyD d = some T) : TyX K.fr H v (.type T) := by
  cases d with
  | non => cases h; cases i.non_; exact .base .non
  | bl b => cases h; cases i.bl_; exact .base (.bl b)
  | int z => cases h; cases i.int_; exact .base (.int z)
  | str z => cases h; cases i.str_; exact .base (.str _)
  | tup xs => cases h; obtain ⟨p, vs, rfl, h1, _⟩ := i.tup_; exact .base (.tup h1)
  | lst xs =>
    cases h
    obtain ⟨p, vs, rfl, h1, _⟩ := i.lst_
    rcases h1 with ⟨o, h1⟩ | ⟨o, its, n, h1, h2, _⟩
    · exact .base (.frz h1)
    · exact .kList h1 h2
  | dct _ => cases h
def tysOk (T : String) : Bool := ["NoneType", "bool", "int", "str", "tuple", "list"].all fun S => decide (kitB S T = some (isB S T))
theorem kit_isi {T : String} {d : D} {b : Bool} (hk : tysOk T = true) (h : isiP T d = some b) : ∃ S, tyD d = some S ∧ kitB S T = some b := by
  obtain ⟨S, h1, h2⟩ := mpd h
  refine ⟨S, h1, ?_⟩
  rw [← h2]
  have hm : S ∈ ["NoneType", "bool", "int", "str", "tuple", "list"] := by
    cases d <;> simp [tyD] at h1 <;> subst h1 <;> simp
  exact of_decide_eq_true (List.all_eq_true.mp hk S hm)
theorem boot_isi : bootBuiltins "isinstance" = some (.builtin "isinstance") := by decide +kernel
theorem c_isi {x : Str} {T : String} {p p2 : Pos} (ha : PE X a (tV G fa)) (hK : kxOf X = G.K) (hg : Gl X "isinstance") (hm : X.mg "isinstance" = none) (hgT : Gl X x) (hmT : X.mg x = none) (hbT : bootBuiltins x = some (.type T)) (hkt : tysOk T = true := by decide +kernel) (hn : x ≠ "__name__" := by decide)
    (hd : (x == ("__debug__" : Str)) = false := by decide) (he2 : starEach [.Name x p2] X.env = (false, eval (.Name x p2) X.env) :: starEach [] X.env := by rfl)
    (he : starEach [a, .Name x p2] X.env = (false, eval a X.env) :: starEach [.Name x p2] X.env := by rfl) (hpl : (backTo pos (starEach [.Name x p2] X.env)).any (·.1) = false := by rfl) :
    PE X (.Call (.Name "isinstance" p) [a, .Name x p2] [] pos) (tV G (valF (ts1 (isiP T) fa))) := by
  refine PE.le (pe_callB call_isi hg hm boot_isi (pa_cons ha (pa_cons (pe_bltn (v := .ty T) hgT hmT hbT rfl hn hd) pa_nil he2) he) (he := he) (hpl := hpl)) fun σ H Q ⟨B, e, d, e', s, h, k⟩ => ?_
  obtain ⟨bb, hh, rfl⟩ := valF_e h
  obtain ⟨⟨y, e1⟩, h1, hA⟩ := bnd hh
  obtain ⟨b1, h2, hB⟩ := mpd hA
  cases hB
  obtain ⟨S, h3, h4⟩ := kit_isi hkt h2
  refine ⟨B, e, y, e1, s, h1, fun v H1 s1 i1 x1 => ?_⟩
  refine ⟨v, .ty T, .type S, .type T, _, rfl, .ty T, ?_, kit_ty h4, k _ H1 s1 (Im.bl _) x1⟩
  rw [frK hK]
  exact tyX_im i1 h3
/-! ### name op= e -/
theorem s_augAdd (i : Nat) {x : Str} {p : Pos} (hN : X.N.Nodup) (ha : PE X a (tV G fa)) (np : i ∉ G.Pr) (hi : X.N[i]? = some x := by rfl) (hx : Loc X.env.scope x := by first | exact Or.inl rfl | exact Or.inr rfl)
    (hf : X.fn x = true ∨ X.env.scope.names.lookup x = some .local := by first | exact .inl rfl | exact .inr rfl) : PS X (.AugAssign (.Name x p) .Add a pos) (tS G (augS augAdd i fa)) := by
  refine PS.le (ps_aug hN hi hx ha (OpR.or iop_add iop_add_str) hf) fun D σ H ⟨B, e, fl, e', s, h, k⟩ => ?_
  unfold augS at h
  split at h
  · rename_i d hs
    obtain ⟨⟨y, e1⟩, h1, hA⟩ := bnd h
    obtain ⟨r, h2, hB⟩ := bnd hA
    cases hB
    obtain ⟨v, hv, iv⟩ := s.var hs
    refine ⟨v, hv, B, e, y, e1, s, h1, fun w H1 s1 i1 x1 => ?_⟩
    have h2 : augAdd d y = some r := h2
    unfold augAdd at h2
    split at h2
    · cases h2
      cases iv.int_
      cases i1.int_
      exact .inl ⟨_, _, rfl, rfl, k _ _ ((SS.push s1 (Im.int _)).store' np) x1⟩
    · obtain ⟨hz, rfl⟩ := iff_some h2
      cases iv.str_
      cases i1.str_
      refine .inr ⟨_, _, rfl, rfl, by rw [st_len, st_len, ← big_eq]; exact hz, ?_⟩
      rw [st_app]
      exact k _ _ ((SS.push s1 (Im.str _)).store' np) x1
    · cases h2
  · cases h
theorem s_augSub (i : Nat) {x : Str} {p : Pos} (hN : X.N.Nodup) (ha : PE X a (tV G fa)) (np : i ∉ G.Pr) (hi : X.N[i]? = some x := by rfl) (hx : Loc X.env.scope x := by first | exact Or.inl rfl | exact Or.inr rfl)
    (hf : X.fn x = true ∨ X.env.scope.names.lookup x = some .local := by first | exact .inl rfl | exact .inr rfl) : PS X (.AugAssign (.Name x p) .Sub a pos) (tS G (augS subD i fa)) := by
  refine PS.le (ps_aug hN hi hx ha iop_sub hf) fun D σ H ⟨B, e, fl, e', s, h, k⟩ => ?_
  unfold augS at h
  split at h
  · rename_i d hs
    obtain ⟨⟨y, e1⟩, h1, hA⟩ := bnd h
    obtain ⟨r, h2, hB⟩ := bnd hA
    cases hB
    obtain ⟨v, hv, iv⟩ := s.var hs
    refine ⟨v, hv, B, e, y, e1, s, h1, fun w H1 s1 i1 x1 => ?_⟩
    have h2 : subD d y = some r := h2
    unfold subD at h2
    split at h2
    · cases h2
      cases iv.int_
      cases i1.int_
      exact ⟨_, _, rfl, rfl, k _ _ ((SS.push s1 (Im.int _)).store' np) x1⟩
    · cases h2
  · cases h
/-! ### list(text), [..] * n -/
theorem vals_of : ∀ {xs : List V} {us : List Value}, xs.length = us.length → (∀ (i : Nat) x v, xs[i]? = some x → us[i]? = some v → RelV x v) → Vals xs us
  | [], [], _, _ => .nil
  | [], _ :: _, h, _ => by simp at h
  | _ :: _, [], h, _ => by simp at h
  | x :: xs, u :: us, h, k => .cons (k 0 x u rfl rfl) (vals_of (by simpa using h) fun i y v h1 h2 => k (i + 1) y v (by simpa using h1) (by simpa using h2))
theorem call_list_st (hc : X.calm = true) : CallR X (.type "list") (fun xs H Q => ∃ z : List Nat, xs = [.str (st z)] ∧ z.length ≤ sizeLine ∧ ∀ l, H l = none → Q (.ref l) (upd H l (.lst (z.map fun c => .str (st [c]))))) := by
  intro pins s σ H xs us Q I r h
  obtain ⟨z, rfl, hz, q⟩ := h
  obtain ⟨u, rfl, ⟨t, rfl⟩⟩ := vals1 r
  have hn : H s.heap.objs.size = none := I.hok.fresh (Nat.le_refl _)
  refine call_list_str (I.ok.hd hc) (st z) t (fun h' tk acc' c' hold hS hit => ?_) (by simpa [st] using hz)
  refine ⟨.ref s.heap.objs.size, upd H s.heap.objs.size (.lst (z.map fun c => .str (st [c]))), I.laid (t' := tk) hold (Nat.le_refl _) ⟨by rw [List.length_map]; exact hz, acc'.toList, c', ?_, by simpa using hS⟩, rfl, q _ hn⟩
  obtain ⟨hs1, hs2⟩ := hit
  refine vals_of (by rw [List.length_map, Array.length_toList]; simpa [st] using hs1.symm) fun i x v hx hv => ?_
  have hv : acc'[i]? = some v := by simpa using hv
  obtain ⟨c, u, hc2, rfl⟩ := hs2 i v hv
  rw [List.getElem?_map] at hx
  have hc2 : z[i]? = some c := by simpa [st] using hc2
  rw [hc2] at hx
  cases hx
  exact ⟨u, rfl⟩
theorem m_lstStr {p : Pos} (hc : X.calm = true) (h : PE X a (tV G fa)) (hg : Gl X "list") (hm : X.mg "list" = none) (he : starEach [a] X.env = (false, eval a X.env) :: starEach [] X.env := by rfl) (hpl : (backTo pos (starEach [] X.env)).any (·.1) = false := by rfl) :
    PE X (.Call (.Name "list" p) [a] [] pos) (tM G (lstStr fa)) := by
  refine PE.le (pe_callTy (call_list_st hc) hg hm boot_list (pa_cons h pa_nil he) (he := he) (hpl := hpl)) fun σ H Q ⟨B, e, d, e', s, h, k⟩ => ?_
  obtain ⟨⟨m, e1⟩, h1, hA⟩ := bnd h
  cases m with
  | str z =>
    obtain ⟨hz, hB⟩ := iff_some hA
    cases hB
    refine ⟨B, e, _, e1, s, h1, fun v H1 s1 i1 x1 => ?_⟩
    cases i1.str_
    refine ⟨z, rfl, by rw [← big_eq]; exact hz, fun l hl => k _ _ (s1.new hl ?_) (x1.trans (Ext.new hl))⟩
    have : ∀ z : List Nat, ImL G.K H1 (z.map fun c => D.str [c]) (z.map fun c => V.str (st [c])) := fun z => by
      induction z with
      | nil => exact ImL.nil
      | cons c r ih => exact ImL.cons (Im.str [c]) ih
    exact this z
  | _ => cases hA
theorem m_rep (ha : PE X a (tM G fm)) (hb : PE X b (tV G fb)) : PE X (.BinOp a .Mult b pos) (tM G (repM fm fb)) := by
  refine PE.le (pe_op op_rep ha hb) fun σ H Q ⟨B, e, d, e', s, h, k⟩ => ?_
  obtain ⟨⟨m, e1⟩, h1, hA⟩ := bnd h
  obtain ⟨⟨n, e2⟩, h2, hB⟩ := bnd hA
  cases m with
  | lst xs =>
    cases n with
    | int n =>
      obtain ⟨⟨q1, q2, q3⟩, hC⟩ := iff_some hB
      cases hC
      refine ⟨B, e, _, e1, s, h1, fun v H1 s1 x1 => ⟨_, e1, _, _, s1, h2, fun w H2 s2 i2 x2 => ?_⟩⟩
      obtain ⟨p, vs, rfl, g1, g2, _⟩ := s2.lstAt
      refine ⟨p, n, vs, rfl, i2.int_, g1, by omega, by omega, by rw [← g2.length, ← big_eq]; exact q3, fun p hp => k _ _ (s2.pop.new hp ?_) ((x1.trans x2).trans (Ext.new hp))⟩
      have : ∀ k : Nat, ImL G.K H2 (List.replicate k xs).flatten (List.replicate k vs).flatten := fun k => by
        induction k with
        | zero => exact ImL.nil
        | succ k ih => simpa [List.replicate_succ] using g2.append ih
      exact this _
    | _ => cases hB
  | _ => cases hB
end
end VL
end

section
set_option Elab.async false
set_option linter.all false
set_option maxRecDepth 100000
/-! VLy: defs by name, the end. -/
namespace VL
open PySem PySem.Spec L2 VD
abbrev FnD (K : PySem.W.Frag) (x : Str) (st : Stmt) (f : Addr) (fd : FuncData) : Prop := FunD K x x (defArgs st) (defBody st) (defScope st) [] [] f fd
section
variable {P : Program} {w : World} {K : PySem.W.Frag} {mg : Str → Option Value} {base : Heap} {x qual : Str} {params : Arguments} {fbody : List Stmt} {scope : Scope} {f : Addr} {fd : FuncData}
theorem funD_eq (F : FunD K x qual params fbody scope [] [] f fd) : ∃ (oc : Value) (od : Option Addr) (dV kV doc pm : Value) (an : Option Addr) (cdv ct : Value) (osl : Array (Option Value)),
    fd = PySem.W.fnOf x qual params fbody scope dV kV doc pm an cdv ct ∧ K.lookup f = some ⟨oc, od, .func fd, osl⟩ ∧ PySem.W.codeIn K cdv qual = true ∧ fd.code = cdv := by
  obtain ⟨oc, od, dV, kV, doc, pm, an, cdv, ct, osl, rfl, lk, hcd, _, _⟩ := F.ex
  exact ⟨oc, od, dV, kV, doc, pm, an, cdv, ct, osl, rfl, lk, hcd, rfl⟩
theorem fn_end {N ps : List Str} {k : Nat} {T : List Addr} {Pr : List Nat} {body : FS} (F : FunD K x qual params fbody scope [] [] f fd) (S : FnScope N ps scope)
    (hb : ∀ (A : Around) (outer : List PySem.Env) (s : Shared) (H : Hp) (E : XK), Room k (A.deeper (PyProof.Rows.envOfC qual scope s.heap.objs.size f fd.code)) →
      PSs (cxOf CX0 P w K mg base N qual scope f fd.code A outer s H E).nox fbody (tS ⟨⟨K, P, w⟩, T, Pr⟩ body)) : FnOk P w K mg base CX0 (k + 1) f fd ps (spV ⟨K, P, w⟩ T Pr ps.length (defF N.length body)) := by
  obtain ⟨oc, od, dV, kV, doc, pm, an, cdv, ct, osl, e, lk, hcd, hc⟩ := funD_eq F
  have len : ∀ vs H Q E, spV ⟨K, P, w⟩ T Pr ps.length (defF N.length body) vs H Q E → vs.length = ps.length := fun vs H Q E h => by
    obtain ⟨_, _, _, _, _, _, l, _⟩ := h
    exact l
  rw [hc] at hb
  subst e
  refine fn_of lk hcd S len fun A outer s H vs Q E hr h => ?_
  have hb2 := hb A outer s H E hr
  refine ⟨_, hb2.nox, ?_⟩
  obtain ⟨ms, r, ms', as, hF, l1, l2, h1, h2, h3, h4, k1⟩ := h
  unfold defF at hF
  obtain ⟨⟨fl, e'⟩, hbody, hfin⟩ := bnd hF
  have s0 : SS ⟨⟨K, P, w⟩, T, Pr⟩ { A := as, H0 := H, fx := fxOf 0 ms vs, ts := [] } (ms.map some ++ List.replicate (N.length - ms.length) none) (L2.start N vs) H := by
    refine ⟨⟨as, [], ?_, rfl, by simpa using h2, fun a ha => .inl (by simpa using ha)⟩, Keep.refl _ _, h4, fun p hp => ?_⟩
    · unfold L2.start
      rw [l1, ← l2]
      exact slR_none _ h1
    · obtain ⟨⟨i, e1, e2⟩, h5⟩ := fxOf_ok (Pr := Pr) (k := 0) (fun i m hm => by simpa using h3 i m hm) p hp
      refine ⟨?_, h5⟩
      unfold L2.start
      rw [e1, Nat.zero_add]
      obtain ⟨hi, _⟩ := List.getElem?_eq_some_iff.mp e2
      rw [List.getElem?_append_left (by simpa using hi), List.getElem?_map, e2]
      rfl
  -- the end
  have fin : ∀ {σ' : L2.St} {H' : Hp} {m : M} {v : V}, SS ⟨⟨K, P, w⟩, T, Pr⟩ (Bx.put { A := as, H0 := H, fx := fxOf 0 ms vs, ts := [] } m v) e' σ' H' → (backM ms e').map (fun l => (m, l)) = some (r, ms') → Q v H' := fun {σ' H' m v} s' hm => by
    obtain ⟨l, hb1, hb2⟩ := mpd hm
    cases hb2
    obtain ⟨as1, bs1, g1, g2, g3, g4⟩ := s'.sl
    obtain ⟨b1, b2, rfl, g5, g6⟩ := g2
    have g6 : b2 = [] := g6
    subst g6
    have ov : OwnV ms vs σ' := ownV_of (σ0 := []) (k := 0) rfl fun p hp => (s'.fx p hp).1
    obtain ⟨as', c1, c2⟩ := back_ok s'.kp.ext h1 g1 ov hb1
    refine k1 v H' s'.kp s'.tb ⟨as', b1, c1, g5, ?_, fun a ha => ?_⟩
    · rw [List.append_nil] at g3
      exact g3.sublist (List.Sublist.append_right c2 _)
    · refine g4 a ?_
      rcases List.mem_append.mp ha with z | z
      · exact List.mem_append_left _ (c2.subset z)
      · exact List.mem_append_right _ (by simpa using z)
  refine ⟨_, _, fl, e', s0, hbody, ?_⟩
  cases fl with
  | nx => exact fun σ' H' s' _ => fin (m := .imm .non) (v := .non) (SS.push s' Im.non) hfin
  | bk => cases hfin
  | ct => cases hfin
  | rt m => exact fun σ' v H' s' _ => fin s' hfin
end
end VL
end

section
set_option Elab.async false
set_option linter.all false
set_option maxRecDepth 100000
/-! VLz: calls by name, the end of a law. -/
namespace VL
open PySem PySem.Spec L2 VD
structure Df (κ : Kx) (mg : Str → Option Value) (base : Heap) (T : List Addr) (k : Nat) (x : Str) (Pr : List Nat) (n : Nat) (F : Fn) : Prop where
  ex : ∃ (f : Addr) (fd : FuncData) (ps : List Str), FnOk κ.P κ.w κ.fr mg base CX0 k f fd ps (spV κ T Pr n F) ∧ mg x = some (.ref f) ∧ PySem.W.keepIn κ.fr (.ref f) = true ∧ Binds κ.fr fd ps []
section
variable {X : Cx} {G : Gx} {pos : Pos}
theorem m_callD {k : Nat} {x : Str} {p : Pos} {e : Expr} {es : List Expr} {as : List VD.Arg} {F : Fn} {Pr : List Nat} {n : Nat}
    (Dd : Df G.K X.mg X.base G.T k x Pr n F) (hK : kxOf X = G.K) (hr : Room k X.A) (ha : PA X (e :: es) (tA G as)) (hg : Gl X x := by rfl) (hn : as.length = n := by rfl) (hok : argsOk Pr 0 as = true := by rfl) (hdb : (x == ("__debug__" : Str)) = false := by decide) (he : starEach (e :: es) X.env = (false, eval e X.env) :: starEach es X.env := by rfl) (hpl : (backTo pos (starEach es X.env)).any (·.1) = false := by rfl) :
    PE X (.Call (.Name x p) (e :: es) [] pos) (tM G (callM F as)) := by
  obtain ⟨f, fd, ps, h1, h2, h3, h4⟩ := Dd.ex
  obtain ⟨⟨fr, P, w⟩, T, Pr'⟩ := G
  cases hK
  exact m_call h1 hr hg h2 h3 h4 ha hn hok hdb he hpl
theorem v_callD {k : Nat} {x : Str} {p : Pos} {e : Expr} {es : List Expr} {as : List VD.Arg} {F : Fn} {Pr : List Nat} {n : Nat}
    (Dd : Df G.K X.mg X.base G.T k x Pr n F) (hK : kxOf X = G.K) (hr : Room k X.A) (ha : PA X (e :: es) (tA G as)) (hg : Gl X x := by rfl) (hn : as.length = n := by rfl) (hok : argsOk Pr 0 as = true := by rfl) (hdb : (x == ("__debug__" : Str)) = false := by decide) (he : starEach (e :: es) X.env = (false, eval e X.env) :: starEach es X.env := by rfl) (hpl : (backTo pos (starEach es X.env)).any (·.1) = false := by rfl) :
    PE X (.Call (.Name x p) (e :: es) [] pos) (tV G (callF F as)) := v_of_m (m_callD Dd hK hr ha hg hn hok hdb he hpl)
end
section
variable {P : Program} {w : World} {K : PySem.W.Frag} {mg : Str → Option Value} {base : Heap} {T : List Addr}
/-- a def, from its body -/
theorem df_mk {x : Str} {st : Stmt} {f : Addr} {fd : FuncData} {N ps : List Str} {k : Nat} {Pr : List Nat} {body : FS} (F : FnD K x st f fd) (hm : mg x = some (.ref f)) (S : FnScope N ps (defScope st))
    (hbi : ∀ (kV doc pm : Value) (an : Option Addr) (cdv ct : Value) (us : List Value), us.length = ps.length → bindArgs (PySem.W.fnOf x x (defArgs st) (defBody st) (defScope st) .none kV doc pm an cdv ct) ⟨us, []⟩ = pure (ps.zip us))
    (hb : ∀ (A : Around) (outer : List PySem.Env) (s : Shared) (H : Hp) (E : XK), Room k (A.deeper (PyProof.Rows.envOfC x (defScope st) s.heap.objs.size f fd.code)) →
      PSs (cxOf CX0 P w K mg base N x (defScope st) f fd.code A outer s H E).nox (defBody st) (tS ⟨⟨K, P, w⟩, T, Pr⟩ body)) : Df ⟨K, P, w⟩ mg base T (k + 1) x Pr ps.length (defF N.length body) :=
  ⟨f, fd, ps, fn_end F S hb, hm, F.kp, FunD.bindsN F hbi⟩
/-- no promise yet: the bottom of a recursion -/
theorem df_none {x : Str} {f : Addr} {fd : FuncData} {st : Stmt} {n : Nat} {Pr : List Nat} {ps : List Str} (F : FnD K x st f fd) (hm : mg x = some (.ref f))
    (hbi : ∀ (kV doc pm : Value) (an : Option Addr) (cdv ct : Value) (us : List Value), us.length = ps.length → bindArgs (PySem.W.fnOf x x (defArgs st) (defBody st) (defScope st) .none kV doc pm an cdv ct) ⟨us, []⟩ = pure (ps.zip us)) (k : Nat) :
    Df ⟨K, P, w⟩ mg base T k x Pr n (fun _ => none) :=
  ⟨f, fd, ps, ⟨fun vs H Q E ⟨_, _, _, _, h, _⟩ => (by cases h), fun _ _ _ _ _ _ _ _ _ _ _ _ _ ⟨_, _, _, _, h, _⟩ => (by cases h)⟩, hm, F.kp, FunD.bindsN F hbi⟩
end
theorem imL_ints {κ : Kx} {H : Hp} : ∀ ns : List Int, ImL κ H (ns.map D.int) (ns.map V.int)
  | [] => ImL.nil
  | n :: r => ImL.cons (Im.int n) (imL_ints r)
/-- what the law's function answers -/
def LawT (F : Fn) (ns : List Int) : Prop := (∃ ms, F [.imm (.lst (ns.map .int))] = some (.imm (.bl true), ms)) ∧ ∃ ms, F [.lst (ns.map .int)] = some (.imm (.bl true), ms)
theorem sp_law {κ : Kx} {T : List Addr} {F : Fn} {H : Hp} {a : Addr} {ns : List Int} (hT : ∀ p ∈ T, H p = some (.tbl #[])) (hS : SqL κ.fr H a (ns.map V.int)) (hl : LawT F ns) : spV κ T [0] 1 F [.ref a] H (fun v _ => v = .bl true) fun _ _ _ => False := by
  have fin : ∀ (ms ms' : List M) (as : List Addr), F ms = some (.imm (.bl true), ms') → ms.length = 1 → SlR κ H (ms.map some) ([V.ref a].map some) as → as.Nodup → spV κ T [0] 1 F [.ref a] H (fun v _ => v = .bl true) fun _ _ _ => False := fun ms ms' as h1 h2 h3 h4 =>
    ⟨ms, .imm (.bl true), ms', as, h1, h2, rfl, h3, h4, fun i m hm => .inr (by
      have := (List.getElem?_eq_some_iff.mp hm).1
      have : i = 0 := by omega
      simp [this]), fun p hp => ⟨#[], hT p hp, trivial⟩, fun v H' _ _ ⟨_, bs, _, ⟨_, i⟩, _, _⟩ => i.bl_⟩
  obtain ⟨⟨m1, e1⟩, m2, e2⟩ := hl
  rcases hS with (h | ⟨o, h⟩) | h
  · exact fin _ _ [a] e2 rfl ⟨.ref a, [], [a], [], rfl, rfl, ⟨a, _, rfl, rfl, h, imL_ints ns⟩, rfl, rfl⟩ (by simp)
  · exact fin _ _ [] e1 rfl ⟨.ref a, [], [], [], rfl, rfl, ⟨rfl, by simp only [Im]; exact ⟨a, _, rfl, .inl ⟨o, h⟩, imL_ints ns⟩⟩, rfl, rfl⟩ (by simp)
  · exact fin _ _ [] e1 rfl ⟨.ref a, [], [], [], rfl, rfl, ⟨rfl, by simp only [Im]; exact ⟨a, _, rfl, .inr h, imL_ints ns⟩⟩, rfl, rfl⟩ (by simp)
theorem law_at {l : PySem.W.OpenLaw} {w : World} {K : PySem.W.Frag} {mg : Str → Option Value} {h : Heap} {k : Nat} {fl : List He.Fa} {fn : List He.DefD} {ts : List He.Tab} {tf : List He.Defn} {ex : PySem.W.Frag → Bool} {f : Addr} {st : Stmt} {fd : FuncData} {F : Fn}
    (c : He.SaysX fl fn ts tf ex w h K) (Fd : FnD K "law" st f fd) (X : K.In h)
    (hbi : ∀ (kV doc pm : Value) (an : Option Addr) (cdv ct : Value) (us : List Value), us.length = 1 → bindArgs (PySem.W.fnOf "law" "law" (defArgs st) (defBody st) (defScope st) .none kV doc pm an cdv ct) ⟨us, []⟩ = pure ((["script"] : List Str).zip us))
    (hF : ∀ base : Heap, K.In base → base.Ns mainGlobals mg → (∀ p ∈ tf, GxR.TabB base mg (He.cT K p).1 (He.cT K p).2) → FnOk l.prog w K mg base CX0 k f fd ["script"] (spV ⟨K, l.prog, w⟩ (tf.map fun p => (He.cT K p).2) [0] 1 F))
    (hl : ∀ ns : List Int, ns.length ≤ 63 → (∀ z ∈ ns, Builtin.Int.intBits z ≤ 1048576) → LawT F ns) : LamX.LawAtS l w K CX0 k 63 "script" mg f h := by
  refine ⟨fd, tf.map (He.cT K), spV ⟨K, l.prog, w⟩ (tf.map fun p => (He.cT K p).2) [0] 1 F, fun p hp => ?_, fun p hp => ?_, fun p hp => ?_, fun s u => ?_, fun H a ns hn hb hT hS => ?_, fun base hi hn hT => ?_⟩
  · obtain ⟨q, hq, rfl⟩ := List.mem_map.mp hp
    exact c.empty q hq
  · obtain ⟨q, hq, rfl⟩ := List.mem_map.mp hp
    exact c.out q hq
  · obtain ⟨q, hq, rfl⟩ := List.mem_map.mp hp
    exact PySem.W.codeHd_of_K X (c.hd q hq)
  · exact FunD.bindsA (ps := ["script"]) Fd hbi s [u] rfl
  · refine sp_law (fun p hp => ?_) hS (hl ns hn hb)
    obtain ⟨q, hq, rfl⟩ := List.mem_map.mp hp
    exact hT _ (List.mem_map_of_mem hq)
  · exact hF base hi hn fun p hp => by
      have := hT _ (List.mem_map_of_mem (f := He.cT K) hp)
      exact ⟨this.code, this.bm, this.gP⟩
end VL
namespace VL
open PySem PySem.Spec L2 VD
theorem Df.up {κ : Kx} {mg : Str → Option Value} {base : Heap} {T : List Addr} {j k : Nat} {x : Str} {Pr : List Nat} {n : Nat} {F : Fn} (d : Df κ mg base T j x Pr n F) (h : j ≤ k) : Df κ mg base T k x Pr n F := by
  obtain ⟨f, fd, ps, h1, h2⟩ := d.ex
  exact ⟨f, fd, ps, h1.mono h, h2⟩
theorem code_of {K : PySem.W.Frag} {p : Str × Option Str} {x : Str} {st : Stmt} {fd : FuncData} (F : FnD K x st (He.fAd K p) fd) : fd.code = .ref (He.cT K p).1 := by
  obtain ⟨oc, od, dV, kV, doc, pm, an, cdv, ct, osl, e, lk, hcd, hc⟩ := funD_eq F
  obtain ⟨c, e2⟩ := He.codeIn_ref hcd
  rw [hc, e2]
  show _ = Value.ref (He.codeOf K p)
  rw [He.codeOf_eq lk (hc.trans e2)]
/-- a look at the names of a def's scope -/
def scW (N P : List Str) (sc : Scope) : Bool :=
  decide (sc.kind = .function) && !sc.isCoroutine && !sc.isGenerator && decide N.Nodup && decide (N.take P.length = P) && P.all (fun x => decide (sc.names.lookup x = some .local) || decide (sc.names.lookup x = some .cell)) && sc.names.all (fun y => !decide (y.2 = .free))
theorem fnScope_byW {N P : List Str} {sc : Scope} (h : scW N P sc = true) : FnScope N P sc := by
  unfold scW at h
  simp only [Bool.and_eq_true, Bool.not_eq_true', decide_eq_true_eq, List.all_eq_true, Bool.or_eq_true, decide_eq_false_iff_not] at h
  obtain ⟨⟨⟨⟨⟨⟨h1, h2⟩, h3⟩, h4⟩, h5⟩, h6⟩, h7⟩ := h
  exact ⟨h1, h2, h3, h4, h5, h6, h7⟩
theorem df_law {P : Program} {w : World} {K : PySem.W.Frag} {mg : Str → Option Value} {base : Heap} {T : List Addr} {k : Nat} {st : Stmt} {f : Addr} {fd : FuncData} {F : Fn} (Fd : FnD K "law" st f fd) (hm : mg "law" = some (.ref f))
    (d : FnOk P w K mg base CX0 k f fd ["script"] (spV ⟨K, P, w⟩ T [0] 1 F)) : FnOk P w K mg base CX0 k f fd ["script"] (spV ⟨K, P, w⟩ T [0] 1 F) := d
/-- from here on: what is owned now may change, all else stays -/
theorem SS.shift {G : Gx} {B : Bx} {e : En} {σ : L2.St} {H : Hp} {p : Addr} {o : HO} (s : SS G B e σ H) (n : H p = none) (no : ∀ ps, o ≠ .tbl ps) : ∃ A', p ∉ A' ∧ SS G { B with A := A', H0 := upd H p o } e σ (upd H p o) ∧ ∀ e' σ' H', SS G { B with A := A', H0 := upd H p o } e' σ' H' → H' p = some o ∧ ∀ m o', Mut (some o) → RM G.K (upd H' p o') m (.ref p) [p] → SS G (B.put m (.ref p)) e' σ' (upd H' p o') := by
  obtain ⟨as, bs, h1, h2, h3, h4⟩ := s.sl
  have own : ∀ a ∈ as ++ bs, a ≠ p := fun a ha => by
    rcases List.mem_append.mp ha with z | z
    · obtain ⟨o, h, _⟩ := h1.own a z
      exact ne_of_none h n
    · obtain ⟨o, h, _⟩ := h2.own a z
      exact ne_of_none h n
  have s1 := s.grow (Grow.new (o := o) n)
  have pn : p ∉ as ++ bs := fun z => own p z rfl
  have k1 : ∀ a ∈ as, upd H p o a = H a := fun a ha => upd_ne (own a (List.mem_append_left _ ha))
  have k2 : ∀ a ∈ bs, upd H p o a = H a := fun a ha => upd_ne (own a (List.mem_append_right _ ha))
  have g : Grow H (upd H p o) := Grow.new n
  refine ⟨as ++ bs, pn, ⟨⟨as, bs, h1.keep g.ext k1, h2.keep g.ext k2, h3, fun a ha => .inl ha⟩, Keep.refl _ _, s1.tb, s.fx⟩, fun e' σ' H' s' => ⟨s'.kp.same p o upd_same pn no, fun m o' mu rm => ?_⟩⟩
  obtain ⟨as', bs', g1, g2, g3, g4⟩ := s'.sl
  have hp : H' p = some o := s'.kp.same p o upd_same pn no
  have old : ∀ a, upd H p o a = none → B.H0 a = none := fun a z => by
    cases q : B.H0 a with
    | none => rfl
    | some u => exact absurd z (s1.kp.dom a (by rw [q]; simp))
  have p0 : B.H0 p = none := by
    cases q : B.H0 p with
    | none => rfl
    | some u => exact absurd n (s.kp.dom p (by rw [q]; simp))
  have ne : ∀ a ∈ as' ++ bs', a ≠ p := fun a ha e => by
    subst e
    rcases g4 a ha with z | z
    · exact pn z
    · have z : upd H a o a = none := z
      rw [upd_same] at z; cases z
  have x : Ext H' (upd H' p o') := Ext.chg hp mu
  have kp := (Keep.call h4 s1.kp s'.kp).fresh (o := o') (.inr p0) hp mu
  have pm : (as' ++ ([p] ++ bs')).Perm (p :: (as' ++ bs')) := by
    simpa using List.perm_middle (l₁ := as') (a := p) (l₂ := bs')
  refine ⟨⟨as', [p] ++ bs', g1.keep x fun a ha => upd_ne (ne a (List.mem_append_left _ ha)), ⟨[p], bs', rfl, rm, g2.keep x fun a ha => upd_ne (ne a (List.mem_append_right _ ha))⟩, pm.nodup_iff.mpr (List.nodup_cons.mpr ⟨fun z => ne p z rfl, g3⟩), fun a ha => ?_⟩, kp, fun P hP => (Keep.chg (A := [p]) (by simp) hp mu).tab P (s'.tb P hP), s'.fx⟩
  rcases List.mem_cons.mp (pm.mem_iff.mp ha) with z | z
  · exact .inr (by rw [z]; exact p0)
  · rcases g4 a z with z | z
    · exact h4 a z
    · exact .inr (old a z)
section
variable {X : Cx} {G : Gx} {pos : Pos} {a b : Expr} {fa fb : FE}
theorem m_done1 (ha : PE X a (tV G fa)) (hb : PE X b (tV G fb)) : PE X (.Dict [some a] [b] pos) (tM G (done1 fa fb)) := by
  refine PE.le (pe_disp (pps_cons ha hb pps_nil) rfl rfl (by simp) (by simp)) fun σ H Q ⟨B, e, m, e', s, h, k⟩ p hp => ?_
  obtain ⟨⟨kd, e1⟩, h1, hA⟩ := bnd h
  obtain ⟨⟨d, e2⟩, h2, hB⟩ := bnd hA
  obtain ⟨hf, hC⟩ := iff_some hB
  cases hC
  obtain ⟨kk, hkk⟩ := flatK_of hf
  obtain ⟨A', _, s1, back⟩ := s.shift (o := .dK []) hp (fun ps z => by cases z)
  refine ⟨_, e, kd, e1, s1, h1, fun v H1 s2 i1 x1 => ⟨_, e1, d, e2, s2, h2, fun w H2 s3 i2 x2 => ?_⟩⟩
  obtain ⟨hp2, fin⟩ := back _ _ _ s3
  have ev := flatK_im (i1.ext x2) hkk
  refine ⟨hp2, [(kk, w)], ?_, by simp, ?_⟩
  · rw [ev]
    rfl
  · have x3 : Ext H2 (upd H2 p (.dK (mergeK [] [(kk, w)]))) := Ext.chg hp2 trivial
    refine k _ _ (fin _ _ trivial ⟨p, _, [(kV kk, w)], rfl, rfl, upd_same, .flat [(kk, w)] (by simp [hkk]), ?_⟩) (((Ext.new hp).trans (x1.trans x2)).trans x3)
    simp only [ImK]
    exact ⟨_, _, [], rfl, by rw [← ev]; exact (i1.ext x2).ext x3, i2.ext x3, rfl⟩
end
end VL
end

section
/-! VD4: dict comprehensions, more of what texts and lists do. -/
set_option linter.all false
namespace VD
/-- {k: x for ..} -/
def dcL (g : FG) (t : FT) (k x : FE) (own : List Nat) : List D → List (D × D) → En → Option (List (D × D) × En)
  | [], acc, e => some (acc, e)
  | d :: ds, acc, e => (g d e).bind fun e1 => (t e1).bind fun p => if p.1 = true then (k p.2).bind fun q => (x q.2).bind fun r => if keyOk acc q.1 = true ∧ acc.length < big then dcL g t k x own ds (putD acc q.1 r.1) (wipeE r.2 own) else none else dcL g t k x own ds acc (wipeE p.2 own)
def dcM (g : FG) (it : FI) (t : FT) (k x : FE) (own : List Nat) : FM := fun e => (it e).bind fun p => (dcL g t k x own p.1 [] (wipeE p.2 own)).bind fun q => some (.dct q.1, backE p.2 q.2 own)
/-- x.index(c), x.index(c, i): texts, one sign -/
def sidxD : D → D → Option D
  | .str z, .str [c] => if c ∈ z then some (.int (z.idxOf c)) else none
  | _, _ => none
def sidx2F (a b k : FE) : FE := fun e => (a e).bind fun p => (b p.2).bind fun q => (k q.2).bind fun r => match p.1, q.1, r.1 with
  | .str z, .str [c], .int i => if 0 ≤ i ∧ c ∈ z.drop i.toNat then some (.int (i.toNat + (z.drop i.toNat).idxOf c : Nat), r.2) else none
  | _, _, _ => none
/-- sep.join(a list or a tuple) -/
def joinRF (a : FE) (f : FM) : FE := fun e => (a e).bind fun p => (f p.2).bind fun q => match p.1 with
  | .str sep => (seqItems q.1).bind fun ds => (joinL sep ds).map fun z => (.str z, q.2)
  | _ => none
end VD
end

section
set_option Elab.async false
set_option linter.all false
set_option maxRecDepth 100000
/-! VMa: dict comprehensions, keys of both kinds. -/
namespace VL
open PySem PySem.Spec L2 VD
section
variable {X : Cx} {pins : List (Addr × Obj)} {σ : L2.St} {H : Hp} {s : Shared}
variable {a : Addr} {kvs : List (D × D)} {u : HO} {ks : List (V × V)} {k : D} {y : V} {uv : Value} {A : Around} {E : Value → Shared → Prop}
/-- a comprehension's store into its dict -/
theorem dk_put {d : D} {v : V} {vv : Value} {Q : Unit → Shared → Prop} (hu : A.units + 100 < cLine) (I : Inv X pins σ H s) (g : DK X H a kvs u ks) (hm : H a = some u) (hk : keyOk kvs k = true) (hz : kvs.length < sizeLine) (i : Im (kxOf X) H k y) (ry : RelV y uv) (id : Im (kxOf X) H d v) (rv : RelV v vv)
    (h : ∀ u' ks' s', OwnO u' → Inv X pins σ (upd H a u') s' → Sh (kxOf X) a (putD kvs k d) u' ks' → ImK (kxOf X) (upd H a u') (putD kvs k d) ks' → Q () s') :
    wpAny (model X.prog X.w) A (dictSet a uv vv) Q E s := by
  have mu : Mut (H a) := by rw [hm]; exact g.sh.own.mut
  have xe : ∀ u', Ext H (upd H a u') := fun u' => Ext.chg hm g.sh.own.mut
  have lenE : ∀ {kvs : List (D × D)} {ks : List (V × V)}, ImK (kxOf X) H kvs ks → kvs.length = ks.length := by
    intro kvs
    induction kvs with
    | nil => intro ks h; simp only [ImK] at h; subst h; rfl
    | cons p r ih =>
      intro ks h
      obtain ⟨kd, dd⟩ := p
      simp only [ImK] at h
      obtain ⟨u', v', vr, rfl, i1, i2, i3⟩ := h
      simp [ih i3]
  rcases keyOk_cases hk with ⟨h1, h2⟩ | ⟨h1, h2⟩
  · obtain ⟨l, vs, v0⟩ := viewA I g.rd g.sh g.im h2
    obtain ⟨kk, hkk⟩ := flatK_of h1
    have ey := flatK_im i hkk
    subst ey
    have hzl : l.length < sizeLine := by
      have := lenE v0.im
      rw [List.length_map] at this
      omega
    have hz' : vs.length ≤ sizeLine := by rw [← v0.rel.length]; omega
    have hl : (putK l kk v).length ≤ sizeLine := by have := length_putK l kk v; omega
    refine wpAny_dictSet_pairs (hsz := hz') (kV_is ry) v0.dct fun h' dd' hs => ?_
    have he : ∃ q, h'.get? a = some q := let ⟨q, _, _, hq, _⟩ := dd'; ⟨q, hq⟩
    obtain ⟨p1, p2⟩ := VA.put hkk id i v0.keys v0.im
    exact h (.dK (putK l kk v)) _ _ trivial (d_write I mu hs he (dk_new hl v0.sys (v0.rel.put kk rv) dd')) (.flat _ p1) (p2.ext (xe _))
  · obtain ⟨xs, ks', v0⟩ := viewB I g.rd g.sh g.im h2
    obtain ⟨b, rfl⟩ := im_tupK i h1
    cases ry
    have hx : xs.length = kvs.length := by
      have := congrArg List.length v0.keys
      simpa using this
    have hz' : xs.length ≤ sizeLine := by omega
    refine wpAny_dictSet_heap (hsz := hz') (show A.units + 8 < cLine by omega) (key_nested I i h1) v0.dct fun h' dd' hs => ?_
    obtain ⟨ks2, q1, q2, q3⟩ := VB.put h1 id rv i h2 v0.keys v0.rel v0.im
    obtain ⟨o, es, ep, ho, g2, g3, g4, _, g5⟩ := dd'
    have hl : (storedH xs (nk k) b vv).length ≤ sizeLine := by
      have e1 := congrArg List.length q1
      simp only [List.length_map] at e1
      rw [e1]
      have := putD_len kvs k d
      omega
    have ptup : ∀ p ∈ putD kvs k d, ∃ ds, p.1 = .tup ds := by
      intro p hp
      unfold putD at hp
      split at hp
      · obtain ⟨q, hq, rfl⟩ := List.mem_map.mp hp
        obtain ⟨_, ds, e1⟩ := tupK_hsh (List.all_eq_true.mp h2 q hq)
        split
        · exact ⟨ds, e1⟩
        · exact ⟨ds, e1⟩
      · rcases List.mem_append.mp hp with hp | hp
        · obtain ⟨_, ds, e1⟩ := tupK_hsh (List.all_eq_true.mp h2 p hp)
          exact ⟨ds, e1⟩
        · rw [List.mem_singleton.mp hp]
          exact (tupK_hsh h1).2
    refine h (dtO X.prog X.w a (storedH xs (nk k) b vv)) ks2 _ trivial (d_write I mu hs ⟨o, ho⟩ ⟨⟨hl, v0.sys, o, es, ep, ho, g2, g3, g4, g5⟩, ⟨o, ho⟩, fun h1 h2 hp hk => ?_⟩) (.tups _ _ q1 ptup q2) (q3.ext (xe _))
    obtain ⟨w1, w2, o', es', ep', ho', r⟩ := hp
    exact ⟨w1, w2, o', es', ep', hk o' ho', r⟩
end
/-- what one turn of {k: x for ..} stores -/
def stK (K : Kx) (p : Addr) (y z : V) (H : Hp) (Nx : Hp → Prop) : Prop := ∃ kvs u ks k d, Rd H p u ∧ Sh K p kvs u ks ∧ ImK K H kvs ks ∧ H p = some u ∧ keyOk kvs k = true ∧ kvs.length < sizeLine ∧ Im K H k y ∧ Im K H d z ∧
  ∀ u' ks', OwnO u' → Sh K p (putD kvs k d) u' ks' → ImK K (upd H p u') (putD kvs k d) ks' → Nx (upd H p u')
def stepK (K : Kx) (g : TG) (tt : TT) (tk tv : TE) (vs : List Nat) (σ : L2.St) (p : Addr) (x : V) (H : Hp) (Nx : Hp → Prop) : Prop :=
  g x (wipe σ vs) H fun σ2 H2 => wipe σ2 vs = wipe σ vs ∧ tt σ2 H2 fun b H3 => if b = true then tk σ2 H3 fun y H4 => tv σ2 H4 fun z H5 => stK K p y z H5 Nx else Nx H3
def tDk (K : Kx) (wi : TI) (g : TG) (tt : TT) (tk tv : TE) (vs : List Nat) : TE := fun σ H Q => wi σ H fun J H1 => ∀ p, H1 p = none → ∃ W : Nat → Nat → Hp → Prop, (∃ m, W 0 m (upd H1 p (.dK []))) ∧
  ∀ i m H, W i m H → (J.stop i H ∧ Q (.ref p) H) ∨ (J.go i H ∧ ∃ Nx : Hp → Prop, (∀ H', Nx H' → ∃ m', m' < m ∧ W (i + 1) m' H') ∧ ∀ x H', J.yld i H x H' → stepK K g tt tk tv vs σ p x H' Nx)
section
variable {X : Cx}
theorem dk_core {kx vx tg iter : Expr} {ifs : List Expr} {scope : Scope} {own : List (Str × Nat)} {pos : Pos} {wi : TI} {g : TG} {tt : TT} {tk tv : TE} {pos' : Pos} {pins : List (Addr × Obj)} {s : Shared} {σ : L2.St} {H : Hp} {Q : VK} {use : Option (Value → Sem Unit)} {Qf : Value → Shared → Prop} (cm : X.calm = true) (nd : X.N.Nodup) (hr : Room 0 X.A) (I : Inv X pins σ H s) (hi : PI X tg iter wi) (ok : BlkOk X.N X.env.scope scope own)
    (hg : ∀ (t : Shared) (J : Hp) (C : Addr) (cl : List (Str × Addr)) (fp : List Addr), PG (X.blk t J scope (compEnvC scope cl C X.env) fp) tg g)
    (ht : ∀ (t : Shared) (J : Hp) (C : Addr) (cl : List (Str × Addr)) (fp : List Addr), PTs (X.blk t J scope (compEnvC scope cl C X.env) fp) ifs tt)
    (hk : ∀ (t : Shared) (J : Hp) (C : Addr) (cl : List (Str × Addr)) (fp : List Addr), PE (X.blk t J scope (compEnvC scope cl C X.env) fp) kx tk)
    (hv : ∀ (t : Shared) (J : Hp) (C : Addr) (cl : List (Str × Addr)) (fp : List Addr), PE (X.blk t J scope (compEnvC scope cl C X.env) fp) vx tv) (hs : ∀ x, foldedSetIterable iter X.env x = pure x) (h : tDk (kxOf X) wi g tt tk tv (own.map (·.2)) σ H Q)
    (hRR : ∀ p C t m J, Inv X pins σ J t → Q (.ref p) J → t.heap.Ns C m → FpOk X pins J C → compPost (model X.prog X.w) X.A X.xe use Qf (.ref p) C (.ok .next) t) :
    wpAny (model X.prog X.w) X.A (comprehension (.DictComp kx vx [⟨tg, iter, ifs, 0⟩] scope pos) scope X.env pos' newDict false (eval iter X.env) use) Qf X.xe s := by
  have fre : ∀ z ∈ scope.names, z.2 = .free → ∃ c, X.env.cells.lookup z.1 = some c := fun z hz e => (ok.free z hz e).elim (fun q => I.ok.has _ (.inl q)) fun q => I.ok.has _ (.inr q)
  refine wpAny_comprehension_free (use := use) rfl hs (closure_ok fre) ok.kind (fun z hz e => by rw [ok.uniq z hz, e]) (thn (hi.run pins s σ H _ I h) fun _ _ e0 => thn e0 fun _ t2 e2 => ?_)
  obtain ⟨ia, fp, tn, J, J2, eq, I2, T, a2, f2, q⟩ := e2
  subst eq
  refine wpAny_newObj_type (newEnv_comp ?_)
  generalize hp : t2.heap.objs.size = p
  obtain ⟨W, ⟨m0, w0⟩, turn⟩ := q p (I2.hok.fresh (Nat.le_of_eq hp))
  generalize ht3 : ({ t2 with heap := t2.heap.push { cls := .type "dict", data := .dict #[] } } : Shared) = t3
  have q3 : t3.heap = t2.heap.push { cls := .type "dict", data := .dict #[] } := by rw [← ht3]
  have keep3 : ∀ b o, t2.heap.get? b = some o → t3.heap.get? b = some o := fun b o e => by rw [q3]; exact Heap.get?_push_of_some _ e
  have I3 : Inv X pins σ (upd J2 p (.dK [])) t3 := by
    have z := dk_empty (P := X.prog) (w := X.w) (H := J2) t2.heap I2.big
    rw [← ht3]
    exact I2.laid (t' := t2.toks) (fun b o e => Heap.get?_push_of_some _ e) (Nat.le_of_eq hp) (by rw [← hp]; exact z)
  have lt : ∀ b ∈ fp, b < t2.heap.objs.size := fun b hb => (T.obj _ _ a2 b hb).elim fun o e => Heap.lt_size e.1
  have f3 : ∀ b ∈ fp, FpOk X pins (upd J2 p (.dK [])) b ∧ b < t3.heap.objs.size := fun b hb => by
    have ne : b ≠ p := by have := lt b hb; rw [hp] at this; exact Nat.ne_of_lt this
    refine ⟨⟨(upd_ne ne).trans (f2 b hb).1, (f2 b hb).2⟩, ?_⟩
    rw [q3, Heap.size_push]
    exact Nat.lt_succ_of_lt (lt b hb)
  have a3 : tn 0 t3.heap := T.keep _ _ _ a2 fun b _ o e => keep3 b o e
  have I4 := block_start I3 ok nd f3
  generalize hcl : cellsFrom (t3.heap.objs.size + 1) scope.names (cloFrom X.env.cells scope.names []) = cl at I4
  have pg := hg t3 (upd J2 p (.dK [])) t3.heap.objs.size cl fp
  have pt := ht t3 (upd J2 p (.dK [])) t3.heap.objs.size cl fp
  have pk := hk t3 (upd J2 p (.dK [])) t3.heap.objs.size cl fp
  have pv := hv t3 (upd J2 p (.dK [])) t3.heap.objs.size cl fp
  have out : ∀ b ∈ fp, (upd J2 p (.dK [])) b = none := fun b hb => (f3 b hb).1.1
  generalize hc : compEnvC scope cl t3.heap.objs.size X.env = c at I4 pg pt pk pv
  have cl0 : c.locals = t3.heap.objs.size := by rw [← hc]; rfl
  generalize hJ : upd J2 p (.dK []) = J3 at I3 I4 pg pt pk pv w0 out f3
  generalize ht4 : ({ t3 with heap := pushCells (t3.heap.push { cls := .type "dict", data := .dict #[] }) scope.names } : Shared) = t4 at I4
  have a4 : tn 0 t4.heap := T.keep _ _ _ a3 fun b _ o e => by rw [← ht4]; exact pushCells_keeps _ _ _ _ (Heap.get?_push_of_some _ e)
  have fpo : ∀ {σ' : L2.St} {H' : Hp} {t' : Shared}, Inv (X.blk t3 J3 scope c fp) [] σ' H' t' → (∀ b ∈ fp, H' b = none) → ∀ b ∈ fp, FpOk (X.blk t3 J3 scope c fp) [] H' b := fun I' n b hb =>
    ⟨n b hb, (I'.ok.exf b hb).1, I'.ok.exfs b hb, .inl hb, fun x z e => (I'.ok.exf b hb).2 x z e, fun r hr' => by simp at hr'⟩
  have loop : codeAny (model X.prog X.w) X.A (.compLoop (.DictComp kx vx [⟨tg, iter, ifs, 0⟩] scope pos) 0 (.ref ia) (.ref p) c) (compPost (model X.prog X.w) X.A X.xe use Qf (.ref p) t3.heap.objs.size) t4 := by
    refine compLoop_anyD (fun n t' => ∃ i H', Inv (X.blk t3 J3 scope c fp) [] (wipe σ (own.map (·.2))) H' t' ∧ tn i t'.heap ∧ (∀ b ∈ fp, H' b = none) ∧ W i n H') ?_ m0 ⟨0, J3, I4, a4, out, w0⟩
    rintro n t5 ⟨i, J5, I5, a5, n5, w5⟩
    rcases turn i n J5 w5 with ⟨stop, qq⟩ | ⟨go, Nx, hNx, step⟩
    · refine thnF (T.done (X.blk t3 J3 scope c fp) rfl rfl rfl cm i [] t5 _ J5 (fun _ _ => False) I5 (fpo I5 n5) a5 stop) fun r t6 ⟨hr, I6⟩ => ?_
      subst hr
      have I7 : Inv X pins σ J5 t6 := I3.call' (ch := fp) I6.os I6.base I6.hok I6.bare fun b hb => let z := (f3 b hb).1.2; ⟨z.2.2.1, z.1, z.2.2.2.1, z.2.2.2.2⟩
      have nC : J5 t3.heap.objs.size = none := by
        have z := I6.free
        rw [← cl0]
        exact z
      obtain ⟨m, hn, _⟩ := I6.loc
      have hn2 : t6.heap.Ns t3.heap.objs.size m := by rw [← cl0]; exact hn
      exact hRR p t3.heap.objs.size t6 m J5 I7 qq hn2 (I3.fpOk (Nat.le_refl _) nC)
    · refine thnF (T.item (X.blk t3 J3 scope c fp) rfl rfl rfl cm i [] t5 _ J5 (fun _ _ => False) I5 (fpo I5 n5) a5 go) fun r t6 ⟨u, hr2, h6⟩ => ?_
      subst hr2
      refine thnF h6 fun _ t7 ⟨x, J7, I7, r7, y7, a7, n7⟩ => ?_
      have I7' := I7.pinned (fpo I7 n7) (T.obj _ _ a7)
      refine thnF (pg.run _ t7 _ J7 x u _ I7' r7 (step x J7 y7)) fun _ t8 ⟨σ8, J8, I8, hw8, q8⟩ => ?_
      refine thnF (pt.run _ t8 σ8 J8 _ I8 q8) fun b t9 ⟨J9, I9, q9⟩ => ?_
      have fin : ∀ {t' : Shared} {H' : Hp}, Inv (X.blk t3 J3 scope c fp) ([] ++ pinsAt fp t7.heap) σ8 H' t' → Nx H' → ∃ m, m < n ∧ ∃ i H', Inv (X.blk t3 J3 scope c fp) [] (wipe σ (own.map (·.2))) H' t' ∧ tn i t'.heap ∧ (∀ b ∈ fp, H' b = none) ∧ W i m H' := fun {t' H'} I' nx => by
        obtain ⟨m', hm, w'⟩ := hNx H' nx
        have pin : ∀ b ∈ fp, ∀ o, t7.heap.get? b = some o → t'.heap.get? b = some o ∧ H' b = none := fun b hb o e => by
          have z := I'.pin (b, o) (List.mem_append_right _ (List.mem_append_right _ (mem_pinsAt hb e)))
          exact ⟨z.1, z.2.1⟩
        refine ⟨m', hm, i + 1, H', (I'.unpinned (pins := [])).weak (by rw [← hw8, wipe_length]) (fun j v e => by rw [← hw8] at e; exact (wipe_some e).1), T.keep _ _ _ a7 fun b hb o e => (pin b hb o e).1, fun b hb => ?_, w'⟩
        obtain ⟨o, e, _⟩ := T.obj _ _ a7 b hb
        exact (pin b hb o e).2
      cases b with
      | false => exact fin I9 (by simpa using q9)
      | true =>
        simp only [if_true] at q9 ⊢
        refine thnF (pk.run _ t9 σ8 J9 _ I9 q9) fun z tA ⟨yk, JA, IA, rA, qA⟩ => ?_
        refine thnF (pv.run _ tA σ8 JA _ IA qA) fun z2 tB ⟨yv, JB, IB, rB, kvs, u, ks, k, d, g1, g2, g3, g4, g5, g6, g7, g8, nx⟩ => ?_
        exact dk_put (X := X.blk t3 J3 scope c fp) (units_ok hr) IB ⟨g1, g2, g3⟩ g4 g5 g6 g7 rA g8 rB fun u' ks' tC ho IC sh im => fin IC (nx u' ks' ho sh im)
  subst hc hcl ht4
  exact codeAny_compStart_dict loop (T.self X.A 0 _ _ _ a4 loop)
theorem pe_dk {kx vx tg iter : Expr} {ifs : List Expr} {scope : Scope} {own : List (Str × Nat)} {pos : Pos} {wi : TI} {g : TG} {tt : TT} {tk tv : TE} (cm : X.calm = true) (nd : X.N.Nodup) (hr : Room 0 X.A) (hi : PI X tg iter wi) (ok : BlkOk X.N X.env.scope scope own)
    (hg : ∀ (t : Shared) (J : Hp) (C : Addr) (cl : List (Str × Addr)) (fp : List Addr), PG (X.blk t J scope (compEnvC scope cl C X.env) fp) tg g)
    (ht : ∀ (t : Shared) (J : Hp) (C : Addr) (cl : List (Str × Addr)) (fp : List Addr), PTs (X.blk t J scope (compEnvC scope cl C X.env) fp) ifs tt)
    (hk : ∀ (t : Shared) (J : Hp) (C : Addr) (cl : List (Str × Addr)) (fp : List Addr), PE (X.blk t J scope (compEnvC scope cl C X.env) fp) kx tk)
    (hv : ∀ (t : Shared) (J : Hp) (C : Addr) (cl : List (Str × Addr)) (fp : List Addr), PE (X.blk t J scope (compEnvC scope cl C X.env) fp) vx tv) (hs : ∀ x, foldedSetIterable iter X.env x = pure x := by intro _; rfl) :
    PE X (.DictComp kx vx [⟨tg, iter, ifs, 0⟩] scope pos) (tDk (kxOf X) wi g tt tk tv (own.map (·.2))) := by
  refine ⟨fun pins s σ H Q I h => ?_⟩
  rw [arm_eval_DictComp]
  refine dk_core cm nd hr I hi ok hg ht hk hv hs h fun p C t m J I7 qq hn2 f => ⟨m, hn2, fun h2 sb => ?_⟩
  obtain ⟨z0, z1, _, z3, z4, z5⟩ := f
  exact ⟨.ref p, J, I7.turned (t' := t.toks) (fun b o hb e => (sb.2 b hb).trans e) z0 z1 z3 z4 z5, rfl, qq⟩
theorem ps_setDk {i : Nat} {y : Str} {py spos : Pos} {kx vx tg iter : Expr} {ifs : List Expr} {scope : Scope} {own : List (Str × Nat)} {pos : Pos} {wi : TI} {g : TG} {tt : TT} {tk tv : TE} (cm : X.calm = true) (nd : X.N.Nodup) (hr : Room 0 X.A) (hy : X.N[i]? = some y) (hyl : X.env.scope.names.lookup y = some .local)
    (hsw : swapsWith (.DictComp kx vx [⟨tg, iter, ifs, 0⟩] scope pos) (some (.Name y py)) spos.line X.env = pure true) (hi : PI X tg iter wi) (ok : BlkOk X.N X.env.scope scope own)
    (hg : ∀ (t : Shared) (J : Hp) (C : Addr) (cl : List (Str × Addr)) (fp : List Addr), PG (X.blk t J scope (compEnvC scope cl C X.env) fp) tg g)
    (ht : ∀ (t : Shared) (J : Hp) (C : Addr) (cl : List (Str × Addr)) (fp : List Addr), PTs (X.blk t J scope (compEnvC scope cl C X.env) fp) ifs tt)
    (hk : ∀ (t : Shared) (J : Hp) (C : Addr) (cl : List (Str × Addr)) (fp : List Addr), PE (X.blk t J scope (compEnvC scope cl C X.env) fp) kx tk)
    (hv : ∀ (t : Shared) (J : Hp) (C : Addr) (cl : List (Str × Addr)) (fp : List Addr), PE (X.blk t J scope (compEnvC scope cl C X.env) fp) vx tv) (hs : ∀ x, foldedSetIterable iter X.env x = pure x := by intro _; rfl) :
    PS X (.Assign [.Name y py] (.DictComp kx vx [⟨tg, iter, ifs, 0⟩] scope pos) spos) (tAsg (tDk (kxOf X) wi g tt tk tv (own.map (·.2))) (gName i)) := by
  refine ⟨fun pins s σ H D I h => ?_⟩
  rw [exec_Assign_Name_used _ _ _ _ hsw]
  refine wpAny_bind (wpAny_standAt (wpAny_bind ?_))
  show wpAny _ X.A (do let _ ← comprehension (.DictComp kx vx [⟨tg, iter, ifs, 0⟩] scope pos) scope X.env (firstIterPos [⟨tg, iter, ifs, 0⟩] pos) newDict false (eval iter X.env) (some (assign (.Name y py) X.env))) _ _ s
  have h : tDk (kxOf X) wi g tt tk tv (own.map (·.2)) σ H (fun x J => gName i x σ J D.nx) := h
  refine wpAny_bind (thn (dk_core (Qf := fun _ t => SP X pins D .next t) cm nd hr I hi ok hg ht hk hv hs h fun p C t m J I7 qq hn f => ?_) fun _ t hq => wpAny_pure (wpAny_pure hq))
  show wpAny _ _ (assign (.Name y py) X.env (.ref p)) _ _ _
  refine wpAny_assign_Name (store_ok2 (v := V.ref p) I7 nd hy (.inl hyl) rfl (fun t2 I2 ⟨c, sb, hc⟩ => ?_) (.inr hyl))
  obtain ⟨z0, z1, _, z3, z4, z5⟩ := f
  have ne : C ≠ c := hc.elim (fun z => z ▸ z1) fun z e => z4 y c z e.symm
  exact ⟨m, hn.sameBut sb ne, fun h3 sb3 => ⟨_, J, I2.turned (t' := t2.toks) (fun b o hb e => (sb3.2 b hb).trans e) z0 z1 z3 z4 z5, qq⟩⟩
theorem swd_true {kx vx : Expr} {gs : List Comprehension} {scope : Scope} {pos py : Pos} {y : Str} {l : Nat} {env : Env} (hk : env.scope.kind = .function) (hy : env.scope.names.lookup y = some .local) (hl : (py.line == pos.line) = true)
    (ha : (scope.names.any fun (n, k) => n == y && (k == .local || k == .cell)) = false) : swapsWith (.DictComp kx vx gs scope pos) (some (.Name y py)) l env = pure true := by
  have k1 : env.kindOf y = some .local := hy
  have k2 : env.blockKind = .function := by unfold Env.blockKind; rw [hk]; rfl
  unfold swapsWith
  simp only [k2, k1, ha, Expr.pos, hl]
  rfl
end
/-- how it goes upon the slots -/
theorem dk_le {G : Gx} {it : FI} {g : FG} {t : FT} {k x : FE} {own sl : List Nat} {σ : L2.St} {H : Hp} {Q : VK} (np : own.all (fun i => !G.Pr.contains i) = true) (nd : own.Nodup) (hsl : sl.all (fun i => own.contains i) = true) (h : tM G (dcM g it t k x own) σ H Q) :
    tDk G.K (tI G it) (tGt G g sl) (tT G t) (tV G k) (tV G x) own σ H Q := by
  have np : ∀ i ∈ own, i ∉ G.Pr := fun i hi => by simpa using List.all_eq_true.mp np i hi
  have hsl : ∀ i ∈ sl, i ∈ own := fun i hi => by simpa using List.all_eq_true.mp hsl i hi
  obtain ⟨B, e, m, e', s, h, kQ⟩ := h
  obtain ⟨⟨ds, e1⟩, h1, hA⟩ := bnd h
  obtain ⟨⟨res, e2⟩, h2, hB⟩ := bnd hA
  cases hB
  refine ⟨B, e, ds, e1, s, h1, fun J H1 s1 x1 ok p hp => ?_⟩
  have im0 : ∀ i ∈ own, ∀ d, slot e1 i = some (.imm d) → ∃ v, σ[i]? = some (some v) ∧ Im G.K H1 d v := fun i _ d hs => s1.var hs
  have s2 := (s1.newM (m := .dct []) hp ⟨p, _, [], rfl, rfl, upd_same, .flat [] rfl, by simp only [ImK]⟩).wipe own np
  refine ⟨fun i m H => m = ds.length - i ∧ i ≤ ds.length ∧ ∃ e acc, SS G (B.put (.dct acc) (.ref p)) e (L2.wipe σ own) H ∧ Ext H1 H ∧ dcL g t k x own (ds.drop i) acc e = some (res, e2), ⟨ds.length, by simp, Nat.zero_le _, _, [], s2, Ext.new hp, h2⟩, ?_⟩
  rintro i m H2 ⟨rfl, hi, e3, acc, s3, x3, h3⟩
  by_cases hlt : i < ds.length
  · obtain ⟨d, hd⟩ : ∃ d, ds[i]? = some d := ⟨ds[i], List.getElem?_eq_getElem hlt⟩
    have hdr : ds.drop i = d :: ds.drop (i + 1) := by
      rw [List.drop_eq_getElem_cons hlt]
      rw [List.getElem?_eq_getElem hlt] at hd
      cases hd
      rfl
    rw [hdr] at h3
    obtain ⟨e4, h4, hC⟩ := bnd h3
    obtain ⟨⟨b, e5⟩, h5, hE⟩ := bnd hC
    obtain ⟨go, yl⟩ := (ok i H2 x3).1 d hd
    refine .inr ⟨go, fun H' => ∃ e acc, SS G (B.put (.dct acc) (.ref p)) e (L2.wipe σ own) H' ∧ Ext H1 H' ∧ dcL g t k x own (ds.drop (i + 1)) acc e = some (res, e2), fun H' z => ⟨ds.length - (i + 1), by omega, rfl, hlt, z⟩, fun y H' yy => ?_⟩
    obtain ⟨gr, im⟩ := yl y H' yy
    refine ⟨_, e3, d, e4, s3.grow gr, im, h4, fun σ4 H4 s4 x4 ag => ⟨wipe_agree (ag.mono hsl), _, e4, b, e5, s4, h5, fun H5 s5 x5 => ?_⟩⟩
    have xx : Ext H1 H5 := ((x3.trans gr.ext).trans x4).trans x5
    have hw := wipe_agree (ag.mono hsl)
    cases b with
    | true =>
      refine iteT ?_
      simp only [if_true] at hE
      obtain ⟨⟨kd, e6⟩, h6, hF⟩ := bnd hE
      obtain ⟨⟨d2, e7⟩, h7, hG⟩ := bnd hF
      split at hG
      case isFalse => cases hG
      rename_i hkz
      obtain ⟨hk, hz⟩ := hkz
      have hI := hG
      refine ⟨_, e5, kd, e6, s5, h6, fun w H6 s6 i6 x6 => ⟨_, e6, d2, e7, s6, h7, fun w2 H7 s7 i7 x7 => ?_⟩⟩
      obtain ⟨p', u, ks, ep, g1, g2, g3⟩ := s7.dctAt
      cases ep
      refine ⟨acc, u, ks, kd, d2, Rd.of g1, g2, g3, g1, hk, by rw [← big_eq]; exact hz, i6.ext x7, i7, fun u' ks' ho sh im => ?_⟩
      have mu : Mut (some u) := g2.own.mut
      have x8 : Ext H7 (upd H7 p u') := Ext.chg g1 mu
      obtain ⟨s8, _⟩ := s7.changeD (o := u') rfl g1 mu (.dct (putD acc kd d2)) (.inl ⟨p, u', ks', rfl, rfl, upd_same, sh, im⟩)
      have s9 := s8.wipe own np
      rw [hw] at s9
      exact ⟨_, _, s9, ((xx.trans x6).trans x7).trans x8, hI⟩
    | false =>
      refine iteF ?_
      simp only [Bool.false_eq_true, if_false] at hE
      have s8 := s5.wipe own np
      rw [hw] at s8
      exact ⟨_, _, s8, xx, hE⟩
  · have e5 : i = ds.length := by omega
    subst e5
    rw [List.drop_length] at h3
    cases h3
    refine .inl ⟨(ok ds.length H2 x3).2 rfl, kQ _ H2 (s3.resume nd np fun i hi d hs => ?_) (x1.trans x3)⟩
    obtain ⟨v, hv, hd⟩ := im0 i hi d hs
    exact ⟨v, hv, hd.ext x3⟩
section
variable {X : Cx} {G : Gx} {pos : Pos}
theorem m_dk {kx vx tg iter : Expr} {ifs : List Expr} {scope : Scope} {own : List (Str × Nat)} {it : FI} {g : FG} {sl : List Nat} {t : FT} {k x : FE} (hc : X.calm = true) (hN : X.N.Nodup) (hK : kxOf X = G.K) (hr : Room 0 X.A) (hi : PI X tg iter (tI G it)) (ok : BlkOk X.N X.env.scope scope own)
    (hg : ∀ (s : Shared) (H : Hp) (C : Addr) (cl : List (Str × Addr)) (fp : List Addr), PG (X.blk s H scope (compEnvC scope cl C X.env) fp) tg (tGt G g sl)) (ht : ∀ (s : Shared) (H : Hp) (C : Addr) (cl : List (Str × Addr)) (fp : List Addr), PTs (X.blk s H scope (compEnvC scope cl C X.env) fp) ifs (tT G t))
    (hk : ∀ (s : Shared) (H : Hp) (C : Addr) (cl : List (Str × Addr)) (fp : List Addr), PE (X.blk s H scope (compEnvC scope cl C X.env) fp) kx (tV G k)) (he : ∀ (s : Shared) (H : Hp) (C : Addr) (cl : List (Str × Addr)) (fp : List Addr), PE (X.blk s H scope (compEnvC scope cl C X.env) fp) vx (tV G x))
    (np : (own.map (·.2)).all (fun i => !G.Pr.contains i) = true) (nd : (own.map (·.2)).Nodup) (hsl : sl.all (fun i => (own.map (·.2)).contains i) = true) (hs : ∀ x, foldedSetIterable iter X.env x = pure x := by intro _; rfl) :
    PE X (.DictComp kx vx [⟨tg, iter, ifs, 0⟩] scope pos) (tM G (dcM g it t k x (own.map (·.2)))) :=
  PE.le (pe_dk hc hN hr hi ok hg ht hk he hs) fun σ H Q h => by rw [hK]; exact dk_le np nd hsl h
theorem s_setDk (i : Nat) {y : Str} {py spos : Pos} {kx vx tg iter : Expr} {ifs : List Expr} {scope : Scope} {own : List (Str × Nat)} {it : FI} {g : FG} {sl : List Nat} {t : FT} {k x : FE} (hc : X.calm = true) (hN : X.N.Nodup) (hK : kxOf X = G.K) (hr : Room 0 X.A) (hi : PI X tg iter (tI G it)) (ok : BlkOk X.N X.env.scope scope own)
    (hg : ∀ (s : Shared) (H : Hp) (C : Addr) (cl : List (Str × Addr)) (fp : List Addr), PG (X.blk s H scope (compEnvC scope cl C X.env) fp) tg (tGt G g sl)) (ht : ∀ (s : Shared) (H : Hp) (C : Addr) (cl : List (Str × Addr)) (fp : List Addr), PTs (X.blk s H scope (compEnvC scope cl C X.env) fp) ifs (tT G t))
    (hk : ∀ (s : Shared) (H : Hp) (C : Addr) (cl : List (Str × Addr)) (fp : List Addr), PE (X.blk s H scope (compEnvC scope cl C X.env) fp) kx (tV G k)) (he : ∀ (s : Shared) (H : Hp) (C : Addr) (cl : List (Str × Addr)) (fp : List Addr), PE (X.blk s H scope (compEnvC scope cl C X.env) fp) vx (tV G x))
    (np : (own.map (·.2)).all (fun i => !G.Pr.contains i) = true) (nd : (own.map (·.2)).Nodup) (hsl : sl.all (fun i => (own.map (·.2)).contains i) = true) (npi : i ∉ G.Pr) (hy : X.N[i]? = some y := by rfl) (hyl : X.env.scope.names.lookup y = some .local := by rfl)
    (hsw : swapsWith (.DictComp kx vx [⟨tg, iter, ifs, 0⟩] scope pos) (some (.Name y py)) spos.line X.env = pure true := by exact swd_true rfl rfl rfl (by decide +kernel)) (hs : ∀ x, foldedSetIterable iter X.env x = pure x := by intro _; rfl) :
    PS X (.Assign [.Name y py] (.DictComp kx vx [⟨tg, iter, ifs, 0⟩] scope pos) spos) (tS G (setMS i (dcM g it t k x (own.map (·.2))))) := by
  refine PS.le (ps_setDk hc hN hr hy hyl hsw hi ok hg ht hk he hs) fun D σ H ⟨B, e, fl, e', s, h, k⟩ => ?_
  obtain ⟨⟨m, e1⟩, h1, hA⟩ := bnd h
  cases hA
  rw [hK]
  exact dk_le np nd hsl ⟨B, e, m, e1, s, h1, fun v H1 s1 x1 => k _ _ (SS.store' s1 npi) x1⟩
end
end VL
end

section
set_option Elab.async false
set_option linter.all false
set_option maxRecDepth 100000
/-! VMb: str.index, join of an object. -/
namespace VL
open PySem PySem.Spec L2 VD
open PySem.StrLaws PySem.Builtin.Str
theorem occ_stay (s sub : Str) (hi : Nat) : ∀ (l : List Nat) (k free : Nat), (forIn l (#[k], free) (occBody s sub hi 1)).run.fst = #[k]
  | [], k, free => rfl
  | a :: l, k, free => by
    rw [List.forIn_cons]
    unfold occBody
    rw [if_neg (by intro h; simp at h)]
    exact occ_stay s sub hi l k free
theorem occ_find (s sub : Str) (hi : Nat) : ∀ (l : List Nat) (free : Nat), (∀ i ∈ l, free ≤ i) → (forIn l ((#[] : Array Nat), free) (occBody s sub hi 1)).run.fst.toList = (l.find? fun i => decide (i + sub.length ≤ hi) && subAt s sub i).toList
  | [], free, _ => rfl
  | a :: l, free, hf => by
    rw [List.forIn_cons, List.find?_cons]
    unfold occBody
    have ha : free ≤ a := hf a List.mem_cons_self
    by_cases hc : a + sub.length ≤ hi ∧ subAt s sub a = true
    · rw [if_pos ⟨⟨⟨by simp, ha⟩, hc.1⟩, hc.2⟩]
      have : (decide (a + sub.length ≤ hi) && subAt s sub a) = true := by simp [hc.1, hc.2]
      rw [this]
      have st := occ_stay s sub hi l a (a + sub.length)
      show (forIn l ((#[] : Array Nat).push a, a + sub.length) (occBody s sub hi 1)).run.fst.toList = _
      rw [show (#[] : Array Nat).push a = #[a] from rfl, st]
      first | done | rfl
    · rw [if_neg fun h => hc ⟨h.1.2, h.2⟩]
      have : (decide (a + sub.length ≤ hi) && subAt s sub a) = false := by
        rw [Bool.eq_false_iff]
        intro h
        simp only [Bool.and_eq_true, decide_eq_true_eq] at h
        exact hc h
      rw [this]
      exact occ_find s sub hi l free fun i hi' => hf i (List.mem_cons_of_mem _ hi')
theorem occ_one (z : List Nat) (c lo : Nat) (hc : c ∈ z.drop lo) : (occurrences (st z) (st [c]) lo (st z).length 1).head? = some (lo + (z.drop lo).idxOf c) := by
  have hlen : (st z).length = z.length := by
    show (st z).cps.size = z.length
    rw [← Array.length_toList]
  have hi : (z.drop lo).idxOf c < (z.drop lo).length := List.idxOf_lt_length_iff.mpr hc
  have hlo : lo + (z.drop lo).idxOf c < z.length := by rw [List.length_drop] at hi; omega
  rw [occ_eq, occ_find _ _ _ _ _ (fun i h => (List.mem_range'_1.mp h).1)]
  have P : ∀ i, (decide (i + (st [c]).length ≤ (st z).length) && subAt (st z) (st [c]) i) = decide (z[i]? = some c) := fun i => by
    have h := subAt_one (st z) c i
    rw [st_toList] at h
    rw [Bool.eq_iff_iff, Bool.and_eq_true, decide_eq_true_eq, decide_eq_true_eq]
    exact h
  simp only [P]
  have hf : (List.range' lo ((st z).length + 1 - lo)).find? (fun i => decide (z[i]? = some c)) = some (lo + (z.drop lo).idxOf c) := by
    rw [List.find?_range'_eq_some]
    have g : (z.drop lo)[(z.drop lo).idxOf c]? = some c := by
      rw [List.getElem?_eq_getElem hi, List.getElem_idxOf]
    refine ⟨?_, ?_, ?_⟩
    · rw [List.getElem?_drop] at g
      simpa using g
    · rw [List.mem_range'_1]; omega
    · intro j hj1 hj2
      rw [Bool.not_eq_true', decide_eq_false_iff_not]
      intro e
      have : (z.drop lo)[j - lo]? = some c := by rw [List.getElem?_drop, show lo + (j - lo) = j by omega]; exact e
      have hlt : j - lo < (z.drop lo).length := (List.getElem?_eq_some_iff.mp this).1
      have := List.not_of_lt_findIdx (p := (· == c)) (xs := z.drop lo) (i := j - lo) (by show j - lo < (z.drop lo).idxOf c; omega)
      rw [List.getElem?_eq_getElem hlt] at *
      simp_all
  rw [hf]
  rfl
section
variable {X : Cx} {G : Gx} {pos : Pos} {a b c : Expr} {fa fb fc : FE} {fm : FM}
theorem sidxD_e {x y d : D} (h : sidxD x y = some d) : ∃ z c, x = .str z ∧ y = .str [c] ∧ c ∈ z ∧ d = .int (z.idxOf c) := by
  cases x with
  | str z =>
    cases y with
    | str w =>
      match w, h with
      | [c], h =>
        obtain ⟨hc, rfl⟩ := iff_some (show (if c ∈ z then some (D.int (z.idxOf c)) else none) = some d from h)
        exact ⟨z, c, rfl, rfl, hc, rfl⟩
    | _ => cases h
  | _ => cases h
theorem sidx2_e {x y k : D} {e e' : En} {d : D} (h : (match x, y, k with | .str z, .str [c], .int i => if 0 ≤ i ∧ c ∈ z.drop i.toNat then some (D.int (i.toNat + (z.drop i.toNat).idxOf c : Nat), e) else none | _, _, _ => none) = some (d, e')) :
    ∃ z c i, x = .str z ∧ y = .str [c] ∧ k = .int i ∧ (0 ≤ i ∧ c ∈ z.drop i.toNat) ∧ d = .int (i.toNat + (z.drop i.toNat).idxOf c : Nat) ∧ e = e' := by
  cases x with
  | str z =>
    cases y with
    | str w =>
      cases k with
      | int i =>
        match w, h with
        | [c], h =>
          obtain ⟨hc, hh⟩ := iff_some (show (if 0 ≤ i ∧ c ∈ z.drop i.toNat then some (D.int (i.toNat + (z.drop i.toNat).idxOf c : Nat), e) else none) = some (d, e') from h)
          cases hh
          exact ⟨z, c, i, rfl, rfl, rfl, hc, rfl, rfl⟩
      | _ => match w, h with
        | [c], h => cases h
    | _ => cases h
  | _ => cases h
def noW : WX := fun _ _ _ _ => False
theorem takes_no : Takes X noW := fun _ _ ⟨_, _, _, _, _, _, _, _, _, _, _, _, _, _, _, _, w⟩ => w.elim
theorem v_sidx {apos : Pos} (cm : X.calm = true) (ho : PE X a (tV G fa)) (ha : PE X b (tV G fb)) (hbase : attributeBase a "index" X.env (eval a X.env) = eval a X.env := by rfl)
    (hfew : ((backTo pos (starEach [b] X.env)).all (fun x => !x.1) && (backToKw pos (keywordEach [] X.env)).all (fun x => x.1.isSome)
      && decide (([b] : List Expr).length + ([] : List Keyword).length + (if ([] : List Keyword).isEmpty then 0 else 1) < 30)) = true := by rfl)
    (hline : (apos.endLine == pos.line) = true := by rfl) (hs : starEach [b] X.env = (false, eval b X.env) :: starEach [] X.env := by rfl) (hplain : (backTo pos (starEach [] X.env)).any (·.1) = false := by rfl) :
    PE X (.Call (.Attribute a "index" apos) [b] [] pos) (tV G (op2 sidxD fa fb)) := by
  refine PE.le (pe_bmS F.plainAttrs_str F.slot_str_index F.type_str_index (mt_indexX cm (takes_no (X := X))) ho (pa_cons ha pa_nil hs) hbase hfew hline hs hplain) fun σ H Q ⟨B, e, d, e', s, h, k⟩ => ?_
  obtain ⟨⟨a1, e1⟩, h1, h⟩ := bnd h
  obtain ⟨⟨b1, e2⟩, h2, h⟩ := bnd h
  obtain ⟨d1, h3, h⟩ := mpd h
  cases h
  obtain ⟨z, c, ea, eb, hc, rfl⟩ := sidxD_e (show sidxD a1 b1 = some d from h3)
  subst ea eb
  · refine ⟨B, e, _, e1, s, h1, fun v H1 s1 i1 x1 => ?_⟩
    cases i1.str_
    refine ⟨rfl, B, e1, _, e2, s1, h2, fun w H2 s2 i2 x2 => ?_⟩
    cases i2.str_
    have q := occ_one z c 0 (by rw [List.drop_zero]; exact hc)
    rw [List.drop_zero, Nat.zero_add] at q
    refine ⟨_, _, rfl, rfl, fun n hn => ?_, fun hn => ?_⟩
    · have e : some n = some (z.idxOf c) := hn.symm.trans q
      cases e
      exact k _ H2 s2 (Im.int _) (x1.trans x2)
    · exact absurd (hn.symm.trans q) (by simp)
theorem v_sidx2 {apos : Pos} (cm : X.calm = true) (ho : PE X a (tV G fa)) (ha : PE X b (tV G fb)) (hcx : PE X c (tV G fc)) (hbase : attributeBase a "index" X.env (eval a X.env) = eval a X.env := by rfl)
    (hfew : ((backTo pos (starEach [b, c] X.env)).all (fun x => !x.1) && (backToKw pos (keywordEach [] X.env)).all (fun x => x.1.isSome)
      && decide (([b, c] : List Expr).length + ([] : List Keyword).length + (if ([] : List Keyword).isEmpty then 0 else 1) < 30)) = true := by rfl)
    (hline : (apos.endLine == pos.line) = true := by rfl) (hs : starEach [b, c] X.env = (false, eval b X.env) :: starEach [c] X.env := by rfl) (hs2 : starEach [c] X.env = (false, eval c X.env) :: starEach [] X.env := by rfl) (hplain : (backTo pos (starEach [c] X.env)).any (·.1) = false := by rfl) :
    PE X (.Call (.Attribute a "index" apos) [b, c] [] pos) (tV G (sidx2F fa fb fc)) := by
  refine PE.le (pe_bmS F.plainAttrs_str F.slot_str_index F.type_str_index (mt_indexFromX cm (takes_no (X := X))) ho (pa_cons ha (pa_cons hcx pa_nil hs2) hs) hbase hfew hline hs hplain) fun σ H Q ⟨B, e, d, e', s, h, k⟩ => ?_
  obtain ⟨⟨a1, e1⟩, h1, h⟩ := bnd h
  obtain ⟨⟨b1, e2⟩, h2, h⟩ := bnd h
  obtain ⟨⟨c1, e3⟩, h3, h⟩ := bnd h
  obtain ⟨z, cc, i, ea, eb, ec, ⟨hi, hc⟩, rfl, ee⟩ := sidx2_e h
  subst ee
  have ea : a1 = .str z := ea
  have eb : b1 = .str [cc] := eb
  have ec : c1 = .int i := ec
  subst ea eb ec
  · refine ⟨B, e, _, e1, s, h1, fun v H1 s1 i1 x1 => ?_⟩
    cases i1.str_
    refine ⟨rfl, B, e1, _, e2, s1, h2, fun w H2 s2 i2 x2 => ⟨B, e2, _, _, s2, h3, fun w3 H3 s3 i3 x3 => ?_⟩⟩
    cases (i2.ext x3).str_
    cases i3.int_
    have q := occ_one z cc i.toNat hc
    have hlo : i.toNat < z.length := by
      have := List.length_pos_of_mem hc
      rw [List.length_drop] at this
      omega
    have hlen : (st z).length = z.length := by
      show (st z).cps.size = z.length
      rw [← Array.length_toList]
    have hfx : PySem.fromIndex (st z).length i = i.toNat := by
      unfold PySem.fromIndex
      rw [if_neg (by omega)]
      omega
    refine ⟨_, _, _, rfl, rfl, fun n hn => ?_, fun hn => ?_⟩
    · unfold Txt.indexFrom at hn
      rw [hfx] at hn
      have e := hn.symm.trans q
      cases e
      exact k _ H3 s3 (Im.int _) ((x1.trans x2).trans x3)
    · unfold Txt.indexFrom at hn
      rw [hfx] at hn
      exact absurd (hn.symm.trans q) (by simp)
/-- sep.join(a list or a tuple) -/
theorem v_joinR {apos : Pos} (ho : PE X a (tV G fa)) (ha : PE X b (tR G fm)) (hK : kxOf X = G.K) (hbase : attributeBase a "join" X.env (eval a X.env) = eval a X.env := by rfl)
    (hfew : ((backTo pos (starEach [b] X.env)).all (fun x => !x.1) && (backToKw pos (keywordEach [] X.env)).all (fun x => x.1.isSome)
      && decide (([b] : List Expr).length + ([] : List Keyword).length + (if ([] : List Keyword).isEmpty then 0 else 1) < 30)) = true := by rfl)
    (hline : (apos.endLine == pos.line) = true := by rfl) (hs : starEach [b] X.env = (false, eval b X.env) :: starEach [] X.env := by rfl) (hplain : (backTo pos (starEach [] X.env)).any (·.1) = false := by rfl) :
    PE X (.Call (.Attribute a "join" apos) [b] [] pos) (tV G (joinRF fa fm)) := by
  refine PE.le (pe_bm F.plainAttrs_str F.slot_str_join F.type_str_join mt_join ho (pa_cons ha pa_nil hs) hbase hfew hline hs hplain) fun σ H Q ⟨B, e, d, e', s, h, k⟩ => ?_
  obtain ⟨⟨a1, e1⟩, h1, h⟩ := bnd h
  obtain ⟨⟨m, e2⟩, h2, h⟩ := bnd h
  cases a1 with
  | str sep =>
    obtain ⟨ds, h3, h⟩ := bnd h
    obtain ⟨z, h4, h⟩ := mpd h
    cases h
    obtain ⟨l, h5, h6⟩ := bnd h4
    obtain ⟨⟨hz1, hz2⟩, rfl⟩ := iff_some h6
    refine ⟨B, e, _, e1, s, h1, fun v H1 s1 i1 x1 => ?_⟩
    cases i1.str_
    refine ⟨rfl, B, e1, m, e2, s1, h2, fun w H2 s2 r2 x2 => ?_⟩
    obtain ⟨p, vs, rfl, g1, g2⟩ := r2.seq h3
    have ev := strsD_im h5 g2
    subst ev
    have hsum : ∀ l : List (List Nat), ((l.map st).map (·.length)).sum + (l.map st).length * (st sep).length = (l.map fun z => z.length + sep.length).sum := fun l => by
      have lst : ∀ z : List Nat, (st z).length = z.length := fun z => by
        show (st z).cps.size = z.length
        rw [← Array.length_toList]
      induction l with
      | nil => simp
      | cons z l ih =>
        simp only [List.map_cons, List.sum_cons, List.length_cons, lst, Nat.succ_mul] at ih ⊢
        omega
    have hb : big ≤ 16777216 := by decide
    have e1 : (l.map fun z => V.str (st z)) = (l.map st).map V.str := by rw [List.map_map]; rfl
    refine ⟨st sep, p, l.map st, rfl, rfl, ?_, ?_, ?_⟩
    · rw [← e1]
      exact g1.imp (fun g => by rw [frK hK]; exact g) (fun g => SqT.of g)
    · rw [hsum]; omega
    · rw [glue_st]
      exact k _ H2 s2 (Im.str _) (x1.trans x2)
  | _ => cases h
end
end VL
end

section

end

section
/-! WP: what must hold ahead of a combinator so that it gives what is wanted. Core Lean alone. -/
set_option linter.all false
namespace VD
def wpE (f : FE) (e : En) (Q : D → En → Prop) : Prop := ∃ d e', f e = some (d, e') ∧ Q d e'
def wpT (f : FT) (e : En) (Q : Bool → En → Prop) : Prop := ∃ d e', f e = some (d, e') ∧ Q d e'
def wpM (f : FM) (e : En) (Q : M → En → Prop) : Prop := ∃ d e', f e = some (d, e') ∧ Q d e'
def wpA (f : FA) (e : En) (Q : List D → En → Prop) : Prop := ∃ d e', f e = some (d, e') ∧ Q d e'
def wpO (f : FO) (e : En) (Q : Option Int → En → Prop) : Prop := ∃ d e', f e = some (d, e') ∧ Q d e'
def wpS (f : FS) (e : En) (Q : Fl → En → Prop) : Prop := ∃ d e', f e = some (d, e') ∧ Q d e'
def wpG (g : FG) (d : D) (e : En) (Q : En → Prop) : Prop := ∃ e', g d e = some e' ∧ Q e'
def wpAr (as : List Arg) (e : En) (Q : List M → En → Prop) : Prop := ∃ d e', evArgs as e = some (d, e') ∧ Q d e'
def wpF (F : Fn) (ms : List M) (Q : M → List M → Prop) : Prop := ∃ r ms', F ms = some (r, ms') ∧ Q r ms'
/-- a value that is there -/
def yes {α : Type} (o : Option α) (Q : α → Prop) : Prop := ∃ a, o = some a ∧ Q a
theorem yes_some {α : Type} {a : α} {Q : α → Prop} : yes (some a) Q ↔ Q a := by simp [yes]
theorem yes_none {α : Type} {Q : α → Prop} : yes none Q ↔ False := by simp [yes]
theorem yes_bind {α β : Type} {o : Option α} {f : α → Option β} {Q : β → Prop} : yes (o.bind f) Q ↔ yes o fun a => yes (f a) Q := by
  cases o <;> simp [yes]
theorem yes_map {α β : Type} {o : Option α} {f : α → β} {Q : β → Prop} : yes (o.map f) Q ↔ yes o fun a => Q (f a) := by
  cases o <;> simp [yes]
theorem yes_ite {α : Type} {c : Prop} [Decidable c] {a : α} {Q : α → Prop} : yes (if c then some a else none) Q ↔ c ∧ Q a := by
  by_cases h : c <;> simp [yes, h]
theorem pure_ex {α β : Type} {a : α} {b : β} {Q : α → β → Prop} : (∃ d e', some (a, b) = some (d, e') ∧ Q d e') ↔ Q a b := ⟨fun ⟨_, _, h, q⟩ => (by cases h; exact q), fun q => ⟨_, _, rfl, q⟩⟩
theorem pair_ex {α β : Type} {o : Option (α × β)} {Q : α → β → Prop} : (∃ d e', o = some (d, e') ∧ Q d e') ↔ yes o fun p => Q p.1 p.2 := by
  constructor
  · rintro ⟨d, e, h, q⟩; exact ⟨_, h, q⟩
  · rintro ⟨⟨d, e⟩, h, q⟩; exact ⟨d, e, h, q⟩
section
variable {e : En} {Q : D → En → Prop} {QT : Bool → En → Prop} {QM : M → En → Prop} {QA : List D → En → Prop} {QS : Fl → En → Prop} {QO : Option Int → En → Prop} {i : Nat} {a b c : FE} {t u : FT} {m : FM} {A : FA} {s s' : FS}
theorem wpE_y {f : FE} : wpE f e Q ↔ yes (f e) fun p => Q p.1 p.2 := pair_ex
theorem wpT_y {f : FT} : wpT f e QT ↔ yes (f e) fun p => QT p.1 p.2 := pair_ex
theorem wpM_y {f : FM} : wpM f e QM ↔ yes (f e) fun p => QM p.1 p.2 := pair_ex
theorem wpA_y {f : FA} : wpA f e QA ↔ yes (f e) fun p => QA p.1 p.2 := pair_ex
theorem wpO_y {f : FO} : wpO f e QO ↔ yes (f e) fun p => QO p.1 p.2 := pair_ex
theorem wpS_y {f : FS} : wpS f e QS ↔ yes (f e) fun p => QS p.1 p.2 := pair_ex
theorem w_var : wpE (varF i) e Q ↔ ∃ d, slot e i = some (.imm d) ∧ Q d e := by
  unfold wpE varF
  constructor
  · rintro ⟨d, e', h, q⟩
    split at h
    · cases h; exact ⟨_, by assumption, q⟩
    · cases h
  · rintro ⟨d, h, q⟩
    exact ⟨d, e, by rw [h], q⟩
theorem w_c {d : D} : wpE (cF d) e Q ↔ Q d e := pure_ex
theorem w_op2 {op : D → D → Option D} : wpE (op2 op a b) e Q ↔ wpE a e fun x e1 => wpE b e1 fun y e2 => yes (op x y) fun d => Q d e2 := by
  simp only [wpE_y, op2, yes_bind, yes_map]
theorem w_op1 {op : D → Option D} : wpE (op1 op a) e Q ↔ wpE a e fun x e1 => yes (op x) fun d => Q d e1 := by
  simp only [wpE_y, op1, yes_bind, yes_map]
theorem w_ts2 {op : D → D → Option Bool} : wpT (ts2 op a b) e QT ↔ wpE a e fun x e1 => wpE b e1 fun y e2 => yes (op x y) fun d => QT d e2 := by
  simp only [wpE_y, wpT_y, ts2, yes_bind, yes_map]
theorem w_ts1 {op : D → Option Bool} : wpT (ts1 op a) e QT ↔ wpE a e fun x e1 => yes (op x) fun d => QT d e1 := by
  simp only [wpE_y, wpT_y, ts1, yes_bind, yes_map]
theorem w_and : wpT (andT t u) e QT ↔ wpT t e fun r e1 => if r = true then wpT u e1 QT else QT false e1 := by
  simp only [wpT_y, andT, yes_bind]
  constructor <;> rintro ⟨⟨r, e1⟩, h, q⟩ <;> refine ⟨_, h, ?_⟩ <;> cases r <;> simpa [yes_some] using q
theorem w_or : wpT (orT t u) e QT ↔ wpT t e fun r e1 => if r = true then QT true e1 else wpT u e1 QT := by
  simp only [wpT_y, orT, yes_bind]
  constructor <;> rintro ⟨⟨r, e1⟩, h, q⟩ <;> refine ⟨_, h, ?_⟩ <;> cases r <;> simpa [yes_some] using q
theorem w_not : wpT (notT t) e QT ↔ wpT t e fun r e1 => QT (!r) e1 := by
  simp only [wpT_y, notT, yes_bind, yes_some]
theorem w_tru : wpT (truT a) e QT ↔ wpE a e fun x e1 => yes (truD x) fun r => QT r e1 := by
  simp only [wpT_y, wpE_y, truT, yes_bind, yes_map]
theorem w_val : wpE (valF t) e Q ↔ wpT t e fun r e1 => Q (.bl r) e1 := by
  simp only [wpT_y, wpE_y, valF, yes_bind, yes_some]
theorem w_if : wpE (ifF t a b) e Q ↔ wpT t e fun r e1 => if r = true then wpE a e1 Q else wpE b e1 Q := by
  simp only [wpT_y, wpE_y, ifF, yes_bind]
  constructor <;> rintro ⟨⟨r, e1⟩, h, q⟩ <;> refine ⟨_, h, ?_⟩ <;> cases r <;> simpa using q
theorem w_nilA : wpA nilA e QA ↔ QA [] e := pure_ex
theorem w_consA : wpA (consA a A) e QA ↔ wpE a e fun x e1 => wpA A e1 fun l e2 => QA (x :: l) e2 := by
  simp only [wpA_y, wpE_y, consA, yes_bind, yes_some]
theorem w_tup : wpE (tupF A) e Q ↔ wpA A e fun l e1 => l.length ≤ big ∧ Q (.tup l) e1 := by
  simp only [wpA_y, wpE_y, tupF, yes_bind, yes_ite]
theorem w_lst : wpM (lstM A) e QM ↔ wpA A e fun l e1 => l.length ≤ big ∧ QM (.lst l) e1 := by
  simp only [wpA_y, wpM_y, lstM, yes_bind, yes_ite]
theorem w_imm : wpM (immM a) e QM ↔ wpE a e fun x e1 => QM (.imm x) e1 := by
  simp only [wpE_y, wpM_y, immM, yes_bind, yes_some]
/-- what an object is as a datum -/
def datM : M → Option D
  | .imm d => some d
  | .lst xs => some (.lst xs)
  | .dct xs => some (.dct xs)
  | _ => none
theorem w_frzM : wpE (frzM m) e Q ↔ wpM m e fun x e1 => yes (datM x) fun d => Q d e1 := by
  simp only [wpE_y, wpM_y, frzM, yes_bind]
  constructor <;> rintro ⟨⟨r, e1⟩, h, q⟩ <;> refine ⟨_, h, ?_⟩ <;> cases r <;> simpa [yes_some, datM, yes_none] using q
def immD : M → Option D
  | .imm d => some d
  | _ => none
theorem w_immF : wpE (immF m) e Q ↔ wpM m e fun x e1 => yes (immD x) fun d => Q d e1 := by
  simp only [wpE_y, wpM_y, immF, yes_bind]
  constructor <;> rintro ⟨⟨r, e1⟩, h, q⟩ <;> refine ⟨_, h, ?_⟩ <;> cases r <;> simpa [yes_some, immD, yes_none] using q
def frzE (e : En) (i : Nat) : M → Option (D × En)
  | .imm d => some (d, e)
  | .lst xs => some (.lst xs, e.set i (some (.imm (.lst xs))))
  | .dct xs => some (.dct xs, e.set i (some (.imm (.dct xs))))
  | _ => none
theorem w_frz : wpE (frzF i) e Q ↔ yes (slot e i) fun x => yes (frzE e i x) fun p => Q p.1 p.2 := by
  simp only [wpE_y, frzF]
  cases h : slot e i with
  | none => simp [yes_none]
  | some x => cases x <;> simp [yes_some, frzE, yes_none]
theorem w_getS : wpE (getS i a) e Q ↔ yes (slot e i) fun _ => wpE a e fun k e1 => yes (slot e1 i) fun x => yes (getM x k) fun d => Q d e1 := by
  simp only [wpE_y, getS, yes_bind, yes_map]
theorem w_lenS : wpE (lenS i) e Q ↔ yes (slot e i) fun x => yes (lenM x) fun (n : Nat) => Q (.int n) e := by
  simp only [wpE_y, lenS, yes_bind, yes_map]
theorem w_len : wpE (lenF a) e Q ↔ wpE a e fun x e1 => yes (lenD x) fun (n : Nat) => Q (.int n) e1 := by
  simp only [wpE_y, lenF, op1, yes_bind, yes_map]
theorem w_noF : wpO noF e QO ↔ QO none e := pure_ex
def intO : D → Option Int
  | .int i => some i
  | _ => none
theorem w_someF : wpO (someF a) e QO ↔ wpE a e fun x e1 => yes (intO x) fun k => QO (some k) e1 := by
  simp only [wpO_y, wpE_y, someF, yes_bind]
  constructor <;> rintro ⟨⟨r, e1⟩, h, q⟩ <;> refine ⟨_, h, ?_⟩ <;> cases r <;> simpa [yes_some, intO, yes_none] using q
theorem w_cut {lo hi : FO} : wpE (cutF a lo hi) e Q ↔ wpE a e fun x e1 => wpO lo e1 fun l e2 => wpO hi e2 fun h e3 => yes (cutD x l h) fun d => Q d e3 := by
  simp only [wpO_y, wpE_y, cutF, yes_bind, yes_map]
theorem w_slotM : wpM (slotM i) e QM ↔ yes (slot e i) fun x => QM x e := by
  simp only [wpM_y, slotM, yes_map]
theorem w_tupFM : wpE (tupFM m) e Q ↔ wpM m e fun x e1 => yes (seqItems x) fun ds => Q (.tup ds) e1 := by
  simp only [wpE_y, wpM_y, tupFM, yes_bind, yes_map]
theorem w_lenOfM : wpE (lenOfM m) e Q ↔ wpM m e fun x e1 => yes (seqItems x) fun ds => Q (.int ds.length) e1 := by
  simp only [wpE_y, wpM_y, lenOfM, yes_bind, yes_map]
theorem w_srtFM : wpM (srtFM m) e QM ↔ wpM m e fun x e1 => yes (lstItems x) fun ds => yes (sortL ds) fun l => QM (.lst l) e1 := by
  simp only [wpM_y, srtFM, yes_bind, yes_map]
/-! calls -/
theorem wpF_y {F : Fn} {ms : List M} {R : M → List M → Prop} : wpF F ms R ↔ yes (F ms) fun p => R p.1 p.2 := pair_ex
theorem w_call {F : Fn} {as : List Arg} : wpM (callM F as) e QM ↔ wpAr as e fun ms e1 => wpF F ms fun r ms' => QM r (putArgs as ms' e1) := by
  have : ∀ R, wpAr as e R ↔ yes (evArgs as e) fun p => R p.1 p.2 := fun R => pair_ex
  simp only [wpM_y, this, wpF_y, callM, yes_bind, yes_some]
theorem w_arNil {R : List M → En → Prop} : wpAr [] e R ↔ R [] e := pure_ex
theorem w_arE {r : List Arg} {R : List M → En → Prop} : wpAr (.e a :: r) e R ↔ wpE a e fun x e1 => wpAr r e1 fun l e2 => R (.imm x :: l) e2 := by
  have h : ∀ (as : List Arg) (e : En) R, wpAr as e R ↔ yes (evArgs as e) fun p => R p.1 p.2 := fun _ _ R => pair_ex
  simp only [wpE_y, h, evArgs, yes_bind, yes_some]
theorem w_arS {r : List Arg} {R : List M → En → Prop} : wpAr (.s i :: r) e R ↔ yes (slot e i) fun _ => wpAr r e fun l e1 => yes (slot e1 i) fun x => R (x :: l) (e1.set i none) := by
  have h : ∀ (as : List Arg) (e : En) R, wpAr as e R ↔ yes (evArgs as e) fun p => R p.1 p.2 := fun _ _ R => pair_ex
  simp only [h, evArgs, yes_bind, yes_some]
theorem wpF_mono {F : Fn} {ms : List M} {R R' : M → List M → Prop} (h : wpF F ms R) (k : ∀ r l, R r l → R' r l) : wpF F ms R' := by
  obtain ⟨r, l, h1, h2⟩ := h
  exact ⟨r, l, h1, k _ _ h2⟩
/-! statements -/
theorem w_nx : wpS nxS e QS ↔ QS .nx e := pure_ex
theorem w_seq : wpS (seqS s s') e QS ↔ wpS s e fun fl e1 => match fl with | .nx => wpS s' e1 QS | _ => QS fl e1 := by
  simp only [wpS_y, seqS, yes_bind]
  constructor <;> rintro ⟨⟨r, e1⟩, h, q⟩ <;> refine ⟨_, h, ?_⟩ <;> cases r <;> simpa [yes_some] using q
theorem w_set : wpS (setS i a) e QS ↔ wpE a e fun x e1 => QS .nx (e1.set i (some (.imm x))) := by
  simp only [wpS_y, wpE_y, setS, yes_bind, yes_some]
theorem w_setM : wpS (setMS i m) e QS ↔ wpM m e fun x e1 => QS .nx (e1.set i (some x)) := by
  simp only [wpS_y, wpM_y, setMS, yes_bind, yes_some]
theorem w_asg {g : FG} : wpS (asgS g a) e QS ↔ wpE a e fun x e1 => wpG g x e1 fun e2 => QS .nx e2 := by
  have : ∀ x e R, wpG g x e R ↔ yes (g x e) R := fun _ _ _ => Iff.rfl
  simp only [wpS_y, wpE_y, this, asgS, yes_bind, yes_some]
theorem w_ret : wpS (retS a) e QS ↔ wpE a e fun x e1 => QS (.rt (.imm x)) e1 := by
  simp only [wpS_y, wpE_y, retS, yes_bind, yes_some]
theorem w_retM : wpS (retMS m) e QS ↔ wpM m e fun x e1 => QS (.rt x) e1 := by
  simp only [wpS_y, wpM_y, retMS, yes_bind, yes_some]
theorem w_drop : wpS (dropS a) e QS ↔ wpE a e fun _ e1 => QS .nx e1 := by
  simp only [wpS_y, wpE_y, dropS, yes_bind, yes_some]
theorem w_ifS : wpS (ifS t s s') e QS ↔ wpT t e fun r e1 => if r = true then wpS s e1 QS else wpS s' e1 QS := by
  simp only [wpS_y, wpT_y, ifS, yes_bind]
  constructor <;> rintro ⟨⟨r, e1⟩, h, q⟩ <;> refine ⟨_, h, ?_⟩ <;> cases r <;> simpa using q
theorem w_retN : wpS retNS e QS ↔ QS (.rt (.imm .non)) e := pure_ex
theorem w_bk : wpS bkS e QS ↔ QS .bk e := pure_ex
theorem w_ct : wpS ctS e QS ↔ QS .ct e := pure_ex
def isL : M → Option (List D)
  | .lst xs => some xs
  | _ => none
theorem w_app : wpS (appS i a) e QS ↔ yes (slot e i) fun x0 => yes (isL x0) fun _ => wpE a e fun d e1 => yes (slot e1 i) fun x => yes (isL x) fun xs => xs.length < big ∧ QS .nx (e1.set i (some (.lst (xs ++ [d])))) := by
  simp only [wpS_y, wpE_y, appS]
  cases h : slot e i with
  | none => simp [yes_none, isLst]
  | some x =>
    cases x with
    | lst ys =>
      simp only [yes_some, isLst, isL, if_true, yes_bind]
      constructor
      · rintro ⟨⟨d, e1⟩, h1, q⟩
        refine ⟨_, h1, ?_⟩
        cases h2 : slot e1 i with
        | none => simp [h2, yes_none] at q
        | some x => cases x <;> simp [h2, yes_none, yes_some, isL, yes_ite] at q ⊢; exact q
      · rintro ⟨⟨d, e1⟩, h1, q⟩
        refine ⟨_, h1, ?_⟩
        cases h2 : slot e1 i with
        | none => simp [h2, yes_none] at q
        | some x => cases x <;> simp [h2, yes_none, yes_some, isL, yes_ite] at q ⊢; exact q
    | _ => simp [yes_some, yes_none, isLst, isL]
def putI : M → D → Option (List D × Nat)
  | .lst xs, .int z => (ixOf xs.length z).map fun j => (xs, j)
  | _, _ => none
theorem w_put : wpS (putS i b a) e QS ↔ wpE a e fun d e1 => yes (slot e1 i) fun _ => wpE b e1 fun k e2 => yes (slot e2 i) fun x => yes (putI x k) fun p => QS .nx (e2.set i (some (.lst (p.1.set p.2 d)))) := by
  have key : ∀ (d k : D) (e2 : En), yes (match slot e2 i, k with | some (.lst xs), .int z => (ixOf xs.length z).bind fun j => some (Fl.nx, e2.set i (some (.lst (xs.set j d)))) | _, _ => none) (fun p => QS p.1 p.2) ↔ yes (slot e2 i) fun x => yes (putI x k) fun p => QS .nx (e2.set i (some (.lst (p.1.set p.2 d)))) := by
    intro d k e2
    cases h : slot e2 i with
    | none => simp [yes_none]
    | some x => cases x <;> cases k <;> simp [yes_none, yes_some, putI, yes_bind, yes_map]
  simp only [wpS_y, wpE_y, putS, yes_bind]
  constructor
  · rintro ⟨p, h1, x, h2, q, h3, r⟩
    exact ⟨p, h1, x, h2, q, h3, (key _ _ _).mp r⟩
  · rintro ⟨p, h1, x, h2, q, h3, r⟩
    exact ⟨p, h1, x, h2, q, h3, (key _ _ _).mpr r⟩
theorem w_aug {op : D → D → Option D} : wpS (augS op i a) e QS ↔ ∃ d, slot e i = some (.imm d) ∧ wpE a e fun y e1 => yes (op d y) fun r => QS .nx (e1.set i (some (.imm r))) := by
  simp only [wpS_y, wpE_y, augS]
  cases h : slot e i with
  | none => simp [yes_none]
  | some x => cases x <;> simp [yes_none, yes_some, yes_bind]
/-! walked -/
def wpI (f : FI) (e : En) (Q : List D → En → Prop) : Prop := ∃ d e', f e = some (d, e') ∧ Q d e'
def wpL (g : FG) (b : FS) (ds : List D) (e : En) (Q : Fl → En → Prop) : Prop := ∃ d e', forL g b ds e = some (d, e') ∧ Q d e'
theorem wpI_y {f : FI} : wpI f e QA ↔ yes (f e) fun p => QA p.1 p.2 := pair_ex
theorem wpL_y {g : FG} {b : FS} {ds : List D} : wpL g b ds e QS ↔ yes (forL g b ds e) fun p => QS p.1 p.2 := pair_ex
theorem w_for {g : FG} {it : FI} : wpS (forS g it s) e QS ↔ wpI it e fun ds e1 => wpL g s ds e1 QS := by
  simp only [wpS_y, wpI_y, wpL_y, forS, yes_bind]
theorem w_it : wpI (itF a) e QA ↔ wpE a e fun x e1 => yes (itemsD x) fun xs => QA xs e1 := by
  simp only [wpE_y, wpI_y, itF, yes_bind, yes_map]
def rng1D : D → Option (List D)
  | .int j => if -two62 ≤ j ∧ j < two62 then some (upto 0 j.toNat) else none
  | _ => none
def rng2D : D → D → Option (List D)
  | .int i, .int j => if -two62 ≤ i ∧ i < two62 ∧ -two62 ≤ j ∧ j < two62 then some (upto i (j - i).toNat) else none
  | _, _ => none
theorem w_rng1 : wpI (rng1 a) e QA ↔ wpE a e fun x e1 => yes (rng1D x) fun xs => QA xs e1 := by
  simp only [wpE_y, wpI_y, rng1, yes_bind]
  constructor <;> rintro ⟨⟨r, e1⟩, h, q⟩ <;> refine ⟨_, h, ?_⟩ <;> cases r <;> simp [yes_none, rng1D, yes_ite] at q ⊢ <;> exact q
theorem w_rng2 : wpI (rng2 a b) e QA ↔ wpE a e fun x e1 => wpE b e1 fun y e2 => yes (rng2D x y) fun xs => QA xs e2 := by
  simp only [wpE_y, wpI_y, rng2, yes_bind]
  constructor <;> rintro ⟨⟨r, e1⟩, h, ⟨⟨r2, e2⟩, h2, q⟩⟩ <;> refine ⟨_, h, _, h2, ?_⟩ <;> cases r <;> cases r2 <;> simp [yes_none, rng2D, yes_ite] at q ⊢ <;> exact q
theorem w_enum : wpI (enumF a) e QA ↔ wpE a e fun x e1 => yes (itemsD x) fun xs => QA (numd 0 xs) e1 := by
  simp only [wpE_y, wpI_y, enumF, yes_bind, yes_map]
theorem w_zip : wpI (zipF a b) e QA ↔ wpE a e fun x e1 => wpE b e1 fun y e2 => yes (itemsD x) fun xs => yes (itemsD y) fun ys => QA (zipL xs ys) e2 := by
  simp only [wpE_y, wpI_y, zipF, yes_bind, yes_map]
/-- a loop, by what holds ahead of each turn -/
theorem for_inv {g : FG} {b : FS} {ds : List D} (I : Nat → En → Prop) (h0 : I 0 e) (h1 : ∀ i d e, ds[i]? = some d → I i e → wpG g d e fun e1 => wpS b e1 fun fl e2 => match fl with
    | .nx => I (i + 1) e2
    | .ct => I (i + 1) e2
    | .bk => QS .nx e2
    | .rt m => QS (.rt m) e2) (h2 : ∀ e, I ds.length e → QS .nx e) : wpL g b ds e QS := by
  have go : ∀ (l : List D) (k : Nat) (e : En), ds.drop k = l → k ≤ ds.length → I k e → wpL g b l e QS := by
    intro l
    induction l with
    | nil =>
      intro k e hd hk hi
      have : k = ds.length := by
        have := congrArg List.length hd
        simp at this
        omega
      subst this
      exact ⟨.nx, e, rfl, h2 e hi⟩
    | cons d l ih =>
      intro k e hd hk hi
      have hk2 : k < ds.length := by
        have := congrArg List.length hd
        simp at this
        omega
      have hdk : ds[k]? = some d := by
        have := congrArg (fun l => l[0]?) hd
        simpa using this
      have hd2 : ds.drop (k + 1) = l := by
        have := congrArg List.tail hd
        simpa using this
      obtain ⟨e1, hg, fl, e2, hb, q⟩ := h1 k d e hdk hi
      cases fl with
      | nx =>
        obtain ⟨f, e3, h3, q3⟩ := ih (k + 1) e2 hd2 hk2 q
        exact ⟨f, e3, by simp [forL, hg, hb, h3], q3⟩
      | ct =>
        obtain ⟨f, e3, h3, q3⟩ := ih (k + 1) e2 hd2 hk2 q
        exact ⟨f, e3, by simp [forL, hg, hb, h3], q3⟩
      | bk => exact ⟨.nx, e2, by simp [forL, hg, hb], q⟩
      | rt m => exact ⟨.rt m, e2, by simp [forL, hg, hb], q⟩
  exact go ds 0 e rfl (Nat.zero_le _) h0
theorem wG_name {d : D} {R : En → Prop} : wpG (nameG i) d e R ↔ R (e.set i (some (.imm d))) := by simp [wpG, nameG]
theorem wG_tup {is : List Nat} {ds : List D} {R : En → Prop} : wpG (tupG is) (.tup ds) e R ↔ yes (namesG is ds e) R := Iff.rfl
/-- a while loop -/
theorem while_inv {n : Nat} (I : Nat → En → Prop) (h0 : I n e) (h1 : ∀ k e, I k e → wpT t e fun r e1 => if r = true then ∃ j, k = j + 1 ∧ wpS s e1 fun fl e2 => (match fl with
    | .nx => I j e2
    | .ct => I j e2
    | .bk => QS .nx e2
    | .rt m => QS (.rt m) e2) else 0 < k ∧ QS .nx e1) : wpS (whileN t s n) e QS := by
  induction n generalizing e with
  | zero =>
    obtain ⟨r, e1, h, q⟩ := h1 0 e h0
    cases r with
    | true => simp at q
    | false => simp at q
  | succ n ih =>
    obtain ⟨r, e1, h, q⟩ := h1 (n + 1) e h0
    cases r with
    | false =>
      simp at q
      exact ⟨.nx, e1, by simp [whileN, h], q⟩
    | true =>
      simp only [if_true] at q
      obtain ⟨j, ej, fl, e2, hb, q⟩ := q
      have : n = j := by omega
      subst this
      cases fl with
      | nx => obtain ⟨f, e3, h3, q3⟩ := ih q; exact ⟨f, e3, by simp [whileN, h, hb, h3], q3⟩
      | ct => obtain ⟨f, e3, h3, q3⟩ := ih q; exact ⟨f, e3, by simp [whileN, h, hb, h3], q3⟩
      | bk => exact ⟨.nx, e2, by simp [whileN, h, hb], q⟩
      | rt m => exact ⟨.rt m, e2, by simp [whileN, h, hb], q⟩
/-! defs -/
def retM : Fl → Option M
  | .rt m => some m
  | .nx => some (.imm .non)
  | _ => none
theorem w_def {n : Nat} {ms : List M} {R : M → List M → Prop} : wpF (defF n s) ms R ↔ wpS s (ms.map some ++ List.replicate (n - ms.length) none) fun fl e1 => yes (retM fl) fun m => yes (backM ms e1) fun l => R m l := by
  simp only [wpF_y, wpS_y, defF, yes_bind]
  constructor <;> rintro ⟨⟨r, e1⟩, h, q⟩ <;> refine ⟨_, h, ?_⟩ <;> cases r <;> simpa [yes_some, yes_none, retM, yes_map] using q
end
/-! items of short rows -/
section
variable {α : Type} {a b c d f : α} {l : List α}
theorem atL_0 : atL (a :: l) 0 = some a := by simp [atL, ixOf]
theorem atL_1 : atL (a :: b :: l) 1 = some b := by
  have : (1 : Int) < ((a :: b :: l).length : Int) := by simp; omega
  simp only [atL, ixOf, this]; rfl
theorem atL_2 : atL (a :: b :: c :: l) 2 = some c := by
  have : (2 : Int) < ((a :: b :: c :: l).length : Int) := by simp; omega
  simp only [atL, ixOf, this]; rfl
theorem atL_3 : atL (a :: b :: c :: d :: l) 3 = some d := by
  have : (3 : Int) < ((a :: b :: c :: d :: l).length : Int) := by simp; omega
  simp only [atL, ixOf, this]; rfl
theorem atL_4 : atL (a :: b :: c :: d :: f :: l) 4 = some f := by
  have : (4 : Int) < ((a :: b :: c :: d :: f :: l).length : Int) := by simp; omega
  simp only [atL, ixOf, this]; rfl
theorem atL_nat {xs : List α} {k : Nat} {a : α} (h : xs[k]? = some a) : atL xs (k : Int) = some a := by
  have hk := (List.getElem?_eq_some_iff.mp h).1
  unfold atL ixOf
  have h1 : ((k : Int) < (xs.length : Int)) := by omega
  simp [h1, h]
theorem ix2_0 : ixOf 2 0 = some 0 := rfl
theorem ix2_1 : ixOf 2 1 = some 1 := rfl
end
section
variable {e : En} {QS : Fl → En → Prop} {s s' : FS} {t : FT}
theorem seq_mid (I : En → Prop) (h1 : wpS s e fun fl e1 => fl = .nx ∧ I e1) (h2 : ∀ e1, I e1 → wpS s' e1 QS) : wpS (seqS s s') e QS := by
  obtain ⟨fl, e1, h, rfl, hi⟩ := h1
  obtain ⟨f2, e2, h3, q⟩ := h2 e1 hi
  exact ⟨f2, e2, by simp [seqS, h, h3], q⟩
theorem wpS_mono {Q Q' : Fl → En → Prop} (h : wpS s e Q) (k : ∀ fl e, Q fl e → Q' fl e) : wpS s e Q' := by
  obtain ⟨f, e1, h1, h2⟩ := h
  exact ⟨f, e1, h1, k _ _ h2⟩
end
theorem pow_18 : powD (.int 10) (.int 18) = some (.int 1000000000000000000) := by decide +kernel
theorem upto_get : ∀ (n : Nat) (lo : Int) (i : Nat) (d : D), (upto lo n)[i]? = some d → i < n ∧ d = .int (lo + i)
  | 0, lo, i, d, h => by simp [upto] at h
  | n + 1, lo, 0, d, h => by simp [upto] at h; subst h; simp
  | n + 1, lo, i + 1, d, h => by
    obtain ⟨h1, h2⟩ := upto_get n (lo + 1) i d (by simpa [upto] using h)
    exact ⟨by omega, by rw [h2]; congr 1; push_cast; omega⟩
theorem upto_len : ∀ (n : Nat) (lo : Int), (upto lo n).length = n
  | 0, _ => rfl
  | n + 1, lo => by simp [upto, upto_len n]
end VD
end

section
/-! TH: words and what may change places. Plain lists. -/
set_option linter.all false
namespace TH
inductive Rch (f : Nat → Nat → Bool) : List Nat → List Nat → Prop where
  | refl (w : List Nat) : Rch f w w
  | step {w : List Nat} (p : List Nat) (a b : Nat) (q : List Nat) (h : Rch f w (p ++ a :: b :: q)) (hf : f a b = true) : Rch f w (p ++ b :: a :: q)
section
variable {f : Nat → Nat → Bool}
theorem Rch.perm {u v : List Nat} (h : Rch f u v) : v.Perm u := by
  induction h with
  | refl => exact .refl _
  | step p a b q h hf ih => exact (List.Perm.append_left p (List.Perm.swap a b q)).trans ih
theorem Rch.trans {u v w : List Nat} (h1 : Rch f u v) (h2 : Rch f v w) : Rch f u w := by
  induction h2 with
  | refl => exact h1
  | step p a b q _ hf ih => exact .step p a b q ih hf
theorem Rch.cons {u v : List Nat} (a : Nat) (h : Rch f u v) : Rch f (a :: u) (a :: v) := by
  induction h with
  | refl => exact .refl _
  | step p c b q _ hf ih => exact .step (a :: p) c b q ih hf
theorem Rch.one {p q : List Nat} {a b : Nat} (hf : f a b = true) : Rch f (p ++ a :: b :: q) (p ++ b :: a :: q) := .step p a b q (.refl _) hf
theorem Rch.symm (sy : ∀ a b, f a b = f b a) {u v : List Nat} (h : Rch f u v) : Rch f v u := by
  induction h with
  | refl => exact .refl _
  | step p a b q _ hf ih => exact (Rch.one (by rw [sy]; exact hf)).trans ih
/-- what is asked of pairs of letters -/
def Alike (f : Nat → Nat → Bool) (u v : List Nat) : Prop := (∀ x, u.count x = v.count x) ∧ ∀ x y, x ≠ y → f x y = false → u.filter (· ∈ [x, y]) = v.filter (· ∈ [x, y])
theorem Rch.alike (sy : ∀ a b, f a b = f b a) {u v : List Nat} (h : Rch f u v) : Alike f u v := by
  refine ⟨fun x => (h.perm.count_eq x).symm, fun x y hxy hf => ?_⟩
  induction h with
  | refl => rfl
  | step p a b q _ hab ih =>
    rw [ih, List.filter_append, List.filter_append]
    congr 1
    by_cases hab' : a = b
    · subst hab'; rfl
    have e1 : ∀ c : Nat, (c ∈ [x, y]) ↔ (c = x ∨ c = y) := fun c => by simp
    by_cases ha : a = x ∨ a = y <;> by_cases hb : b = x ∨ b = y
    · exfalso
      rcases ha with rfl | rfl <;> rcases hb with rfl | rfl
      · exact hab' rfl
      · rw [hf] at hab; cases hab
      · rw [sy, hf] at hab; cases hab
      · exact hab' rfl
    all_goals simp [List.filter_cons, e1, ha, hb]
/-- a letter goes to the front over letters that let it -/
theorem Rch.front {a : Nat} (sy : ∀ a b, f a b = f b a) : ∀ (p q : List Nat), (∀ b ∈ p, f a b = true) → Rch f (p ++ a :: q) (a :: (p ++ q))
  | [], q, _ => .refl _
  | b :: p, q, h => by
    have h1 : Rch f (b :: (p ++ a :: q)) (b :: a :: (p ++ q)) := (Rch.front sy p q fun c hc => h c (List.mem_cons_of_mem _ hc)).cons b
    exact h1.trans (Rch.one (p := []) (by rw [sy]; exact h b List.mem_cons_self))
theorem alike_rch (sy : ∀ a b, f a b = f b a) (ir : ∀ a, f a a = false) : ∀ u v : List Nat, Alike f u v → Rch f u v
  | [], v, h => by
    have : v = [] := by
      cases v with
      | nil => rfl
      | cons c v => have := h.1 c; simp at this
    subst this
    exact .refl _
  | a :: u, v, h => by
    have hav : a ∈ v := by
      have := h.1 a
      rw [List.count_cons_self] at this
      exact List.count_pos_iff.mp (by omega)
    obtain ⟨p, q, rfl, hp⟩ := List.eq_append_cons_of_mem hav
    have e1 : ∀ x y c : Nat, (c ∈ [x, y]) ↔ (c = x ∨ c = y) := fun x y c => by simp
    have hall : ∀ b ∈ p, f a b = true := fun b hb => by
      cases hf : f a b with
      | true => rfl
      | false =>
        exfalso
        have hab : a ≠ b := fun e => hp (e ▸ hb)
        have h2 := h.2 a b hab hf
        rw [List.filter_append] at h2
        have hne : p.filter (· ∈ [a, b]) ≠ [] := fun e => by
          have := List.filter_eq_nil_iff.mp e b hb
          simp at this
        cases hq : p.filter (· ∈ [a, b]) with
        | nil => exact hne hq
        | cons c r =>
          have hc : c ∈ p.filter (· ∈ [a, b]) := by rw [hq]; exact List.mem_cons_self
          obtain ⟨hc1, hc2⟩ := List.mem_filter.mp hc
          rw [hq, List.filter_cons] at h2
          simp only [List.mem_cons, true_or, decide_true, if_true, List.cons_append, List.cons.injEq] at h2
          exact hp (h2.1 ▸ hc1)
    have fr := Rch.front sy p q hall
    have al := fr.alike sy
    have h3 : Alike f u (p ++ q) := by
      refine ⟨fun x => ?_, fun x y hxy hf => ?_⟩
      · have := (h.1 x).trans (al.1 x)
        rw [List.count_cons, List.count_cons] at this
        omega
      · have := (h.2 x y hxy hf).trans (al.2 x y hxy hf)
        rw [List.filter_cons, List.filter_cons] at this
        split at this
        · simpa using this
        · exact this
    exact (Rch.cons a (alike_rch sy ir u (p ++ q) h3)).trans (fr.symm sy)
end
end TH
namespace TH
theorem nodup_len {α : Type} [DecidableEq α] : ∀ {l m : List α}, l.Nodup → (∀ x ∈ l, x ∈ m) → l.length ≤ m.length
  | [], _, _, _ => Nat.zero_le _
  | x :: l, m, nd, h => by
    obtain ⟨n1, n2⟩ := List.nodup_cons.mp nd
    have hx := h x List.mem_cons_self
    have := nodup_len (l := l) (m := m.erase x) n2 fun y hy => (List.mem_erase_of_ne (fun e : y = x => n1 (by rw [← e]; exact hy))).mpr (h y (List.mem_cons_of_mem _ hy))
    rw [List.length_erase_of_mem hx] at this
    have := List.length_pos_of_mem hx
    simp only [List.length_cons]
    omega
/-- all words of n letters -/
def words (L : List Nat) : Nat → List (List Nat)
  | 0 => [[]]
  | n + 1 => L.flatMap fun c => (words L n).map (c :: ·)
theorem mem_words {L : List Nat} : ∀ {n : Nat} {w : List Nat}, w.length = n → (∀ c ∈ w, c ∈ L) → w ∈ words L n
  | 0, [], _, _ => by simp [words]
  | n + 1, c :: w, h, hc => by
    simp only [words, List.mem_flatMap, List.mem_map]
    exact ⟨c, hc c List.mem_cons_self, w, mem_words (by simpa using h) fun d hd => hc d (List.mem_cons_of_mem _ hd), rfl⟩
theorem len_words (L : List Nat) : ∀ n, (words L n).length = L.length ^ n
  | 0 => rfl
  | n + 1 => by
    simp only [words, List.length_flatMap, List.length_map, len_words L n]
    have : ∀ (l : List Nat) (k : Nat), (l.map fun _ => k).sum = l.length * k := fun l k => by
      induction l with
      | nil => simp
      | cons a l ih => simp [ih, Nat.succ_mul]; omega
    rw [this, Nat.pow_succ, Nat.mul_comm]
/-- all words that can be come to: closed under one change -/
theorem closed_rch {f : Nat → Nat → Bool} {w : List Nat} {S : List Nat → Prop} (hw : S w) (hc : ∀ p a b q, S (p ++ a :: b :: q) → f a b = true → S (p ++ b :: a :: q)) {u : List Nat} (h : Rch f w u) : S u := by
  induction h with
  | refl => exact hw
  | step p a b q _ hf ih => exact hc p a b q ih hf
end TH
end

section
set_option linter.all false
set_option maxRecDepth 10000
/-! TA: rules and words: what no law's text is named in. -/
namespace TH
open VD
/-- the box of numbers, as it is drawn from -/
def IsBox (m : M) : Prop := ∃ (ds : List Int) (k : Nat), m = .lst [.lst (ds.map .int), .int k] ∧ ∀ d ∈ ds, 0 ≤ d
/-- an alphabet -/
def Al (L : List Nat) (ps : List (List Nat)) : D := .tup [.str [97, 108, 112, 104, 97, 98, 101, 116], .str L, .tup (ps.map .str)]
structure AlOk (L : List Nat) (ps : List (List Nat)) : Prop where
  srt : L.Pairwise (· < ·)
  ne : L ≠ []
  len : L.length ≤ 6
  two : ∀ p ∈ ps, ∃ x y, p = [x, y] ∧ x < y
theorem sortL_strs {ps : List (List Nat)} (h : ps.length ≤ big) : ∃ qs : List (List Nat), sortL (ps.map .str) = some (qs.map .str) ∧ qs.Perm ps := by
  have hs : sortable (ps.map D.str) = true := by
    unfold sortable
    simp only [Bool.and_eq_true, List.all_eq_true, List.mem_map, forall_exists_index, and_imp, forall_apply_eq_imp_iff₂, decide_eq_true_eq, List.length_map, Bool.or_eq_true]
    refine ⟨⟨⟨fun a _ b _ => rfl, .inr fun a _ => rfl⟩, fun a _ => Nat.zero_le _⟩, h⟩
  have hp := List.mergeSort_perm (ps.map D.str) dLe
  obtain ⟨qs, hq1, hq2⟩ : ∃ qs : List (List Nat), (ps.map D.str).mergeSort dLe = qs.map .str ∧ qs.Perm ps := by
    have : ∀ (l : List D), (∀ d ∈ l, ∃ z, d = D.str z) → ∃ qs : List (List Nat), l = qs.map D.str := by
      intro l
      induction l with
      | nil => intro _; exact ⟨[], rfl⟩
      | cons d l ih =>
        intro h
        obtain ⟨z, rfl⟩ := h d List.mem_cons_self
        obtain ⟨qs, rfl⟩ := ih fun d hd => h d (List.mem_cons_of_mem _ hd)
        exact ⟨z :: qs, rfl⟩
    obtain ⟨qs, hq⟩ := this ((ps.map D.str).mergeSort dLe) fun d hd => by
      obtain ⟨z, _, rfl⟩ := List.mem_map.mp (hp.mem_iff.mp hd)
      exact ⟨z, rfl⟩
    refine ⟨qs, hq, ?_⟩
    rw [hq] at hp
    have := hp.map (fun d : D => match d with | .str z => z | _ => [])
    simpa [List.map_map, Function.comp_def] using this
  exact ⟨qs, by unfold sortL; rw [if_pos hs, hq1], hq2⟩
theorem lett {L : List Nat} {k : Nat} (h : k < L.length) : ∃ c, L[k]? = some c ∧ c ∈ L := ⟨L[k], List.getElem?_eq_getElem h, List.getElem_mem h⟩
theorem al_1 {L ps} : atL [D.str [97, 108, 112, 104, 97, 98, 101, 116], D.str L, D.tup ps] 1 = some (.str L) := atL_1
/-- a word over L -/
def Wd (L w : List Nat) : Prop := ∀ c ∈ w, c ∈ L
theorem depL_strs (ps : List (List Nat)) : depL (ps.map D.str) = 0 := by
  induction ps with
  | nil => rfl
  | cons p ps ih => simp [depL, dep, ih]
theorem in_strs (s : List Nat) (ps : List (List Nat)) : inD (.str s) (.tup (ps.map .str)) = some (decide (s ∈ ps)) := by
  have : ((ps.map D.str).any fun y => peq y (.str s)) = decide (s ∈ ps) := by
    induction ps with
    | nil => rfl
    | cons p ps ih =>
      rw [List.map_cons, List.any_cons, ih]
      simp only [peq, List.mem_cons]
      by_cases h : p = s
      · subst h; simp
      · have h' : ¬ s = p := fun e => h e.symm
        simp [h, h']
  unfold inD
  cases s <;> simp [dep, depL_strs, this, room]
/-- may change places -/
def fr (ps : List (List Nat)) (x y : Nat) : Bool := decide ([x, y] ∈ ps) || decide ([y, x] ∈ ps)
theorem fr_comm (ps : List (List Nat)) (x y : Nat) : fr ps x y = fr ps y x := by unfold fr; rw [Bool.or_comm]
theorem cut_to {α : Type} (xs : List α) (k : Nat) : cutL xs none (some (k : Int)) = xs.take k := by
  have : ¬ (k : Int) < 0 := by omega
  simp only [cutL, sxOf, this, if_false, List.drop_zero, Nat.sub_zero, Int.toNat_natCast]
  by_cases h : k ≤ xs.length
  · rw [Nat.min_eq_left h]
  · rw [Nat.min_eq_right (by omega), List.take_length, List.take_of_length_le (by omega)]
theorem cut_from {α : Type} (xs : List α) (k : Nat) : cutL xs (some (k : Int)) none = xs.drop k := by
  have : ¬ (k : Int) < 0 := by omega
  simp only [cutL, sxOf, this, if_false, Int.toNat_natCast]
  by_cases h : k ≤ xs.length
  · rw [Nat.min_eq_left h, List.take_of_length_le (by simp)]
  · rw [Nat.min_eq_right (by omega), List.drop_length, List.drop_eq_nil_of_le (by omega)]
    simp
/-- the places k, k + 1 turned -/
def turn (w : List Nat) (k : Nat) (h : k + 1 < w.length) : List Nat := w.take k ++ w[k + 1] :: w[k] :: w.drop (k + 2)
theorem turn_eq (w : List Nat) (k : Nat) (h : k + 1 < w.length) : w = w.take k ++ w[k] :: w[k + 1] :: w.drop (k + 2) := by
  conv => lhs; rw [← List.take_append_drop k w]
  rw [List.drop_eq_getElem_cons (by omega), List.drop_eq_getElem_cons h]
theorem turn_rch {f : Nat → Nat → Bool} {u w : List Nat} {k : Nat} (h : k + 1 < w.length) (hf : f w[k] w[k + 1] = true) (hr : Rch f u w) : Rch f u (turn w k h) := by
  unfold turn
  refine .step _ _ _ _ ?_ hf
  rw [← turn_eq w k h]
  exact hr
theorem turn_len (w : List Nat) (k : Nat) (h : k + 1 < w.length) : (turn w k h).length = w.length := by
  simp [turn]
  omega
theorem app_le {a b c : List Nat} (h : (a ++ b).length ≤ c.length) (hc : c.length ≤ 100) : a.length + b.length ≤ big := by
  rw [List.length_append] at h
  unfold big; omega
theorem lt1 (x y : Nat) : ([x] : List Nat) < [y] ↔ x < y := by
  constructor
  · intro h
    cases h with
    | rel h => exact h
    | cons h => cases h
  · intro h
    exact List.Lex.rel h
/-- a text's signs, as texts -/
abbrev sg (w : List Nat) : List D := w.map fun c => D.str [c]
theorem gen_taken (w s : List Nat) : ∀ (l : List Nat), genL1 (nameG 2) (ts2 inD (varF 2) (varF 1)) (varF 2) [2] goOn (sg l) [some (.imm (.str w)), some (.imm (.str s)), none] = some ((sg (l.filter (· ∈ s)), false), [some (.imm (.str w)), some (.imm (.str s)), none])
  | [] => rfl
  | c :: l => by
    by_cases h : c ∈ s
    · simp [genL1, nameG, ts2, varF, slot, inD, goOn, wipeE, h, gen_taken w s l]
    · simp [genL1, nameG, ts2, varF, slot, inD, goOn, wipeE, h, gen_taken w s l]
theorem strs_sg : ∀ w : List Nat, strsD (sg w) = some (w.map fun c => [c])
  | [] => rfl
  | c :: w => by simp [strsD, strs_sg w]
theorem glue_sg : ∀ w : List Nat, glue [] (w.map fun c => [c]) = w
  | [] => rfl
  | [c] => rfl
  | c :: d :: w => by
    have := glue_sg (d :: w)
    simp only [List.map_cons] at this
    simp only [List.map_cons, glue, List.append_nil, this]
    rfl
theorem join_sg (w : List Nat) (h : w.length ≤ big) : joinL [] (sg w) = some w := by
  unfold joinL
  rw [strs_sg]
  have h1 : ((w.map fun c => [c]).map fun z => z.length + ([] : List Nat).length).sum = w.length := by
    clear h
    induction w with
    | nil => rfl
    | cons c w ih =>
      have ih : ((w.map fun c => [c]).map fun z => z.length + 0).sum = w.length := ih
      simp only [List.map_cons, List.sum_cons, List.length_cons, List.length_nil, ih]; omega
  simp only [Option.bind_some, h1, glue_sg, List.length_map]
  rw [if_pos ⟨h, h⟩]
theorem find_at {α β : Type} {G : α → Option β} : ∀ {l : List α} {i : Nat} {x : α}, (l.take i).findSome? G = none → l[i]? = some x → (∀ d, G x = some d → l.findSome? G = some d) ∧ (G x = none → (l.take (i + 1)).findSome? G = none)
  | [], _, _, _, h => by simp at h
  | a :: l, 0, x, _, h => by
    simp at h
    subst h
    exact ⟨fun d hd => by simp [List.findSome?_cons, hd], fun hn => by simp [List.findSome?_cons, hn]⟩
  | a :: l, i + 1, x, h0, h => by
    rw [List.take_succ_cons, List.findSome?_cons] at h0
    cases ha : G a with
    | some d => rw [ha] at h0; cases h0
    | none =>
      rw [ha] at h0
      obtain ⟨h1, h2⟩ := find_at (l := l) (i := i) h0 (by simpa using h)
      exact ⟨fun d hd => by rw [List.findSome?_cons, ha]; exact h1 d hd, fun hn => by rw [List.take_succ_cons, List.findSome?_cons, ha]; exact h2 hn⟩
theorem find_loop {α : Type} {g : FG} {b : FS} {l : List α} {ds : List D} {e : En} {QS : Fl → En → Prop} (G : α → Option D) (J : En → Prop) (hl : ds.length = l.length) (hJ : J e)
    (step : ∀ (i : Nat) (x : α) (d : D) (e : En), l[i]? = some x → ds[i]? = some d → J e → wpG g d e fun e1 => wpS b e1 fun fl e2 => (match G x with | some r => fl = .rt (.imm r) | none => fl = .nx) ∧ J e2)
    (k : ∀ fl e', J e' → (match l.findSome? G with | some r => fl = .rt (.imm r) | none => fl = .nx) → QS fl e') : wpL g b ds e QS := by
  refine for_inv (fun i e => J e ∧ (l.take i).findSome? G = none) ⟨hJ, rfl⟩ ?_ ?_
  · rintro i d e hi ⟨hj, hn⟩
    have hil : i < l.length := by rw [← hl]; exact (List.getElem?_eq_some_iff.mp hi).1
    have hx : l[i]? = some l[i] := List.getElem?_eq_getElem hil
    obtain ⟨f1, f2⟩ := find_at hn hx
    obtain ⟨e1, hg, fl, e2, hb, q, hj2⟩ := step i _ d e hx hi hj
    refine ⟨e1, hg, fl, e2, hb, ?_⟩
    cases hG : G l[i] with
    | none =>
      rw [hG] at q
      have q : fl = .nx := q
      subst q
      exact ⟨hj2, f2 hG⟩
    | some r =>
      rw [hG] at q
      have q : fl = .rt (.imm r) := q
      subst q
      exact k _ _ hj2 (by rw [f1 r hG])
  · rintro e ⟨hj, hn⟩
    rw [hl, List.take_length] at hn
    exact k _ _ hj (by rw [hn])
def cT (x : Nat) : D := .tup [.str [99, 111, 117, 110, 116], .str [x]]
def oT (x y : Nat) : D := .tup [.str [111, 114, 100, 101, 114], .str [x], .str [y]]
def pC (w v : List Nat) (x : Nat) : Option D := if w.count x = v.count x then none else some (cT x)
def pO (ps : List (List Nat)) (w v : List Nat) (x y : Nat) : Option D := if fr ps x y = false ∧ w.filter (· ∈ [x, y]) ≠ v.filter (· ∈ [x, y]) then some (oT x y) else none
def pOs (L : List Nat) (ps : List (List Nat)) (w v : List Nat) (x : Nat) : Option D := (L.filter (x < ·)).findSome? (pO ps w v x)
/-- what parts the words -/
def partsR (L : List Nat) (ps : List (List Nat)) (w v : List Nat) : D := match L.findSome? (pC w v) with
  | some d => d
  | none => match L.findSome? (pOs L ps w v) with
    | some d => d
    | none => .non
theorem drop_srt {L : List Nat} (h : L.Pairwise (· < ·)) {i : Nat} {x : Nat} (hx : L[i]? = some x) : L.drop (i + 1) = L.filter (x < ·) := by
  obtain ⟨hi, rfl⟩ := List.getElem?_eq_some_iff.mp hx
  have h0 : L.filter (L[i] < ·) = (L.take (i + 1)).filter (L[i] < ·) ++ (L.drop (i + 1)).filter (L[i] < ·) := by
    rw [← List.filter_append, List.take_append_drop]
  have h1 : (L.take (i + 1)).filter (L[i] < ·) = [] := by
    rw [List.filter_eq_nil_iff]
    intro a ha
    obtain ⟨j, hj, rfl⟩ := List.getElem_of_mem ha
    rw [List.length_take] at hj
    rw [List.getElem_take]
    have : L[j] ≤ L[i] := by
      rcases Nat.lt_or_ge j i with z | z
      · exact Nat.le_of_lt (List.pairwise_iff_getElem.mp h j i (by omega) hi z)
      · have : j = i := by omega
        subst this; exact Nat.le_refl _
    simp; omega
  have h2 : (L.drop (i + 1)).filter (L[i] < ·) = L.drop (i + 1) := by
    rw [List.filter_eq_self]
    intro a ha
    obtain ⟨j, hj, rfl⟩ := List.getElem_of_mem ha
    rw [List.getElem_drop]
    rw [List.length_drop] at hj
    simpa using List.pairwise_iff_getElem.mp h i (i + 1 + j) hi (by omega) (by omega)
  rw [h0, h1, h2, List.nil_append]
theorem numd_get : ∀ {l : List D} {k : Int} {i : Nat} {d : D}, (numd k l)[i]? = some d → ∃ x, l[i]? = some x ∧ d = .tup [.int (k + i), x]
  | [], _, _, _, h => by simp [numd] at h
  | x :: l, k, 0, d, h => by simp [numd] at h; exact ⟨x, rfl, by rw [← h]; simp⟩
  | x :: l, k, i + 1, d, h => by
    obtain ⟨y, h1, h2⟩ := numd_get (l := l) (k := k + 1) (i := i) (d := d) (by simpa [numd] using h)
    exact ⟨y, by simpa using h1, by rw [h2]; congr 3; push_cast; omega⟩
theorem numd_len : ∀ (l : List D) (k : Int), (numd k l).length = l.length
  | [], _ => rfl
  | x :: l, k => by simp [numd, numd_len l]
theorem neS (a b : List Nat) : neD (.str a) (.str b) = some (!decide (a = b)) := by simp [neD, dep, room, peq]
theorem neI (a b : Int) : neD (.int a) (.int b) = some (!decide (a = b)) := by
  simp [neD, dep, room, peq]
  rw [Bool.eq_iff_iff]; simp
theorem eqS (a b : List Nat) : eqD (.str a) (.str b) = some (decide (a = b)) := by simp [eqD, dep, room, peq]
theorem comp_cnt (x : Nat) (e0 e1 e2 : Option M) : ∀ (l : List Nat) (acc : List D), acc.length + l.length ≤ 200 →
    compL (nameG 4) (ts2 eqD (varF 4) (varF 3)) (varF 4) [4] (sg l) acc [e0, e1, e2, some (.imm (.str [x])), none] = some (acc ++ sg (l.filter (· == x)), [e0, e1, e2, some (.imm (.str [x])), none])
  | [], acc, _ => by simp [compL]
  | c :: l, acc, h => by
    have hb : acc.length < big := by simp at h; unfold big; omega
    by_cases hc : c = x
    · subst hc
      have ih := comp_cnt c e0 e1 e2 l (acc ++ [.str [c]]) (by simp at h ⊢; omega)
      simp only [sg] at ih
      simp [compL, nameG, ts2, varF, slot, eqS, wipeE, hb, ih]
    · have ih := comp_cnt x e0 e1 e2 l acc (by simp at h; omega)
      simp only [sg] at ih
      simp [compL, nameG, ts2, varF, slot, eqS, wipeE, hc, ih]
theorem cnt_ok {e0 e1 e2 : Option M} {x : Nat} {i : Nat} {o : Option M} {w : List Nat} {Q : D → En → Prop} (hw : w.length ≤ 100) (hi : slot [e0, e1, e2, some (.imm (.str [x])), o] i = some (.imm (.str w))) (hi4 : i ≠ 4)
    (h : ∀ o', Q (.int (w.count x)) [e0, e1, e2, some (.imm (.str [x])), o']) : wpE (lenOfM (compM (nameG 4) (itF (varF i)) (ts2 eqD (varF 4) (varF 3)) (varF 4) [4])) [e0, e1, e2, some (.imm (.str [x])), o] Q := by
  have c := comp_cnt x e0 e1 e2 w [] (by simp; omega)
  refine ⟨_, _, ?_, h (keepO (slot [e0, e1, e2, some (.imm (.str [x])), o] 4))⟩
  simp only [lenOfM, compM, itF, varF, hi, Option.bind_some, itemsD, Option.map_some, wipeE, List.set_cons_succ, List.set_cons_zero]
  have c2 : compL (nameG 4) (ts2 eqD (varF 4) (varF 3)) (varF 4) [4] (List.map (fun c => D.str [c]) w) [] [e0, e1, e2, some (.imm (.str [x])), none] = some ([] ++ sg (w.filter (· == x)), [e0, e1, e2, some (.imm (.str [x])), none]) := c
  rw [c2]
  simp [backE, seqItems, List.count_eq_length_filter, slot]
theorem filter_find {G : Nat → Option D} {p : Nat → Bool} : ∀ L : List Nat, (L.filter p).findSome? G = L.findSome? fun y => if p y = true then G y else none
  | [] => rfl
  | a :: L => by
    by_cases h : p a = true
    · simp [List.filter_cons, h, List.findSome?_cons, filter_find L]
    · simp [List.filter_cons, h, List.findSome?_cons, filter_find L]
/-! the answers compared -/
theorem isi_str (T : String) (s : List Nat) : isiP T (.str s) = some (isB "str" T) := rfl
theorem isi_non (T : String) : isiP T .non = some (isB "NoneType" T) := rfl
theorem isi_tup (T : String) (s : List D) : isiP T (.tup s) = some (isB "tuple" T) := rfl
theorem isB_1 : isB "str" "tuple" = false := by decide +kernel
theorem isB_2 : isB "str" "bool" = false := by decide +kernel
theorem isB_3 : isB "str" "int" = false := by decide +kernel
theorem isB_4 : isB "str" "str" = true := by decide +kernel
theorem isB_5 : isB "NoneType" "tuple" = false := by decide +kernel
theorem isB_6 : isB "tuple" "tuple" = true := by decide +kernel
/-- the dict of the words found -/
def kn (S : List (List Nat)) : List (D × D) := S.map fun u => (.str u, .bl true)
theorem kn_ok (S : List (List Nat)) (u : List Nat) : keyM (.dct (kn S)) (.str u) = some (kn S) := by
  have : keyOk (kn S) (.str u) = true := by
    unfold keyOk kn
    simp [fltK, List.all_map]
  simp [keyM, dctM, this]
theorem kn_any (S : List (List Nat)) (u : List Nat) : ((kn S).any fun q => peq q.1 (.str u)) = decide (u ∈ S) := by
  unfold kn
  induction S with
  | nil => rfl
  | cons v S ih =>
    rw [List.map_cons, List.any_cons, ih]
    simp only [peq, List.mem_cons]
    by_cases h : v = u
    · subst h; simp
    · have h' : ¬ u = v := fun e => h e.symm
      simp [h, h']
theorem kn_put (S : List (List Nat)) (u : List Nat) (h : u ∉ S) : putD (kn S) (.str u) (.bl true) = kn (S ++ [u]) := by
  unfold putD
  rw [kn_any]
  simp [h, kn]
section
variable {e : En} {QT : Bool → En → Prop} {QS : Fl → En → Prop} {QM : M → En → Prop} {a b : FE} {i : Nat}
theorem w_notInDS : wpT (notInDS a i) e QT ↔ wpE a e fun x e1 => yes (slot e1 i) fun m => yes (keyM m x) fun kvs => QT (!kvs.any fun q => peq q.1 x) e1 := by
  simp only [wpE_y, wpT_y, notInDS, yes_bind, yes_map]
theorem w_done1 : wpM (done1 a b) e QM ↔ wpE a e fun k e1 => wpE b e1 fun v e2 => fltK k = true ∧ QM (.dct [(k, v)]) e2 := by
  simp only [wpE_y, wpM_y, done1, yes_bind, yes_ite]
def isDct : M → Option (List (D × D))
  | .dct k => some k
  | _ => none
theorem w_putK : wpS (putKS i b a) e QS ↔ wpE a e fun d e1 => yes (slot e1 i) fun _ => wpE b e1 fun k e2 => yes (slot e2 i) fun x => yes (isDct x) fun kvs => (keyOk kvs k = true ∧ kvs.length < big) ∧ QS .nx (e2.set i (some (.dct (putD kvs k d)))) := by
  have key : ∀ (d k : D) (e2 : En), yes (match slot e2 i with | some (.dct kvs) => if keyOk kvs k = true ∧ kvs.length < big then some (Fl.nx, e2.set i (some (.dct (putD kvs k d)))) else none | _ => none) (fun p => QS p.1 p.2) ↔ yes (slot e2 i) fun x => yes (isDct x) fun kvs => (keyOk kvs k = true ∧ kvs.length < big) ∧ QS .nx (e2.set i (some (.dct (putD kvs k d)))) := by
    intro d k e2
    cases h : slot e2 i with
    | none => simp [yes_none]
    | some x => cases x <;> simp [yes_none, yes_some, isDct, yes_ite]
  simp only [wpS_y, wpE_y, putKS, yes_bind]
  constructor
  · rintro ⟨p, h1, x, h2, q, h3, r⟩
    exact ⟨p, h1, x, h2, q, h3, (key _ _ _).mp r⟩
  · rintro ⟨p, h1, x, h2, q, h3, r⟩
    exact ⟨p, h1, x, h2, q, h3, (key _ _ _).mpr r⟩
end

/-- what has been found: at, the words before it are done -/
structure CI (ps : List (List Nat)) (w : List Nat) (S : List (List Nat)) (k : Nat) : Prop where
  le : k ≤ S.length
  nd : S.Nodup
  st : w ∈ S
  rch : ∀ u ∈ S, Rch (fr ps) w u
  done : ∀ i (hi : i < k) (u : List Nat), S[i]? = some u → ∀ j (h : j + 1 < u.length), fr ps u[j] u[j + 1] = true → turn u j h ∈ S
theorem CI.all {ps w S} (c : CI ps w S S.length) : ∀ u, u ∈ S ↔ Rch (fr ps) w u := by
  refine fun u => ⟨c.rch u, fun h => closed_rch (S := fun u => u ∈ S) c.st (fun p a b q hs hf => ?_) h⟩
  obtain ⟨i, hi⟩ := List.getElem?_of_mem hs
  have hil := (List.getElem?_eq_some_iff.mp hi).1
  have hj : p.length + 1 < (p ++ a :: b :: q).length := by simp
  have e1 : (p ++ a :: b :: q)[p.length] = a := by simp
  have e2 : (p ++ a :: b :: q)[p.length + 1] = b := by simp [List.getElem_append]
  have := c.done i hil _ hi p.length hj (by rw [e1, e2]; exact hf)
  have e3 : turn (p ++ a :: b :: q) p.length hj = p ++ b :: a :: q := by
    unfold turn
    rw [e1, e2]
    simp [List.drop_append]
  rw [e3] at this
  exact this
theorem CI.len {L ps w S k} (c : CI ps w S k) (hw : Wd L w) : S.length ≤ L.length ^ w.length := by
  rw [← len_words]
  refine nodup_len c.nd fun u hu => ?_
  have hp := (c.rch u hu).perm
  exact mem_words hp.length_eq fun d hd => hw d (hp.mem_iff.mp hd)

structure CJ (ps : List (List Nat)) (w : List Nat) (S : List (List Nat)) (k : Nat) (u : List Nat) (jj : Nat) : Prop where
  nd : S.Nodup
  st : w ∈ S
  rch : ∀ u ∈ S, Rch (fr ps) w u
  done : ∀ i (hi : i < k) (u : List Nat), S[i]? = some u → ∀ j (h : j + 1 < u.length), fr ps u[j] u[j + 1] = true → turn u j h ∈ S
  at_ : S[k]? = some u
  here : ∀ j (hj : j < jj) (h : j + 1 < u.length), fr ps u[j] u[j + 1] = true → turn u j h ∈ S
theorem CJ.len {L ps w S k u jj} (c : CJ ps w S k u jj) (hw : Wd L w) : S.length ≤ L.length ^ w.length := by
  rw [← len_words]
  refine nodup_len c.nd fun u hu => ?_
  have hp := (c.rch u hu).perm
  exact mem_words hp.length_eq fun d hd => hw d (hp.mem_iff.mp hd)
theorem CJ.add {ps w S k u jj v} (c : CJ ps w S k u jj) (hv : v ∉ S) (hr : Rch (fr ps) w v) (h1 : ∀ h : jj + 1 < u.length, v = turn u jj h) : CJ ps w (S ++ [v]) k u (jj + 1) := by
  have hk := (List.getElem?_eq_some_iff.mp c.at_).1
  refine ⟨?_, List.mem_append_left _ c.st, fun x hx => ?_, fun i hi x hx j h hf => ?_, ?_, fun j hj h hf => ?_⟩
  · exact List.nodup_append.mpr ⟨c.nd, List.nodup_cons.mpr ⟨by simp, List.nodup_nil⟩, fun a ha b hb e => hv (by rw [← List.mem_singleton.mp hb, ← e]; exact ha)⟩
  · rcases List.mem_append.mp hx with z | z
    · exact c.rch x z
    · rw [List.mem_singleton.mp z]; exact hr
  · rw [List.getElem?_append_left (by omega)] at hx
    exact List.mem_append_left _ (c.done i hi x hx j h hf)
  · rw [List.getElem?_append_left hk]; exact c.at_
  · by_cases e : j < jj
    · exact List.mem_append_left _ (c.here j e h hf)
    · have : j = jj := by omega
      subst this
      rw [← h1 h]
      simp
theorem CJ.next {ps w S k u jj} (c : CJ ps w S k u jj) (h1 : ∀ h : jj + 1 < u.length, fr ps u[jj] u[jj + 1] = true → turn u jj h ∈ S) : CJ ps w S k u (jj + 1) :=
  ⟨c.nd, c.st, c.rch, c.done, c.at_, fun j hj h hf => by
    by_cases e : j < jj
    · exact c.here j e h hf
    · have : j = jj := by omega
      subst this
      exact h1 h hf⟩
theorem CJ.fin {ps w S k u} (c : CJ ps w S k u (u.length - 1)) : CI ps w S (k + 1) := by
  refine ⟨(List.getElem?_eq_some_iff.mp c.at_).1, c.nd, c.st, c.rch, fun i hi x hx j h hf => ?_⟩
  by_cases e : i < k
  · exact c.done i e x hx j h hf
  · have : i = k := by omega
    subst this
    rw [c.at_] at hx
    cases hx
    exact c.here j (by omega) h hf

theorem pow_small {a n : Nat} (ha : a ≤ 6) (hn : n ≤ 8) : a ^ n ≤ 1679616 :=
  Nat.le_trans (Nat.pow_le_pow_left ha n) (Nat.le_trans (Nat.pow_le_pow_right (by decide) hn) (by decide))
theorem fr_irr {L ps} (ha : AlOk L ps) (a : Nat) : fr ps a a = false := by
  have : [a, a] ∉ ps := fun h => by
    obtain ⟨x, y, e, l⟩ := ha.two _ h
    cases e
    exact Nat.lt_irrefl _ l
  simp [fr, this]
theorem filt_swap (w : List Nat) (x y : Nat) : w.filter (· ∈ [x, y]) = w.filter (· ∈ [y, x]) := by
  congr 1
  funext c
  rw [Bool.eq_iff_iff]
  simp [or_comm]
theorem filt_one {w : List Nat} {x y : Nat} (h : y ∉ w) : w.filter (· ∈ [x, y]) = List.replicate (w.count x) x := by
  rw [← List.filter_beq]
  refine List.filter_congr fun c hc => ?_
  have : c ≠ y := fun e => h (e ▸ hc)
  rw [Bool.eq_iff_iff]
  simp [this]
/-- nothing parts the words exactly if one leads to the other -/
theorem partsR_non {L ps} (ha : AlOk L ps) {w v : List Nat} (hw : Wd L w) (hv : Wd L v) : partsR L ps w v = .non ↔ Rch (fr ps) w v := by
  have cnt0 : ∀ {u : List Nat} {x : Nat}, Wd L u → x ∉ L → u.count x = 0 := fun hu hx => List.count_eq_zero.mpr fun h => hx (hu _ h)
  constructor
  · intro h
    have cnt : ∀ x, w.count x = v.count x := fun x => by
      by_cases hx : x ∈ L
      · cases hc : L.findSome? (pC w v) with
        | some d =>
          unfold partsR at h
          rw [hc] at h
          obtain ⟨z, _, hz⟩ := List.exists_of_findSome?_eq_some hc
          unfold pC at hz
          split at hz
          · cases hz
          · cases hz; cases h
        | none =>
          have := List.findSome?_eq_none_iff.mp hc x hx
          unfold pC at this
          split at this
          · assumption
          · cases this
      · rw [cnt0 hw hx, cnt0 hv hx]
    refine alike_rch (fr_comm ps) (fr_irr ha) w v ⟨cnt, fun x y hxy hf => ?_⟩
    · by_cases hy : y ∈ L
      · by_cases hx : x ∈ L
        · have key : ∀ a b, a ∈ L → b ∈ L → a < b → fr ps a b = false → w.filter (· ∈ [a, b]) = v.filter (· ∈ [a, b]) := fun a b ha' hb' hlt hf => by
            have h1 : L.findSome? (pC w v) = none := List.findSome?_eq_none_iff.mpr fun x _ => by
              unfold pC
              rw [if_pos (cnt x)]
            unfold partsR at h
            rw [h1] at h
            simp only at h
            cases ho : L.findSome? (pOs L ps w v) with
            | some d =>
              rw [ho] at h
              obtain ⟨z, _, hz⟩ := List.exists_of_findSome?_eq_some ho
              unfold pOs at hz
              obtain ⟨z2, _, hz2⟩ := List.exists_of_findSome?_eq_some hz
              unfold pO at hz2
              split at hz2
              · cases hz2; cases h
              · cases hz2
            | none =>
              have h2 := List.findSome?_eq_none_iff.mp ho a ha'
              unfold pOs at h2
              have h3 := List.findSome?_eq_none_iff.mp h2 b (List.mem_filter.mpr ⟨hb', by simpa using hlt⟩)
              unfold pO at h3
              split at h3
              · cases h3
              · rename_i hn
                exact Classical.byContradiction fun hne => hn ⟨hf, hne⟩
          rcases Nat.lt_or_gt_of_ne hxy with hlt | hlt
          · exact key x y hx hy hlt hf
          · rw [filt_swap w, filt_swap v]
            exact key y x hy hx hlt (by rw [fr_comm]; exact hf)
        · rw [filt_swap w, filt_swap v, filt_one fun z => hx (hw _ z), filt_one fun z => hx (hv _ z), cnt]
      · rw [filt_one fun z => hy (hw _ z), filt_one fun z => hy (hv _ z), cnt]
  · intro h
    have al := h.alike (fr_comm ps)
    have h1 : L.findSome? (pC w v) = none := List.findSome?_eq_none_iff.mpr fun x _ => by
      unfold pC
      rw [if_pos (al.1 x)]
    have h2 : L.findSome? (pOs L ps w v) = none := List.findSome?_eq_none_iff.mpr fun x _ => by
      unfold pOs
      refine List.findSome?_eq_none_iff.mpr fun y hy => ?_
      have hlt : x < y := by simpa using (List.mem_filter.mp hy).2
      unfold pO
      rw [if_neg]
      rintro ⟨hf, hne⟩
      exact hne (al.2 x y (by omega) hf)
    unfold partsR
    rw [h1]
    simp only
    rw [h2]

theorem any_strs (s : List Nat) (S : List (List Nat)) : inD (.str s) (.lst (S.map .str)) = some (decide (s ∈ S)) := by
  have : ((S.map D.str).any fun y => peq y (.str s)) = decide (s ∈ S) := by
    induction S with
    | nil => rfl
    | cons p ps ih =>
      rw [List.map_cons, List.any_cons, ih]
      simp only [peq, List.mem_cons]
      by_cases h : p = s
      · subst h; simp
      · have h' : ¬ s = p := fun e => h e.symm
        simp [h, h']
  unfold inD
  cases s <;> simp [dep, depL_strs, this, room]
theorem neB (a b : Bool) : neD (.bl a) (.bl b) = some (!(a == b)) := by simp [neD, dep, room, peq]
theorem eqI (a b : Int) : eqD (.int a) (.int b) = some (decide (a = b)) := by
  have h : (a == b) = decide (a = b) := by rw [Bool.eq_iff_iff, beq_iff_eq, decide_eq_true_eq]
  simp only [eqD, dep, room, peq, h]
  first | rfl | simp [room]
theorem turn_perm (v : List Nat) (k : Nat) (h : k + 1 < v.length) : (turn v k h).Perm v := by
  conv => rhs; rw [turn_eq v k h]
  exact List.Perm.append_left _ (List.Perm.swap _ _ _)
end TH
end

section
set_option linter.all false
set_option maxRecDepth 10000
/-! WQ: comprehensions, generator expressions, dicts: what must hold ahead. -/
namespace TH
open VD
section
variable {e : En} {Q : D → En → Prop} {QT : Bool → En → Prop} {QM : M → En → Prop} {QA : List D → En → Prop} {QS : Fl → En → Prop} {i : Nat} {a b : FE} {g g1 : FG} {t t1 : FT} {x k : FE} {it it1 : FI} {own own1 : List Nat} {m : FM} {G : FGn}
theorem seq_to {s s' : FS} (I : En → Prop) (h1 : wpS s e fun fl e1 => match fl with | .nx => I e1 | fl' => QS fl' e1) (h2 : ∀ e1, I e1 → wpS s' e1 QS) : wpS (seqS s s') e QS := by
  rw [w_seq]
  refine wpS_mono h1 fun fl e1 q => ?_
  cases fl with
  | nx => exact h2 _ q
  | _ => exact q
theorem w_yesT : wpT yesT e QT ↔ QT true e := pure_ex
theorem w_comp : wpM (compM g it t x own) e QM ↔ wpI it e fun ds e1 => yes (compL g t x own ds [] (wipeE e1 own)) fun q => QM (.lst q.1) (backE e1 q.2 own) := by
  simp only [wpM_y, wpI_y, compM, yes_bind, yes_some]
theorem w_dc : wpM (dcM g it t k x own) e QM ↔ wpI it e fun ds e1 => yes (dcL g t k x own ds [] (wipeE e1 own)) fun q => QM (.dct q.1) (backE e1 q.2 own) := by
  simp only [wpM_y, wpI_y, dcM, yes_bind, yes_some]
/-- a turn that leaves the slots as they were: what it gives -/
def turn1 (g : FG) (t : FT) (x : FE) (own : List Nat) (e0 : En) (d : D) (o : Option D) : Prop :=
  wpG g d e0 fun e1 => wpT t e1 fun r e2 => if r = true then wpE x e2 fun y e3 => o = some y ∧ wipeE e3 own = e0 else o = none ∧ wipeE e2 own = e0
theorem turn1_cases {e0 : En} {d : D} {o : Option D} (h : turn1 g t x own e0 d o) : ∃ e1 r e2, g d e0 = some e1 ∧ t e1 = some (r, e2) ∧ ((r = true ∧ ∃ y e3, x e2 = some (y, e3) ∧ o = some y ∧ wipeE e3 own = e0) ∨ (r = false ∧ o = none ∧ wipeE e2 own = e0)) := by
  obtain ⟨e1, h1, r, e2, h2, h3⟩ := h
  refine ⟨e1, r, e2, h1, h2, ?_⟩
  cases r with
  | true => simp only [if_true] at h3; obtain ⟨y, e3, h4, h5, h6⟩ := h3; exact .inl ⟨rfl, y, e3, h4, h5, h6⟩
  | false => simp only [Bool.false_eq_true, if_false] at h3; exact .inr ⟨rfl, h3.1, h3.2⟩
theorem comp_pure {e0 : En} (F : D → Option D) : ∀ {ds acc : List D}, (∀ d ∈ ds, turn1 g t x own e0 d (F d)) → acc.length + ds.length ≤ big → compL g t x own ds acc e0 = some (acc ++ ds.filterMap F, e0)
  | [], acc, _, _ => by simp [compL]
  | d :: ds, acc, h, hl => by
    simp only [List.length_cons] at hl
    obtain ⟨e1, r, e2, h1, h2, ⟨rfl, y, e3, h4, h5, h6⟩ | ⟨rfl, h5, h6⟩⟩ := turn1_cases (h d List.mem_cons_self)
    · have ih := comp_pure F (ds := ds) (acc := acc ++ [y]) (fun d hd => h d (List.mem_cons_of_mem _ hd)) (by simp; omega)
      have : acc.length < big := by omega
      simp [compL, h1, h2, h4, this, h6, ih, h5]
    · have ih := comp_pure F (ds := ds) (acc := acc) (fun d hd => h d (List.mem_cons_of_mem _ hd)) (by omega)
      simp [compL, h1, h2, h6, ih, h5]
/-- a comprehension whose turns change things -/
theorem comp_inv {e0 : En} {ds : List D} {Q : List D × En → Prop} (I : Nat → List D → En → Prop) (h0 : I 0 [] e0) (h1 : ∀ i acc d e, ds[i]? = some d → I i acc e → wpG g d e fun e1 => wpT t e1 fun r e2 => if r = true then wpE x e2 fun y e3 => acc.length < big ∧ I (i + 1) (acc ++ [y]) (wipeE e3 own) else I (i + 1) acc (wipeE e2 own))
    (h2 : ∀ acc e, I ds.length acc e → Q (acc, e)) : yes (compL g t x own ds [] e0) Q := by
  have go : ∀ (l : List D) (j : Nat) (acc : List D) (e : En), ds.drop j = l → j ≤ ds.length → I j acc e → yes (compL g t x own l acc e) Q := by
    intro l
    induction l with
    | nil =>
      intro j acc e hd hj hi
      have : j = ds.length := by have := congrArg List.length hd; simp at this; omega
      subst this
      exact ⟨_, rfl, h2 _ _ hi⟩
    | cons d l ih =>
      intro j acc e hd hj hi
      have hj2 : j < ds.length := by have := congrArg List.length hd; simp at this; omega
      have hdj : ds[j]? = some d := by have := congrArg (fun l => l[0]?) hd; simpa using this
      have hd2 : ds.drop (j + 1) = l := by have := congrArg List.tail hd; simpa using this
      obtain ⟨e1, hg, r, e2, ht, q⟩ := h1 j acc d e hdj hi
      cases r with
      | true =>
        simp only [if_true] at q
        obtain ⟨y, e3, hx, hl, q⟩ := q
        simp only [compL, hg, ht, hx, hl, if_true, Option.bind_some]
        exact ih (j + 1) _ _ hd2 hj2 q
      | false =>
        simp only [Bool.false_eq_true, if_false] at q
        simp only [compL, hg, ht, Bool.false_eq_true, if_false, Option.bind_some]
        exact ih (j + 1) _ _ hd2 hj2 q
  exact go ds 0 [] e0 rfl (Nat.zero_le _) h0
/-! generator expressions -/
theorem gen1_go {e0 : En} (F : D → Option D) : ∀ {ds : List D}, (∀ d ∈ ds, turn1 g t x own e0 d (F d)) → genL1 g t x own goOn ds e0 = some ((ds.filterMap F, false), e0)
  | [], _ => rfl
  | d :: ds, h => by
    have ih := gen1_go F (ds := ds) fun d hd => h d (List.mem_cons_of_mem _ hd)
    obtain ⟨e1, r, e2, h1, h2, ⟨rfl, y, e3, h4, h5, h6⟩ | ⟨rfl, h5, h6⟩⟩ := turn1_cases (h d List.mem_cons_self)
    · simp [genL1, h1, h2, h4, goOn, h6, ih, h5]
    · simp [genL1, h1, h2, h6, ih, h5]
theorem gen1_stop {e0 : En} (stop : D → Option Bool) (F : D → Option D) (S : D → Bool) : ∀ {ds : List D}, (∀ d ∈ ds, turn1 g t x own e0 d (F d)) → (∀ d ∈ ds, ∀ y, F d = some y → stop y = some (S y)) → ∃ l, genL1 g t x own stop ds e0 = some ((l, (ds.filterMap F).any S), e0)
  | [], _, _ => ⟨[], rfl⟩
  | d :: ds, h, hs => by
    obtain ⟨l, ih⟩ := gen1_stop stop F S (ds := ds) (fun d hd => h d (List.mem_cons_of_mem _ hd)) fun d hd => hs d (List.mem_cons_of_mem _ hd)
    obtain ⟨e1, r, e2, h1, h2, ⟨rfl, y, e3, h4, h5, h6⟩ | ⟨rfl, h5, h6⟩⟩ := turn1_cases (h d List.mem_cons_self)
    · have hy := hs d List.mem_cons_self y h5
      cases hS : S y with
      | true => exact ⟨[y], by simp [genL1, h1, h2, h4, hy, hS, h6, h5]⟩
      | false => exact ⟨y :: l, by simp [genL1, h1, h2, h4, hy, hS, h6, h5, ih]⟩
    · exact ⟨l, by simp [genL1, h1, h2, h6, ih, h5]⟩
theorem fm_some {α β : Type} (P : α → β) (ds : List α) : ds.filterMap (fun d => some (P d)) = ds.map P := by
  induction ds with
  | nil => rfl
  | cons d ds ih => simp [ih]
theorem gen1_all {e0 : En} (P : D → Bool) {ds : List D} (h : ∀ d ∈ ds, turn1 g t x own e0 d (some (.bl (P d)))) : ∃ l, genL1 g t x own stopAll ds e0 = some ((l, !ds.all P), e0) := by
  obtain ⟨l, hl⟩ := gen1_stop stopAll (fun d => some (D.bl (P d))) (fun y => match y with | .bl b => !b | _ => false) h (fun d _ y hy => by cases hy; rfl)
  refine ⟨l, ?_⟩
  rw [hl, fm_some, List.any_map]
  have : ds.any ((fun y => match y with | D.bl b => !b | _ => false) ∘ fun d => D.bl (P d)) = !ds.all P := by
    rw [Bool.eq_iff_iff]
    simp [List.any_eq_true, List.all_eq_true]
  rw [this]
theorem gen1_any {e0 : En} (P : D → Bool) {ds : List D} (h : ∀ d ∈ ds, turn1 g t x own e0 d (some (.bl (P d)))) : ∃ l, genL1 g t x own stopAny ds e0 = some ((l, ds.any P), e0) := by
  obtain ⟨l, hl⟩ := gen1_stop stopAny (fun d => some (D.bl (P d))) (fun y => match y with | .bl b => b | _ => false) h (fun d _ y hy => by cases hy; rfl)
  refine ⟨l, ?_⟩
  rw [hl, fm_some, List.any_map]
  rfl
/-- a turn of two clauses: what it gives -/
def turn2 (g : FG) (t : FT) (it1 : FI) (g1 : FG) (t1 : FT) (x : FE) (own own1 : List Nat) (e0 : En) (d : D) (l : List D) : Prop :=
  wpG g d e0 fun e1 => wpT t e1 fun r e2 => if r = true then wpI it1 e2 fun ds1 e3 => ∃ F : D → Option D, l = ds1.filterMap F ∧ (∀ d1 ∈ ds1, turn1 g1 t1 x own1 (wipeE e3 own1) d1 (F d1)) ∧ wipeE (wipeE e3 own1) own = e0 else l = [] ∧ wipeE e2 own = e0
theorem turn2_cases {e0 : En} {d : D} {l : List D} (h : turn2 g t it1 g1 t1 x own own1 e0 d l) : ∃ e1 r e2, g d e0 = some e1 ∧ t e1 = some (r, e2) ∧ ((r = true ∧ ∃ ds1 e3, it1 e2 = some (ds1, e3) ∧ ∃ F : D → Option D, l = ds1.filterMap F ∧ (∀ d1 ∈ ds1, turn1 g1 t1 x own1 (wipeE e3 own1) d1 (F d1)) ∧ wipeE (wipeE e3 own1) own = e0) ∨ (r = false ∧ l = [] ∧ wipeE e2 own = e0)) := by
  obtain ⟨e1, h1, r, e2, h2, h3⟩ := h
  refine ⟨e1, r, e2, h1, h2, ?_⟩
  cases r with
  | true => simp only [if_true] at h3; obtain ⟨y, e3, h4, h5⟩ := h3; exact .inl ⟨rfl, y, e3, h4, h5⟩
  | false => simp only [Bool.false_eq_true, if_false] at h3; exact .inr ⟨rfl, h3.1, h3.2⟩
theorem wipe_twice (e : En) : ∀ own : List Nat, wipeE (wipeE e own) own = wipeE e own := by
  have key : ∀ (l : List Nat) (j : Nat), (wipeE e l)[j]? = if j ∈ l ∧ j < e.length then some none else e[j]? := by
    intro l
    induction l with
    | nil => intro j; simp [wipeE]
    | cons i l ih =>
      intro j
      simp only [wipeE]
      have hlen : (wipeE e l).length = e.length := by
        clear ih
        induction l with
        | nil => rfl
        | cons a l ih => simp [wipeE, ih]
      rw [List.getElem?_set, hlen, ih]
      by_cases hij : i = j
      · subst hij
        by_cases hl : i < e.length <;> simp [hl]
      · have : ¬ j = i := fun e => hij e.symm
        simp [hij, this]
  have key2 : ∀ (f : En) (l : List Nat) (j : Nat), (wipeE f l)[j]? = if j ∈ l ∧ j < f.length then some none else f[j]? := by
    intro f l
    induction l with
    | nil => intro j; simp [wipeE]
    | cons i l ih =>
      intro j
      simp only [wipeE]
      have hlen : (wipeE f l).length = f.length := by
        clear ih
        induction l with
        | nil => rfl
        | cons a l ih => simp [wipeE, ih]
      rw [List.getElem?_set, hlen, ih]
      by_cases hij : i = j
      · subst hij
        by_cases hl : i < f.length <;> simp [hl]
      · have : ¬ j = i := fun e => hij e.symm
        simp [hij, this]
  intro own
  refine List.ext_getElem? fun j => ?_
  have hlen : (wipeE e own).length = e.length := by
    induction own with
    | nil => rfl
    | cons a l ih => simp [wipeE, ih]
  rw [key2, key, hlen]
  by_cases hj : j ∈ own ∧ j < e.length <;> simp [hj]
theorem gen2_go {e0 : En} (F : D → List D) : ∀ {ds : List D}, (∀ d ∈ ds, turn2 g t it1 g1 t1 x own own1 e0 d (F d)) → genL2 g t it1 g1 t1 x own own1 goOn ds e0 = some ((ds.flatMap F, false), e0)
  | [], _ => rfl
  | d :: ds, h => by
    have ih := gen2_go F (ds := ds) fun d hd => h d (List.mem_cons_of_mem _ hd)
    obtain ⟨e1, r, e2, h1, h2, ⟨rfl, ds1, e3, h4, F1, h5, h6, h7⟩ | ⟨rfl, h5, h6⟩⟩ := turn2_cases (h d List.mem_cons_self)
    · have := gen1_go F1 h6
      simp [genL2, h1, h2, h4, this, h7, ih, h5]
    · simp [genL2, h1, h2, h6, ih, h5]
theorem gen2_stop {e0 : En} (stop : D → Option Bool) (F : D → List D) (S : D → Bool) : ∀ {ds : List D}, (∀ d ∈ ds, turn2 g t it1 g1 t1 x own own1 e0 d (F d)) → (∀ d ∈ ds, ∀ y ∈ F d, stop y = some (S y)) → ∃ l, genL2 g t it1 g1 t1 x own own1 stop ds e0 = some ((l, (ds.flatMap F).any S), e0)
  | [], _, _ => ⟨[], rfl⟩
  | d :: ds, h, hs => by
    obtain ⟨l, ih⟩ := gen2_stop stop F S (ds := ds) (fun d hd => h d (List.mem_cons_of_mem _ hd)) fun d hd => hs d (List.mem_cons_of_mem _ hd)
    obtain ⟨e1, r, e2, h1, h2, ⟨rfl, ds1, e3, h4, F1, h5, h6, h7⟩ | ⟨rfl, h5, h6⟩⟩ := turn2_cases (h d List.mem_cons_self)
    · obtain ⟨l1, hl1⟩ := gen1_stop stop F1 S h6 (fun d1 hd1 y hy => hs d List.mem_cons_self y (by rw [h5]; exact List.mem_filterMap.mpr ⟨d1, hd1, hy⟩))
      rw [← h5] at hl1
      cases hS : (F d).any S with
      | true => exact ⟨l1, by simp only [genL2, h1, h2, h4, hl1, hS, Option.bind_some, if_true, h7, List.flatMap_cons, List.any_append, Bool.true_or]⟩
      | false => exact ⟨l1 ++ l, by simp only [genL2, h1, h2, h4, hl1, hS, Option.bind_some, if_true, Bool.false_eq_true, if_false, h7, ih, List.flatMap_cons, List.any_append, Bool.false_or]⟩
    · exact ⟨l, by simp [genL2, h1, h2, h6, ih, h5]⟩
theorem gen2_all {e0 : En} (F : D → List Bool) {ds : List D} (h : ∀ d ∈ ds, turn2 g t it1 g1 t1 x own own1 e0 d ((F d).map .bl)) : ∃ l, genL2 g t it1 g1 t1 x own own1 stopAll ds e0 = some ((l, !ds.all fun d => (F d).all id), e0) := by
  obtain ⟨l, hl⟩ := gen2_stop stopAll (fun d => (F d).map D.bl) (fun y => match y with | .bl b => !b | _ => false) h (fun d _ y hy => by obtain ⟨b, _, rfl⟩ := List.mem_map.mp hy; rfl)
  refine ⟨l, ?_⟩
  rw [hl]
  congr 3
  rw [Bool.eq_iff_iff]
  simp [List.any_flatMap]
theorem gen2_any {e0 : En} (F : D → List Bool) {ds : List D} (h : ∀ d ∈ ds, turn2 g t it1 g1 t1 x own own1 e0 d ((F d).map .bl)) : ∃ l, genL2 g t it1 g1 t1 x own own1 stopAny ds e0 = some ((l, ds.any fun d => (F d).any id), e0) := by
  obtain ⟨l, hl⟩ := gen2_stop stopAny (fun d => (F d).map D.bl) (fun y => match y with | .bl b => b | _ => false) h (fun d _ y hy => by obtain ⟨b, _, rfl⟩ := List.mem_map.mp hy; rfl)
  refine ⟨l, ?_⟩
  rw [hl]
  congr 3
  rw [Bool.eq_iff_iff]
  simp [List.any_flatMap]
theorem w_all1 : wpT (allF (genM1 g it t x own)) e QT ↔ wpI it e fun ds e1 => yes (genL1 g t x own stopAll ds (wipeE e1 own)) fun r => QT (!r.1.2) (backE e1 r.2 own) := by
  simp only [wpT_y, wpI_y, allF, genM1, yes_bind, yes_map, yes_some]
theorem w_any1 : wpT (anyF (genM1 g it t x own)) e QT ↔ wpI it e fun ds e1 => yes (genL1 g t x own stopAny ds (wipeE e1 own)) fun r => QT r.1.2 (backE e1 r.2 own) := by
  simp only [wpT_y, wpI_y, anyF, genM1, yes_bind, yes_map, yes_some]
theorem w_all2 : wpT (allF (genM2 g it t it1 g1 t1 x own own1)) e QT ↔ wpI it e fun ds e1 => yes (genL2 g t it1 g1 t1 x own own1 stopAll ds (wipeE e1 own)) fun r => QT (!r.1.2) (backE e1 r.2 own) := by
  simp only [wpT_y, wpI_y, allF, genM2, yes_bind, yes_map, yes_some]
theorem w_any2 : wpT (anyF (genM2 g it t it1 g1 t1 x own own1)) e QT ↔ wpI it e fun ds e1 => yes (genL2 g t it1 g1 t1 x own own1 stopAny ds (wipeE e1 own)) fun r => QT r.1.2 (backE e1 r.2 own) := by
  simp only [wpT_y, wpI_y, anyF, genM2, yes_bind, yes_map, yes_some]
theorem w_tupG1 : wpE (tupGF (genM1 g it t x own)) e Q ↔ wpI it e fun ds e1 => yes (genL1 g t x own goOn ds (wipeE e1 own)) fun r => r.1.1.length ≤ big ∧ Q (.tup r.1.1) (backE e1 r.2 own) := by
  simp only [wpE_y, wpI_y, tupGF, genM1, yes_bind, yes_ite, yes_some]
theorem w_tupG2 : wpE (tupGF (genM2 g it t it1 g1 t1 x own own1)) e Q ↔ wpI it e fun ds e1 => yes (genL2 g t it1 g1 t1 x own own1 goOn ds (wipeE e1 own)) fun r => r.1.1.length ≤ big ∧ Q (.tup r.1.1) (backE e1 r.2 own) := by
  simp only [wpE_y, wpI_y, tupGF, genM2, yes_bind, yes_ite, yes_some]
def sepD : D → Option (List Nat)
  | .str s => some s
  | _ => none
theorem w_joinG1 : wpE (joinGF a (genM1 g it t x own)) e Q ↔ wpE a e fun d e0 => yes (sepD d) fun s => wpI it e0 fun ds e1 => yes (genL1 g t x own goOn ds (wipeE e1 own)) fun r => yes (joinL s r.1.1) fun z => Q (.str z) (backE e1 r.2 own) := by
  simp only [wpE_y, wpI_y, joinGF, genM1, yes_bind]
  constructor
  · rintro ⟨⟨d, e0⟩, h, q⟩
    refine ⟨_, h, ?_⟩
    cases d <;> simp only [yes_none, yes_some, sepD, yes_bind, yes_map] at q ⊢
    exact q
  · rintro ⟨⟨d, e0⟩, h, q⟩
    refine ⟨_, h, ?_⟩
    cases d <;> simp only [yes_none, yes_some, sepD, yes_bind, yes_map] at q ⊢
    exact q
/-! dicts -/
theorem w_getDS : wpE (getDS i a) e Q ↔ yes (slot e i) fun m0 => yes (dctM m0) fun _ => wpE a e fun k e1 => yes (slot e1 i) fun m => yes (keyM m k) fun kvs => Q ((getK kvs k).getD .non) e1 := by
  simp only [wpE_y, getDS, yes_bind, yes_map]
theorem w_itemS : wpE (itemS i a) e Q ↔ yes (slot e i) fun _ => wpE a e fun k e1 => yes (slot e1 i) fun m => yes (keyM m k) fun kvs => yes (getK kvs k) fun d => Q d e1 := by
  simp only [wpE_y, itemS, yes_bind, yes_map]
theorem w_inDS : wpT (inDS a i) e QT ↔ wpE a e fun x e1 => yes (slot e1 i) fun m => yes (keyM m x) fun kvs => QT (kvs.any fun q => peq q.1 x) e1 := by
  simp only [wpE_y, wpT_y, inDS, yes_bind, yes_map]
theorem w_dnew : wpM dnewM e QM ↔ QM (.dct []) e := pure_ex
theorem w_inR : wpT (inR a m) e QT ↔ wpE a e fun x e1 => wpM m e1 fun l e2 => yes (inRM x l) fun b => QT b e2 := by
  simp only [wpE_y, wpT_y, wpM_y, inR, yes_bind, yes_map]
theorem w_notInR : wpT (notInR a m) e QT ↔ wpE a e fun x e1 => wpM m e1 fun l e2 => yes (inRM x l) fun b => QT (!b) e2 := by
  simp only [wpE_y, wpT_y, wpM_y, notInR, yes_bind, yes_map]
theorem w_lstFM : wpM (lstFM m) e QM ↔ wpM m e fun x e1 => yes (seqItems x) fun ds => QM (.lst ds) e1 := by
  simp only [wpM_y, lstFM, yes_bind, yes_map]
end
theorem numd_range (l : List D) : ∀ k : Int, numd k l = (List.range l.length).map fun i : Nat => .tup [.int (k + i), (l[i]?).getD .non] := by
  induction l with
  | nil => intro k; rfl
  | cons a l ih =>
    intro k
    rw [numd, ih, List.length_cons, List.range_succ_eq_map, List.map_cons, List.map_map]
    congr 1
    · simp
    · refine List.map_congr_left fun i _ => ?_
      simp only [Function.comp, List.getElem?_cons_succ]
      congr 3
      push_cast
      omega
theorem filterMap_if {α β : Type} (P : α → Bool) (g : α → β) (l : List α) : l.filterMap (fun i => if P i = true then some (g i) else none) = (l.filter P).map g := by
  induction l with
  | nil => rfl
  | cons a l ih =>
    rw [List.filterMap_cons, List.filter_cons]
    cases P a <;> simp [ih]
theorem filterMap_congr' {α β : Type} {f g : α → Option β} {l : List α} (h : ∀ a ∈ l, f a = g a) : l.filterMap f = l.filterMap g := by
  induction l with
  | nil => rfl
  | cons a l ih =>
    rw [List.filterMap_cons, List.filterMap_cons, h a List.mem_cons_self, ih fun b hb => h b (List.mem_cons_of_mem _ hb)]
/-! == of data -/
mutual
/-- no bool, no dict in it: == is equality -/
theorem peq_self : ∀ a : D, (∀ kvs, a ≠ .dct kvs) → nob a = true → peq a a = true
  | a, _, h => (peq_nob a a h h).mpr rfl
end
end TH
end

section
set_option linter.all false
set_option maxRecDepth 10000
/-! TB: automata. -/
namespace TH
open VD
theorem peq_tup (a b : List D) : peq (.tup a) (.tup b) = peqL a b := by rw [peq]
theorem peqL_c (a b : D) (x y : List D) : peqL (a :: x) (b :: y) = (peq a b && peqL x y) := by rw [peqL]
theorem peqL_n : peqL [] [] = true := by rw [peqL]
theorem peq_ii (a b : Int) : peq (.int a) (.int b) = decide (a = b) := by
  have : peq (.int a) (.int b) = (a == b) := by rw [peq]
  rw [this, Bool.eq_iff_iff, beq_iff_eq, decide_eq_true_eq]
theorem peq_ss (a b : List Nat) : peq (.str a) (.str b) = decide (a = b) := by rw [peq]
theorem perm_map {α β : Type} {f : α → β} : ∀ {l : List β} {ps : List α}, l.Perm (ps.map f) → ∃ qs : List α, l = qs.map f ∧ qs.Perm ps
  | [], ps, h => by
    have : ps = [] := by have := h.length_eq; cases ps with
      | nil => rfl
      | cons _ _ => simp at this
    subst this
    exact ⟨[], rfl, .nil⟩
  | d :: l, ps, h => by
    obtain ⟨p, hp, rfl⟩ := List.mem_map.mp (h.mem_iff.mp List.mem_cons_self)
    obtain ⟨a, b, rfl⟩ := List.append_of_mem hp
    have h2 : l.Perm ((a ++ b).map f) := by
      have : (f p :: l).Perm (f p :: (a ++ b).map f) := h.trans (by simp only [List.map_append, List.map_cons]; exact List.perm_middle)
      exact (List.perm_cons _).mp this
    obtain ⟨qs, rfl, q2⟩ := perm_map h2
    exact ⟨p :: qs, rfl, (q2.cons p).trans List.perm_middle.symm⟩
theorem sortL_map {α : Type} {f : α → D} {ps : List α} (hs : sortable (ps.map f) = true) : ∃ qs : List α, sortL (ps.map f) = some (qs.map f) ∧ qs.Perm ps := by
  obtain ⟨qs, h1, h2⟩ := perm_map (List.mergeSort_perm (ps.map f) dLe)
  exact ⟨qs, by unfold sortL; rw [if_pos hs, h1], h2⟩
theorem sortable_ints {ps : List Int} (h : ps.length ≤ big) : sortable (ps.map D.int) = true := by
  unfold sortable
  simp only [Bool.and_eq_true, List.all_eq_true, List.mem_map, forall_exists_index, and_imp, forall_apply_eq_imp_iff₂, decide_eq_true_eq, List.length_map, Bool.or_eq_true]
  exact ⟨⟨⟨fun a _ b _ => rfl, .inr fun a _ => rfl⟩, fun a _ => Nat.zero_le _⟩, h⟩
mutual
/-- what the law's own comparison is asked of -/
def smp : D → Bool
  | .tup xs => smpL xs && decide (xs.length ≤ big)
  | .lst _ => false
  | .dct _ => false
  | _ => true
def smpL : List D → Bool
  | [] => true
  | x :: xs => smp x && smpL xs
end
theorem smpL_mem : ∀ {xs : List D} {d : D}, smpL xs = true → d ∈ xs → smp d = true
  | x :: xs, d, h, hd => by
    simp only [smpL, Bool.and_eq_true] at h
    rcases List.mem_cons.mp hd with rfl | hd
    · exact h.1
    · exact smpL_mem h.2 hd
theorem smpL_of : ∀ {xs : List D}, (∀ d ∈ xs, smp d = true) → smpL xs = true
  | [], _ => rfl
  | x :: xs, h => by
    simp only [smpL, Bool.and_eq_true]
    exact ⟨h x List.mem_cons_self, smpL_of fun d hd => h d (List.mem_cons_of_mem _ hd)⟩
theorem dep_mem : ∀ {xs : List D} {d : D}, d ∈ xs → dep d ≤ depL xs
  | x :: xs, d, hd => by
    simp only [depL]
    rcases List.mem_cons.mp hd with rfl | hd
    · exact Nat.le_max_left _ _
    · exact Nat.le_trans (dep_mem hd) (Nat.le_max_right _ _)
theorem depL_le : ∀ {xs : List D} {n : Nat}, (∀ d ∈ xs, dep d ≤ n) → depL xs ≤ n
  | [], _, _ => Nat.zero_le _
  | x :: xs, n, h => by
    simp only [depL]
    exact Nat.max_le.mpr ⟨h x List.mem_cons_self, depL_le fun d hd => h d (List.mem_cons_of_mem _ hd)⟩
theorem isi_int (T : String) (i : Int) : isiP T (.int i) = some (isB "int" T) := rfl
theorem isi_bl (T : String) (i : Bool) : isiP T (.bl i) = some (isB "bool" T) := rfl
theorem isB_7 : isB "int" "tuple" = false := by decide +kernel
theorem isB_8 : isB "int" "bool" = false := by decide +kernel
theorem isB_9 : isB "int" "int" = true := by decide +kernel
theorem isB_10 : isB "bool" "tuple" = false := by decide +kernel
theorem isB_11 : isB "bool" "bool" = true := by decide +kernel
theorem eqB (a b : Bool) : eqD (.bl a) (.bl b) = some (decide (a = b)) := by cases a <;> cases b <;> rfl
/-- an edge -/
abbrev Ed := Int × Nat × Int
def edD (e : Ed) : D := .tup [.int e.1, .str [e.2.1], .int e.2.2]
theorem sortable_ed {ps : List Ed} (h : ps.length ≤ big) : sortable (ps.map edD) = true := by
  unfold sortable
  simp only [Bool.and_eq_true, List.all_eq_true, List.mem_map, forall_exists_index, and_imp, forall_apply_eq_imp_iff₂, decide_eq_true_eq, List.length_map, Bool.or_eq_true]
  exact ⟨⟨⟨fun a _ b _ => rfl, .inl fun a _ => rfl⟩, fun a _ => by simp [edD, dep, depL, room]⟩, h⟩
/-- an automaton -/
def Aut (n s : Int) (ends : List Int) (es : List Ed) : D := .tup [.str [97, 117, 116, 111, 109, 97, 116, 111, 110], .int n, .int s, .tup (ends.map .int), .tup (es.map edD)]
structure AutOk (m : Int) (n s : Int) (ends : List Int) (es : List Ed) : Prop where
  n1 : 0 < n
  n2 : n ≤ m
  s1 : 0 ≤ s
  s2 : s < n
  ends : ends.length ≤ 1000
  len : (es.length : Int) ≤ 6 * n
  keys : (es.map fun e => (e.1, e.2.1)).Nodup
  to : ∀ e ∈ es, 0 ≤ e.2.2 ∧ e.2.2 < n
/-- where an edge leads -/
def lat (es : List Ed) (s : D) (x : Nat) : D := match es.find? (fun e => peq (.int e.1) s && decide (e.2.1 = x)) with
  | some e => .int e.2.2
  | none => .non
def edK (e : Ed) : D × D := (.tup [.int e.1, .str [e.2.1]], .int e.2.2)
theorem lat_get (es : List Ed) (s : D) (x : Nat) : (getK (es.map edK) (.tup [s, .str [x]])).getD .non = lat es s x := by
  unfold getK lat
  induction es with
  | nil => rfl
  | cons e es ih =>
    have : peq (edK e).1 (.tup [s, .str [x]]) = (peq (.int e.1) s && decide (e.2.1 = x)) := by
      simp only [edK, peq_tup, peqL_c, peqL_n, peq_ss, Bool.and_true]
      congr 1
      rw [Bool.eq_iff_iff]; simp
    rw [List.map_cons, List.find?_cons, List.find?_cons, this]
    cases peq (.int e.1) s && decide (e.2.1 = x) with
    | true => rfl
    | false => exact ih
/-- a state or none -/
def isSt (n : Int) (d : D) : Prop := d = .non ∨ ∃ i : Int, d = .int i ∧ 0 ≤ i ∧ i < n
theorem lat_st {m n s : Int} {ends : List Int} {es : List Ed} (h : AutOk m n s ends es) (d : D) (x : Nat) : isSt n (lat es d x) := by
  unfold lat
  split
  · rename_i e he
    exact .inr ⟨_, rfl, h.to e (List.mem_of_find?_eq_some he)⟩
  · exact .inl rfl
theorem isSt.nob {n : Int} {d : D} (h : isSt n d) : nob d = true := by
  rcases h with rfl | ⟨i, rfl, _⟩ <;> rfl
theorem isSt.dep {n : Int} {d : D} (h : isSt n d) : dep d = 0 := by
  rcases h with rfl | ⟨i, rfl, _⟩ <;> rfl
theorem isSt.hsh {n : Int} {d : D} (h : isSt n d) : hsh d = true := by
  rcases h with rfl | ⟨i, rfl, _⟩ <;> rfl
/-! dict comprehensions -/
section
variable {g : FG} {t : FT} {k x : FE} {own : List Nat}
def turnD (g : FG) (t : FT) (k x : FE) (own : List Nat) (e0 : En) (d : D) (o : Option (D × D)) : Prop :=
  wpG g d e0 fun e1 => wpT t e1 fun r e2 => if r = true then wpE k e2 fun y e3 => wpE x e3 fun z e4 => o = some (y, z) ∧ wipeE e4 own = e0 else o = none ∧ wipeE e2 own = e0
/-- keys that a dict may hold together, each once -/
structure Keys (l : List (D × D)) : Prop where
  knd : l.all (fun p => fltK p.1) = true ∨ l.all (fun p => tupK p.1) = true
  one : l.Pairwise fun p q => peq p.1 q.1 = false
theorem Keys.of_app {l m : List (D × D)} (h : Keys (l ++ m)) : Keys l := by
  refine ⟨?_, (List.pairwise_append.mp h.one).1⟩
  rcases h.knd with z | z
  · rw [List.all_append, Bool.and_eq_true] at z; exact .inl z.1
  · rw [List.all_append, Bool.and_eq_true] at z; exact .inr z.1
theorem Keys.put {acc : List (D × D)} {p : D × D} (h : Keys (acc ++ [p])) : keyOk acc p.1 = true ∧ putD acc p.1 p.2 = acc ++ [p] := by
  constructor
  · unfold keyOk
    rcases h.knd with z | z <;> simp only [List.all_append, Bool.and_eq_true, List.all_cons, List.all_nil, Bool.and_true] at z <;> simp [z.1, z.2]
  · unfold putD
    rw [if_neg]
    intro hh
    obtain ⟨q, hq, e⟩ := List.any_eq_true.mp hh
    have := (List.pairwise_append.mp h.one).2.2 q hq p (by simp)
    rw [this] at e
    cases e
theorem dc_pure {e0 : En} (F : D → Option (D × D)) : ∀ {ds : List D} {acc : List (D × D)}, (∀ d ∈ ds, turnD g t k x own e0 d (F d)) → Keys (acc ++ ds.filterMap F) → acc.length + ds.length ≤ big → dcL g t k x own ds acc e0 = some (acc ++ ds.filterMap F, e0)
  | [], acc, _, _, _ => by simp [dcL]
  | d :: ds, acc, h, hk, hl => by
    simp only [List.length_cons] at hl
    obtain ⟨e1, h1, r, e2, h2, h3⟩ := h d List.mem_cons_self
    cases r with
    | true =>
      simp only [if_true] at h3
      obtain ⟨y, e3, h4, z, e4, h5, h6, h7⟩ := h3
      rw [List.filterMap_cons, h6] at hk ⊢
      simp only at hk ⊢
      have hk2 : Keys ((acc ++ [(y, z)]) ++ ds.filterMap F) := by simpa using hk
      obtain ⟨k1, k2⟩ := hk2.of_app.put
      have ih := dc_pure F (ds := ds) (acc := acc ++ [(y, z)]) (fun d hd => h d (List.mem_cons_of_mem _ hd)) hk2 (by simp; omega)
      have : acc.length < big := by omega
      simp only [dcL, h1, h2, h4, h5, Option.bind_some, if_true]
      rw [if_pos ⟨k1, this⟩, k2, h7, ih]
      simp
    | false =>
      simp only [Bool.false_eq_true, if_false] at h3
      rw [List.filterMap_cons, h3.1] at hk ⊢
      simp only at hk ⊢
      have ih := dc_pure F (ds := ds) (acc := acc) (fun d hd => h d (List.mem_cons_of_mem _ hd)) hk (by omega)
      simp only [dcL, h1, h2, Option.bind_some, Bool.false_eq_true, if_false, h3.2, ih]
end
theorem edK_keys {es : List Ed} (h : (es.map fun e => (e.1, e.2.1)).Nodup) : Keys (es.map edK) := by
  refine ⟨.inr ?_, ?_⟩
  · rw [List.all_map, List.all_eq_true]
    intro e _
    simp [edK, tupK, VD.hshL, VD.hsh, depL, dep]
  · rw [List.pairwise_map]
    rw [List.Nodup, List.pairwise_map] at h
    refine h.imp fun {a b} hab => ?_
    simp only [edK, peq_tup, peqL_c, peqL_n, peq_ii, peq_ss, Bool.and_true]
    rw [Bool.eq_false_iff]
    intro hh
    simp at hh
    exact hab (by rw [hh.1, hh.2])
end TH
end

section
set_option linter.all false
set_option maxRecDepth 10000
/-! TD: the words that exchanges lead to, in order. -/
namespace TH
open VD
/-! order of texts -/
theorem tl_irr (a : List Nat) : ¬ a < a := List.lt_irrefl a
theorem tl_tr {a b c : List Nat} (h : a < b) (k : b < c) : a < c := List.lt_trans h k
theorem tl_tri (a b : List Nat) : a < b ∨ a = b ∨ b < a := by
  by_cases h : a < b
  · exact .inl h
  · by_cases k : b < a
    · exact .inr (.inr k)
    · exact .inr (.inl (List.le_antisymm (List.not_lt.mp k) (List.not_lt.mp h)))
def strLe (a b : List Nat) : Bool := !decide (b < a)
theorem strLe_tr (a b c : List Nat) (h : strLe a b = true) (k : strLe b c = true) : strLe a c = true := by
  simp only [strLe, Bool.not_eq_true', decide_eq_false_iff_not] at *
  exact List.not_lt.mpr (List.le_trans (List.not_lt.mp h) (List.not_lt.mp k))
theorem strLe_tot (a b : List Nat) : (strLe a b || strLe b a) = true := by
  simp only [strLe, Bool.or_eq_true, Bool.not_eq_true', decide_eq_false_iff_not]
  rcases tl_tri a b with h | h | h
  · exact .inl fun k => tl_irr _ (tl_tr h k)
  · subst h; exact .inl (tl_irr a)
  · exact .inr fun k => tl_irr _ (tl_tr h k)
theorem dLe_str (a b : List Nat) : dLe (.str a) (.str b) = strLe a b := by
  simp [dLe, dLt, tok, tokLt, tokLt1, strLe]
def srtW (ps : List (List Nat)) : List (List Nat) := ps.mergeSort strLe
theorem sortable_strs {ps : List (List Nat)} (h : ps.length ≤ big) : sortable (ps.map D.str) = true := by
  unfold sortable
  simp only [Bool.and_eq_true, List.all_eq_true, List.mem_map, forall_exists_index, and_imp, forall_apply_eq_imp_iff₂, decide_eq_true_eq, List.length_map, Bool.or_eq_true]
  exact ⟨⟨⟨fun a _ b _ => rfl, .inr fun a _ => rfl⟩, fun a _ => Nat.zero_le _⟩, h⟩
theorem sort_strs {ps : List (List Nat)} (h : ps.length ≤ big) : sortL (ps.map .str) = some ((srtW ps).map .str) := by
  unfold sortL
  rw [if_pos (sortable_strs h)]
  congr 1
  exact (List.map_mergeSort fun a _ b _ => (dLe_str a b).symm).symm
theorem srtW_perm (ps : List (List Nat)) : (srtW ps).Perm ps := List.mergeSort_perm ps strLe
theorem srtW_lt {ps : List (List Nat)} (h : ps.Nodup) : (srtW ps).Pairwise (· < ·) := by
  have h1 : (srtW ps).Pairwise fun a b => strLe a b = true := List.pairwise_mergeSort strLe_tr strLe_tot ps
  have h2 : (srtW ps).Nodup := (srtW_perm ps).nodup_iff.mpr h
  refine (h1.and h2).imp fun {a b} ⟨q, n⟩ => ?_
  simp only [strLe, Bool.not_eq_true', decide_eq_false_iff_not] at q
  rcases tl_tri a b with k | k | k
  · exact k
  · exact absurd k n
  · exact absurd k q
theorem srt_ext : ∀ {l m : List (List Nat)}, l.Pairwise (· < ·) → m.Pairwise (· < ·) → (∀ x, x ∈ l ↔ x ∈ m) → l = m
  | [], [], _, _, _ => rfl
  | [], y :: m, _, _, h => absurd ((h y).mpr List.mem_cons_self) (by simp)
  | x :: l, [], _, _, h => absurd ((h x).mp List.mem_cons_self) (by simp)
  | x :: l, y :: m, hl, hm, h => by
    obtain ⟨l1, l2⟩ := List.pairwise_cons.mp hl
    obtain ⟨m1, m2⟩ := List.pairwise_cons.mp hm
    have exy : x = y := by
      rcases List.mem_cons.mp ((h x).mp List.mem_cons_self) with e | e
      · exact e
      · rcases List.mem_cons.mp ((h y).mpr List.mem_cons_self) with k | k
        · exact k.symm
        · exact absurd (tl_tr (l1 y k) (m1 x e)) (tl_irr x)
    subst exy
    have : l = m := srt_ext l2 m2 fun z => by
      constructor
      · intro hz
        rcases List.mem_cons.mp ((h z).mp (List.mem_cons_of_mem _ hz)) with e | e
        · subst e; exact absurd (l1 _ hz) (tl_irr _)
        · exact e
      · intro hz
        rcases List.mem_cons.mp ((h z).mpr (List.mem_cons_of_mem _ hz)) with e | e
        · subst e; exact absurd (m1 _ hz) (tl_irr _)
        · exact e
    rw [this]
/-! what may stand first -/
section
variable {f : Nat → Nat → Bool}
theorem rch_cons (sy : ∀ a b, f a b = f b a) (ir : ∀ a, f a a = false) {a : Nat} {r w : List Nat} (hr : Rch f w (a :: r)) : ∃ p q, w = p ++ a :: q ∧ (∀ b ∈ p, f a b = true) ∧ Rch f (p ++ q) r := by
  have h := (hr.symm sy).alike sy
  have haw : a ∈ w := hr.perm.mem_iff.mp List.mem_cons_self
  obtain ⟨p, q, rfl, hp⟩ := List.eq_append_cons_of_mem haw
  have hall : ∀ b ∈ p, f a b = true := fun b hb => by
    cases hf : f a b with
    | true => rfl
    | false =>
      exfalso
      have hab : a ≠ b := fun e => hp (e ▸ hb)
      have h2 := h.2 a b hab hf
      rw [List.filter_append] at h2
      have hne : p.filter (· ∈ [a, b]) ≠ [] := fun e => by
        have := List.filter_eq_nil_iff.mp e b hb
        simp at this
      cases hq : p.filter (· ∈ [a, b]) with
      | nil => exact hne hq
      | cons c s =>
        have hc : c ∈ p.filter (· ∈ [a, b]) := by rw [hq]; exact List.mem_cons_self
        obtain ⟨hc1, hc2⟩ := List.mem_filter.mp hc
        rw [hq, List.filter_cons] at h2
        simp only [List.mem_cons, true_or, decide_true, if_true, List.cons_append, List.cons.injEq] at h2
        exact hp (h2.1 ▸ hc1)
  refine ⟨p, q, rfl, hall, ?_⟩
  have al : Alike f (a :: r) (a :: (p ++ q)) := ((hr.symm sy).trans (Rch.front sy p q hall)).alike sy
  have h3 : Alike f r (p ++ q) := by
    refine ⟨fun x => ?_, fun x y hxy hf => ?_⟩
    · have := al.1 x
      rw [List.count_cons, List.count_cons] at this
      omega
    · have := al.2 x y hxy hf
      rw [List.filter_cons, List.filter_cons] at this
      split at this
      · simpa using this
      · exact this
  exact (alike_rch sy ir r (p ++ q) h3).symm sy
theorem rch_of_cons (sy : ∀ a b, f a b = f b a) {a : Nat} {r p q : List Nat} (hp : ∀ b ∈ p, f a b = true) (h : Rch f (p ++ q) r) : Rch f (p ++ a :: q) (a :: r) := (Rch.front sy p q hp).trans (h.cons a)
/-- the letters that may stand first, as they stand -/
def fsts (f : Nat → Nat → Bool) (w : List Nat) : List Nat := ((List.range w.length).filter fun i => (w.take i).all fun y => f (w[i]?.getD 0) y).map fun i => w[i]?.getD 0
theorem mem_fsts {w : List Nat} {c : Nat} : c ∈ fsts f w ↔ ∃ p q, w = p ++ c :: q ∧ ∀ b ∈ p, f c b = true := by
  unfold fsts
  rw [List.mem_map]
  constructor
  · rintro ⟨i, hi, rfl⟩
    obtain ⟨h1, h2⟩ := List.mem_filter.mp hi
    have h1 := List.mem_range.mp h1
    have e : w[i]?.getD 0 = w[i] := by rw [List.getElem?_eq_getElem h1]; rfl
    rw [e] at h2 ⊢
    exact ⟨w.take i, w.drop (i + 1), by rw [← List.drop_eq_getElem_cons h1, List.take_append_drop], fun b hb => List.all_eq_true.mp h2 b hb⟩
  · rintro ⟨p, q, rfl, h⟩
    have e : (p ++ c :: q)[p.length]?.getD 0 = c := by rw [List.getElem?_append_right (Nat.le_refl _)]; simp
    refine ⟨p.length, List.mem_filter.mpr ⟨List.mem_range.mpr (by simp), ?_⟩, e⟩
    rw [e, List.take_left, List.all_eq_true]
    exact h
theorem fsts_nodup (ir : ∀ a, f a a = false) (w : List Nat) : (fsts f w).Nodup := by
  unfold fsts
  rw [List.Nodup, List.pairwise_map]
  have h1 : ((List.range w.length).filter fun i => (w.take i).all fun y => f (w[i]?.getD 0) y).Pairwise (· < ·) := List.pairwise_lt_range.sublist List.filter_sublist
  refine List.Pairwise.imp_of_mem (fun {i j} hi hj hij e => ?_) h1
  obtain ⟨i1, _⟩ := List.mem_filter.mp hi
  obtain ⟨j1, j2⟩ := List.mem_filter.mp hj
  have i1 := List.mem_range.mp i1
  have j1 := List.mem_range.mp j1
  have m : w[i]?.getD 0 ∈ w.take j := by
    rw [List.getElem?_eq_getElem i1]
    exact List.mem_take_iff_getElem.mpr ⟨i, by omega, rfl⟩
  have := List.all_eq_true.mp j2 _ m
  rw [← e, ir] at this
  cases this
/-- .. in order -/
def fst (f : Nat → Nat → Bool) (w : List Nat) : List Nat := (srtW ((fsts f w).map fun c => [c])).map fun c => c.headD 0
theorem nodup_sing {l : List Nat} (h : l.Nodup) : (l.map fun c => [c]).Nodup := by
  rw [List.Nodup, List.pairwise_map]
  exact h.imp fun {a b} hab e => hab (by simpa using e)
theorem srt_sing (l : List Nat) : ∃ m : List Nat, srtW (l.map fun c => [c]) = m.map (fun c => [c]) ∧ m.Perm l := by
  have := srtW_perm (l.map fun c => [c])
  have key : ∀ {l : List (List Nat)} {ps : List Nat}, l.Perm (ps.map fun c => [c]) → ∃ qs : List Nat, l = qs.map (fun c => [c]) ∧ qs.Perm ps := by
    intro l
    induction l with
    | nil =>
      intro ps h
      have : ps = [] := by have := h.length_eq; cases ps with
        | nil => rfl
        | cons _ _ => simp at this
      subst this
      exact ⟨[], rfl, .nil⟩
    | cons d l ih =>
      intro ps h
      obtain ⟨p, hp, rfl⟩ := List.mem_map.mp (h.mem_iff.mp List.mem_cons_self)
      obtain ⟨a, b, rfl⟩ := List.append_of_mem hp
      have h2 : l.Perm ((a ++ b).map fun c => [c]) := by
        have : ([p] :: l).Perm ([p] :: (a ++ b).map fun c => [c]) := h.trans (by simp only [List.map_append, List.map_cons]; exact List.perm_middle)
        exact (List.perm_cons _).mp this
      obtain ⟨qs, rfl, q2⟩ := ih h2
      exact ⟨p :: qs, rfl, (q2.cons p).trans List.perm_middle.symm⟩
  exact key this
theorem fst_eq (f : Nat → Nat → Bool) (w : List Nat) : srtW ((fsts f w).map fun c => [c]) = (fst f w).map (fun c => [c]) ∧ (fst f w).Perm (fsts f w) := by
  obtain ⟨m, h1, h2⟩ := srt_sing (fsts f w)
  have : fst f w = m := by unfold fst; rw [h1, List.map_map]; exact List.map_id' _
  rw [this]
  exact ⟨h1, h2⟩
theorem sing_lt (a b : Nat) : ([a] : List Nat) < [b] ↔ a < b := lt1 a b
theorem fst_lt (ir : ∀ a, f a a = false) (w : List Nat) : (fst f w).Pairwise (· < ·) := by
  have h := srtW_lt (nodup_sing (fsts_nodup ir w))
  rw [(fst_eq f w).1, List.pairwise_map] at h
  exact h.imp fun {a b} hab => (sing_lt a b).mp hab
theorem mem_fst {w : List Nat} {c : Nat} : c ∈ fst f w ↔ ∃ p q, w = p ++ c :: q ∧ ∀ b ∈ p, f c b = true := by rw [(fst_eq f w).2.mem_iff, mem_fsts]
theorem first_at (ir : ∀ a, f a a = false) {w p q : List Nat} {c : Nat} (h : w = p ++ c :: q) (hp : ∀ b ∈ p, f c b = true) : c ∉ p ∧ w.idxOf c = p.length ∧ w.take (w.idxOf c) ++ w.drop (w.idxOf c + 1) = p ++ q := by
  have hn : c ∉ p := fun hc => by have := hp c hc; rw [ir] at this; cases this
  have hi : w.idxOf c = p.length := by
    subst h
    rw [List.idxOf_append, if_neg hn]
    simp
  refine ⟨hn, hi, ?_⟩
  rw [hi]
  subst h
  simp
/-- the word without the letter's first place -/
def wof (w : List Nat) (c : Nat) : List Nat := w.take (w.idxOf c) ++ w.drop (w.idxOf c + 1)
theorem wof_len {w : List Nat} {c : Nat} (h : c ∈ w) : (wof w c).length + 1 = w.length := by
  have := List.idxOf_lt_length_iff.mpr h
  unfold wof
  rw [List.length_append, List.length_take, List.length_drop]
  omega
theorem fst_mem {w : List Nat} {c : Nat} (h : c ∈ fst f w) : c ∈ w := by
  obtain ⟨p, q, rfl, _⟩ := mem_fst.mp h
  simp
theorem rch_fst (sy : ∀ a b, f a b = f b a) (ir : ∀ a, f a a = false) {w r : List Nat} {c : Nat} : Rch f w (c :: r) ↔ c ∈ fst f w ∧ Rch f (wof w c) r := by
  constructor
  · intro h
    obtain ⟨p, q, e, hp, hr⟩ := rch_cons sy ir h
    refine ⟨mem_fst.mpr ⟨p, q, e, hp⟩, ?_⟩
    unfold wof
    rw [(first_at ir e hp).2.2]
    exact hr
  · rintro ⟨h, hr⟩
    obtain ⟨p, q, e, hp⟩ := mem_fst.mp h
    unfold wof at hr
    rw [(first_at ir e hp).2.2] at hr
    rw [e]
    exact rch_of_cons sy hp hr
theorem fst_ne {w : List Nat} (h : w ≠ []) : fst f w ≠ [] := by
  cases w with
  | nil => exact absurd rfl h
  | cons a w => exact List.ne_nil_of_mem (mem_fst.mpr ⟨[], w, rfl, fun b hb => by simp at hb⟩)
/-- all words that exchanges lead to, by their first letters -/
def allW (f : Nat → Nat → Bool) : Nat → List Nat → List (List Nat)
  | 0, _ => [[]]
  | n + 1, w => (fst f w).flatMap fun c => (allW f n (wof w c)).map (c :: ·)
theorem mem_allW (sy : ∀ a b, f a b = f b a) (ir : ∀ a, f a a = false) : ∀ {n : Nat} {w u : List Nat}, w.length = n → (u ∈ allW f n w ↔ Rch f w u)
  | 0, w, u, h => by
    have : w = [] := List.length_eq_zero_iff.mp h
    subst this
    simp only [allW, List.mem_singleton]
    constructor
    · rintro rfl; exact .refl _
    · intro hr; exact hr.perm.eq_nil
  | n + 1, w, u, h => by
    simp only [allW, List.mem_flatMap, List.mem_map]
    constructor
    · rintro ⟨c, hc, r, hr, rfl⟩
      have hl := wof_len (fst_mem hc)
      exact (rch_fst sy ir).mpr ⟨hc, (mem_allW sy ir (by omega)).mp hr⟩
    · intro hr
      have hl := hr.perm.length_eq
      cases u with
      | nil => simp at hl; omega
      | cons c r =>
        obtain ⟨hc, hr2⟩ := (rch_fst sy ir).mp hr
        have hl := wof_len (fst_mem hc)
        exact ⟨c, hc, r, (mem_allW sy ir (by omega)).mpr hr2, rfl⟩
theorem cons_lt {a b : Nat} {u v : List Nat} (h : a < b) : a :: u < b :: v := List.Lex.rel h
theorem cons_lt2 {a : Nat} {u v : List Nat} (h : u < v) : a :: u < a :: v := List.Lex.cons h
theorem allW_lt (ir : ∀ a, f a a = false) : ∀ (n : Nat) (w : List Nat), (allW f n w).Pairwise (· < ·)
  | 0, w => by simp [allW]
  | n + 1, w => by
    simp only [allW]
    rw [List.pairwise_flatMap]
    refine ⟨fun c _ => ?_, (fst_lt ir w).imp fun {a b} hab x hx y hy => ?_⟩
    · rw [List.pairwise_map]
      exact (allW_lt ir n (wof w c)).imp fun {u v} h => cons_lt2 h
    · obtain ⟨u, _, rfl⟩ := List.mem_map.mp hx
      obtain ⟨v, _, rfl⟩ := List.mem_map.mp hy
      exact cons_lt hab
/-- the least, the greatest of them -/
def leastW (f : Nat → Nat → Bool) : Nat → List Nat → List Nat
  | 0, _ => []
  | n + 1, w => let c := (fst f w).headD 0; c :: leastW f n (wof w c)
def greatW (f : Nat → Nat → Bool) : Nat → List Nat → List Nat
  | 0, _ => []
  | n + 1, w => let c := (fst f w).getLastD 0; c :: greatW f n (wof w c)
theorem leastW_ok (sy : ∀ a b, f a b = f b a) (ir : ∀ a, f a a = false) : ∀ {n : Nat} {w : List Nat}, w.length = n → Rch f w (leastW f n w) ∧ ∀ u, Rch f w u → ¬ u < leastW f n w
  | 0, w, h => by
    have : w = [] := List.length_eq_zero_iff.mp h
    subst this
    exact ⟨.refl _, fun u hu => by rw [hu.perm.eq_nil]; exact tl_irr _⟩
  | n + 1, w, h => by
    have hne : w ≠ [] := fun e => by subst e; simp at h
    obtain ⟨c, F, hF⟩ : ∃ c F, fst f w = c :: F := by
      cases hF : fst f w with
      | nil => exact absurd hF (fst_ne hne)
      | cons c F => exact ⟨c, F, rfl⟩
    have hc : c ∈ fst f w := by rw [hF]; exact List.mem_cons_self
    have hl := wof_len (fst_mem hc)
    obtain ⟨r1, r2⟩ := leastW_ok sy ir (n := n) (w := wof w c) (by omega)
    have e : leastW f (n + 1) w = c :: leastW f n (wof w c) := by simp [leastW, hF]
    rw [e]
    refine ⟨(rch_fst sy ir).mpr ⟨hc, r1⟩, fun u hu hlt => ?_⟩
    cases u with
    | nil => have := hu.perm.length_eq; simp at this; omega
    | cons d r =>
      obtain ⟨hd, hr⟩ := (rch_fst sy ir).mp hu
      have hcd : c ≤ d := by
        have h1 := fst_lt ir w
        rw [hF] at h1 hd
        rcases List.mem_cons.mp hd with rfl | hd
        · exact Nat.le_refl _
        · exact Nat.le_of_lt ((List.pairwise_cons.mp h1).1 d hd)
      cases hlt with
      | rel h => omega
      | cons h => exact r2 r hr h
theorem greatW_ok (sy : ∀ a b, f a b = f b a) (ir : ∀ a, f a a = false) : ∀ {n : Nat} {w : List Nat}, w.length = n → Rch f w (greatW f n w) ∧ ∀ u, Rch f w u → ¬ greatW f n w < u
  | 0, w, h => by
    have : w = [] := List.length_eq_zero_iff.mp h
    subst this
    exact ⟨.refl _, fun u hu => by rw [hu.perm.eq_nil]; exact tl_irr _⟩
  | n + 1, w, h => by
    have hne : w ≠ [] := fun e => by subst e; simp at h
    obtain ⟨c, F, hF⟩ : ∃ c F, fst f w = F ++ [c] := by
      have := List.dropLast_concat_getLast (fst_ne (f := f) hne)
      exact ⟨_, _, this.symm⟩
    have hc : c ∈ fst f w := by rw [hF]; simp
    have hl := wof_len (fst_mem hc)
    obtain ⟨r1, r2⟩ := greatW_ok sy ir (n := n) (w := wof w c) (by omega)
    have e : greatW f (n + 1) w = c :: greatW f n (wof w c) := by simp [greatW, hF]
    rw [e]
    refine ⟨(rch_fst sy ir).mpr ⟨hc, r1⟩, fun u hu hlt => ?_⟩
    cases u with
    | nil => have := hu.perm.length_eq; simp at this; omega
    | cons d r =>
      obtain ⟨hd, hr⟩ := (rch_fst sy ir).mp hu
      have hcd : d ≤ c := by
        have h1 := fst_lt ir w
        rw [hF] at h1 hd
        rcases List.mem_append.mp hd with hd | hd
        · exact Nat.le_of_lt ((List.pairwise_append.mp h1).2.2 d hd c (by simp))
        · rw [List.mem_singleton.mp hd]; exact Nat.le_refl _
      cases hlt with
      | rel h => omega
      | cons h => exact r2 r hr h
theorem fst_len (w : List Nat) : (fst f w).length ≤ w.length := by
  rw [(fst_eq f w).2.length_eq]
  unfold fsts
  rw [List.length_map]
  have := List.length_filter_le (fun i => (w.take i).all fun y => f (w[i]?.getD 0) y) (List.range w.length)
  rwa [List.length_range] at this
theorem len_flat {α β : Type} {g : α → List β} {m : Nat} : ∀ {l : List α}, (∀ a ∈ l, (g a).length ≤ m) → (l.flatMap g).length ≤ l.length * m
  | [], _ => by simp
  | a :: l, h => by
    have ih := len_flat (l := l) fun b hb => h b (List.mem_cons_of_mem _ hb)
    have := h a List.mem_cons_self
    rw [List.flatMap_cons, List.length_append, List.length_cons, Nat.succ_mul]
    omega
theorem allW_len : ∀ {n : Nat} {w : List Nat}, w.length = n → n ≤ 8 → (allW f n w).length ≤ 8 ^ n
  | 0, _, _, _ => by simp [allW]
  | n + 1, w, h, hn => by
    simp only [allW]
    have h1 := len_flat (l := fst f w) (g := fun c => (allW f n (wof w c)).map (c :: ·)) (m := 8 ^ n) fun c hc => by
      rw [List.length_map]
      have := wof_len (fst_mem hc)
      exact allW_len (by omega) (by omega)
    refine Nat.le_trans h1 ?_
    have := fst_len (f := f) w
    rw [Nat.pow_succ, Nat.mul_comm (8 ^ n)]
    exact Nat.mul_le_mul_right _ (by omega)
theorem head_min {X : List (List Nat)} (h : X.Pairwise (· < ·)) {z : List Nat} (hz : z ∈ X) (hm : ∀ u ∈ X, ¬ u < z) : X[0]? = some z := by
  cases X with
  | nil => simp at hz
  | cons x X =>
    rcases List.mem_cons.mp hz with rfl | hz
    · rfl
    · exact absurd ((List.pairwise_cons.mp h).1 z hz) (hm x List.mem_cons_self)
theorem last_max {X : List (List Nat)} (h : X.Pairwise (· < ·)) {z : List Nat} (hz : z ∈ X) (hm : ∀ u ∈ X, ¬ z < u) : X[X.length - 1]? = some z := by
  have hne : X ≠ [] := List.ne_nil_of_mem hz
  have e := List.dropLast_concat_getLast hne
  generalize X.dropLast = Y at e
  generalize X.getLast hne = y at e
  subst e
  have : (Y ++ [y])[(Y ++ [y]).length - 1]? = some y := by simp
  rw [this]
  rcases List.mem_append.mp hz with z1 | z1
  · exact absurd ((List.pairwise_append.mp h).2.2 z z1 y (by simp)) (hm y (by simp))
  · rw [List.mem_singleton.mp z1]
theorem least_uni (sy : ∀ a b, f a b = f b a) (ir : ∀ a, f a a = false) {w v : List Nat} (h : Rch f w v) : leastW f v.length v = leastW f w.length w := by
  obtain ⟨a1, a2⟩ := leastW_ok sy ir (n := v.length) (w := v) rfl
  obtain ⟨b1, b2⟩ := leastW_ok sy ir (n := w.length) (w := w) rfl
  rcases tl_tri (leastW f v.length v) (leastW f w.length w) with k | k | k
  · exact absurd k (b2 _ (h.trans a1))
  · exact k
  · exact absurd k (a2 _ ((h.symm sy).trans b1))
end
end TH
end

section
set_option linter.all false
namespace PLk10
open VD
/-- independent: 0 alphabet, 1 x, 2 y -/
def b_independent : FS := (retS (valF (ts2 inD (op2 addD (op2 min2D (varF 1) (varF 2)) (op2 max2D (varF 1) (varF 2))) (op2 VD.getD (varF 0) (cF (.int 2))))))
def f_independent : Fn := defF 3 b_independent
/-- free: 0 alphabet, 1 word, 2 other, 3 x, 4 y -/
def b_free : FS := (retS (valF (allF (genM2 (nameG 3) (itF (varF 1)) yesT (itF (varF 2)) (nameG 4) yesT (immF (callM f_independent [.e (varF 0), .e (varF 3), .e (varF 4)])) [3, 4] [4]))))
def f_free : Fn := defF 5 b_free
/-- firsts: 0 alphabet, 1 word, 2 found, 3 place, 4 letter -/
def b_firsts : FS := (seqS (setMS 2 (compM (tupG [3, 4]) (enumF (varF 1)) (truT (immF (callM f_free [.e (varF 0), .e (varF 4), .e (cutF (varF 1) noF (someF (varF 3)))]))) (varF 4) [3, 4])) (retS (joinRF (cF (.str [])) (srtFM (slotM 2)))))
def f_firsts : Fn := defF 5 b_firsts
/-- without_first: 0 word, 1 letter, 2 place -/
def b_without_first : FS := (seqS (setS 2 (op2 sidxD (varF 0) (varF 1))) (retS (op2 addD (cutF (varF 0) noF (someF (varF 2))) (cutF (varF 0) (someF (op2 addD (varF 2) (cF (.int 1)))) noF))))
def f_without_first : Fn := defF 3 b_without_first
/-- least: 0 alphabet, 1 word, 2 found, 3 letter -/
def b_least : FS := (seqS (setS 2 (cF (.str []))) (seqS (whileN (truT (varF 1)) (seqS (setS 3 (op2 VD.getD (immF (callM f_firsts [.e (varF 0), .e (varF 1)])) (cF (.int 0)))) (seqS (augS augAdd 2 (varF 3)) (setS 1 (immF (callM f_without_first [.e (varF 1), .e (varF 3)]))))) fuel) (retS (varF 2))))
def f_least : Fn := defF 4 b_least
/-- greatest: 0 alphabet, 1 word, 2 found, 3 letter -/
def b_greatest : FS := (seqS (setS 2 (cF (.str []))) (seqS (whileN (truT (varF 1)) (seqS (setS 3 (op2 VD.getD (immF (callM f_firsts [.e (varF 0), .e (varF 1)])) (op1 negD (cF (.int 1))))) (seqS (augS augAdd 2 (varF 3)) (setS 1 (immF (callM f_without_first [.e (varF 1), .e (varF 3)]))))) fuel) (retS (varF 2))))
def f_greatest : Fn := defF 4 b_greatest
/-- words_of: 0 alphabet, 1 word, 2 letter, 3 rest -/
def f_words_of : Nat → Fn
  | 0 => fun _ => none
  | z + 1 => defF 4 (seqS (ifS (notT (truT (varF 1))) (retS (tupF (consA (cF (.str [])) nilA))) nxS) (retS (tupGF (genM2 (nameG 2) (itF (immF (callM f_firsts [.e (varF 0), .e (varF 1)]))) yesT (itF (immF (callM (f_words_of z) [.e (varF 0), .e (immF (callM f_without_first [.e (varF 1), .e (varF 2)]))]))) (nameG 3) yesT (op2 addD (varF 2) (varF 3)) [2, 3] [3]))))
/-- _law_cell: 0 script, 1 k -/
def b__law_cell : FS := (seqS (ifS (ts2 ltD (varF 1) (lenF (varF 0))) (retS (op2 VD.getD (varF 0) (varF 1))) nxS) (retS (cF (.int 0))))
def f__law_cell : Fn := defF 2 b__law_cell
/-- _law_digits: 0 script, 1 first, 2 last, 3 digits, 4 k, 5 cell, 6 turn, 7 seed -/
def b__law_digits : FS := (seqS (setMS 3 (lstM nilA)) (seqS (forS (nameG 4) (rng2 (varF 1) (varF 2)) (seqS (setS 5 (immF (callM f__law_cell [.e (varF 0), .e (varF 4)]))) (seqS (ifS (ts2 ltD (varF 5) (cF (.int 0))) (setS 5 (op2 subD (cF (.int 1)) (op2 mulD (cF (.int 2)) (varF 5)))) nxS) (ifS (ts2 geD (varF 5) (op2 powD (cF (.int 10)) (cF (.int 18)))) (forS (nameG 6) (rng1 (cF (.int 60))) (ifS (ts2 gtD (varF 5) (cF (.int 0))) (seqS (appS 3 (op2 modD (op1 intD (varF 5)) (cF (.int 1000)))) (setS 5 (op2 divD (varF 5) (cF (.int 1000))))) nxS)) (seqS (setS 7 (op2 modD (op1 intD (op2 addD (op2 addD (op2 mulD (varF 5) (cF (.int 48271))) (op2 mulD (varF 4) (cF (.int 69621)))) (cF (.int 11)))) (cF (.int 2147483647)))) (forS (nameG 6) (rng1 (cF (.int 12))) (seqS (setS 7 (op2 modD (op1 intD (op2 addD (op2 addD (op2 mulD (varF 7) (cF (.int 16807))) (op2 mulD (cF (.int 7)) (varF 6))) (cF (.int 1)))) (cF (.int 2147483647)))) (appS 3 (op2 modD (op1 intD (op2 divD (varF 7) (cF (.int 997)))) (cF (.int 1000))))))))))) (retS (frzF 3))))
def f__law_digits : Fn := defF 8 b__law_digits
/-- _law_box: 0 script, 1 first, 2 last -/
def b__law_box : FS := (retMS (lstM (consA (immF (callM f__law_digits [.e (varF 0), .e (varF 1), .e (varF 2)])) (consA (cF (.int 0)) nilA))))
def f__law_box : Fn := defF 3 b__law_box
/-- _law_draw: 0 box, 1 many, 2 at -/
def b__law_draw : FS := (seqS (setS 2 (getS 0 (cF (.int 1)))) (seqS (putS 0 (cF (.int 1)) (op2 addD (varF 2) (cF (.int 1)))) (seqS (ifS (ts2 ltD (varF 2) (lenF (getS 0 (cF (.int 0))))) (retS (op2 modD (op1 intD (op2 VD.getD (getS 0 (cF (.int 0))) (varF 2))) (varF 1))) nxS) (retS (cF (.int 0))))))
def f__law_draw : Fn := defF 3 b__law_draw
/-- _law_alphabet: 0 box, 1 most, 2 letters, 3 pairs, 4 j, 5 k -/
def b__law_alphabet : FS := (seqS (setS 2 (cutF (cF (.str [97, 98, 99, 100, 101, 102])) noF (someF (op2 addD (cF (.int 1)) (immF (callM f__law_draw [.s 0, .e (varF 1)])))))) (seqS (setMS 3 (lstM nilA)) (seqS (forS (nameG 4) (rng1 (lenF (varF 2))) (forS (nameG 5) (rng2 (op2 addD (varF 4) (cF (.int 1))) (lenF (varF 2))) (ifS (ts2 ltD (immF (callM f__law_draw [.s 0, .e (cF (.int 5))])) (cF (.int 2))) (appS 3 (op2 addD (op2 VD.getD (varF 2) (varF 4)) (op2 VD.getD (varF 2) (varF 5)))) nxS))) (retS (tupF (consA (cF (.str [97, 108, 112, 104, 97, 98, 101, 116])) (consA (varF 2) (consA (tupFM (srtFM (slotM 3))) nilA))))))))
def f__law_alphabet : Fn := defF 6 b__law_alphabet
/-- _law_word: 0 box, 1 alphabet, 2 most, 3 word, 4 k -/
def b__law_word : FS := (seqS (setS 3 (cF (.str []))) (seqS (forS (nameG 4) (rng1 (immF (callM f__law_draw [.s 0, .e (op2 addD (varF 2) (cF (.int 1)))]))) (setS 3 (op2 addD (varF 3) (op2 VD.getD (op2 VD.getD (varF 1) (cF (.int 1))) (immF (callM f__law_draw [.s 0, .e (lenF (op2 VD.getD (varF 1) (cF (.int 1))))])))))) (retS (varF 3))))
def f__law_word : Fn := defF 5 b__law_word
/-- _law_free: 0 alphabet, 1 x, 2 y -/
def b__law_free : FS := (retS (valF (orT (ts2 inD (op2 addD (varF 1) (varF 2)) (op2 VD.getD (varF 0) (cF (.int 2)))) (ts2 inD (op2 addD (varF 2) (varF 1)) (op2 VD.getD (varF 0) (cF (.int 2)))))))
def f__law_free : Fn := defF 3 b__law_free
/-- _law_class: 0 alphabet, 1 word, 2 found, 3 at, 4 known, 5 here, 6 k, 7 there -/
def b__law_class : FS := (seqS (setMS 2 (lstM (consA (varF 1) nilA))) (seqS (setS 3 (cF (.int 0))) (seqS (setMS 4 (done1 (varF 1) (cF (.bl true)))) (seqS (whileN (ts2 ltD (varF 3) (lenS 2)) (seqS (setS 5 (getS 2 (varF 3))) (seqS (setS 3 (op2 addD (varF 3) (cF (.int 1)))) (forS (nameG 6) (rng1 (op2 subD (lenF (varF 5)) (cF (.int 1)))) (ifS (truT (immF (callM f__law_free [.e (varF 0), .e (op2 VD.getD (varF 5) (varF 6)), .e (op2 VD.getD (varF 5) (op2 addD (varF 6) (cF (.int 1))))]))) (seqS (setS 7 (op2 addD (op2 addD (op2 addD (cutF (varF 5) noF (someF (varF 6))) (op2 VD.getD (varF 5) (op2 addD (varF 6) (cF (.int 1))))) (op2 VD.getD (varF 5) (varF 6))) (cutF (varF 5) (someF (op2 addD (varF 6) (cF (.int 2)))) noF))) (ifS (notInDS (varF 7) 4) (seqS (putKS 4 (varF 7) (cF (.bl true))) (appS 2 (varF 7))) nxS)) nxS)))) fuel) (retS (frzF 2))))))
def f__law_class : Fn := defF 8 b__law_class
/-- _law_same: 0 actual, 1 expected, 2 k -/
def f__law_same : Nat → Fn
  | 0 => fun _ => none
  | z + 1 => defF 3 (seqS (ifS (ts1 (isiP "tuple") (varF 1)) (seqS (ifS (orT (notT (ts1 (isiP "tuple") (varF 0))) (ts2 neD (lenF (varF 0)) (lenF (varF 1)))) (retS (cF (.bl false))) nxS) (seqS (forS (nameG 2) (rng1 (lenF (varF 1))) (ifS (notT (truT (immF (callM (f__law_same z) [.e (op2 VD.getD (varF 0) (varF 2)), .e (op2 VD.getD (varF 1) (varF 2))])))) (retS (cF (.bl false))) nxS)) (retS (cF (.bl true))))) nxS) (seqS (ifS (ts1 isND (varF 1)) (retS (valF (ts1 isND (varF 0)))) nxS) (seqS (ifS (ts1 (isiP "bool") (varF 1)) (retS (valF (andT (ts1 (isiP "bool") (varF 0)) (ts2 eqD (varF 0) (varF 1))))) nxS) (seqS (ifS (ts1 (isiP "int") (varF 1)) (retS (valF (andT (ts1 (isiP "int") (varF 0)) (andT (notT (ts1 (isiP "bool") (varF 0))) (ts2 eqD (varF 0) (varF 1)))))) nxS) (retS (valF (andT (ts1 (isiP "str") (varF 0)) (ts2 eqD (varF 0) (varF 1)))))))))
/-- _law_mixed: 0 box, 1 alphabet, 2 word, 3 turn, 4 k -/
def b__law_mixed : FS := (seqS (forS (nameG 3) (rng1 (op2 mulD (cF (.int 2)) (lenF (varF 2)))) (seqS (setS 4 (immF (callM f__law_draw [.s 0, .e (lenF (varF 2))]))) (ifS (andT (ts2 ltD (op2 addD (varF 4) (cF (.int 1))) (lenF (varF 2))) (truT (immF (callM f__law_free [.e (varF 1), .e (op2 VD.getD (varF 2) (varF 4)), .e (op2 VD.getD (varF 2) (op2 addD (varF 4) (cF (.int 1))))])))) (setS 2 (op2 addD (op2 addD (op2 addD (cutF (varF 2) noF (someF (varF 4))) (op2 VD.getD (varF 2) (op2 addD (varF 4) (cF (.int 1))))) (op2 VD.getD (varF 2) (varF 4))) (cutF (varF 2) (someF (op2 addD (varF 4) (cF (.int 2)))) noF))) nxS))) (retS (varF 2)))
def f__law_mixed : Fn := defF 5 b__law_mixed
/-- law: 0 script, 1 box, 2 turn, 3 alphabet, 4 word, 5 due, 6 other -/
def b_law : FS := (seqS (setMS 1 (callM f__law_box [.e (frzF 0), .e (cF (.int 0)), .e (cF (.int 63))])) (seqS (forS (nameG 2) (rng1 (cF (.int 4))) (seqS (setS 3 (immF (callM f__law_alphabet [.s 1, .e (cF (.int 5))]))) (seqS (setS 4 (immF (callM f__law_word [.s 1, .e (varF 3), .e (cF (.int 7))]))) (seqS (setS 5 (frzM (srtFM (immM (immF (callM f__law_class [.e (varF 3), .e (varF 4)])))))) (seqS (ifS (notT (truT (immF (callM (f__law_same 12) [.e (immF (callM (f_words_of 12) [.e (varF 3), .e (varF 4)])), .e (tupFM (immM (varF 5)))])))) (retS (cF (.bl false))) nxS) (seqS (ifS (orT (notT (truT (immF (callM (f__law_same 12) [.e (immF (callM f_least [.e (varF 3), .e (varF 4)])), .e (op2 VD.getD (varF 5) (cF (.int 0)))])))) (notT (truT (immF (callM (f__law_same 12) [.e (immF (callM f_greatest [.e (varF 3), .e (varF 4)])), .e (op2 VD.getD (varF 5) (op2 subD (lenF (varF 5)) (cF (.int 1))))]))))) (retS (cF (.bl false))) nxS) (seqS (setS 6 (immF (callM f__law_mixed [.s 1, .e (varF 3), .e (varF 4)]))) (ifS (notT (truT (immF (callM (f__law_same 12) [.e (immF (callM f_least [.e (varF 3), .e (varF 6)])), .e (op2 VD.getD (varF 5) (cF (.int 0)))])))) (retS (cF (.bl false))) nxS)))))))) (retS (cF (.bl true)))))
def f_law : Fn := defF 7 b_law
end PLk10
end

section
set_option linter.all false
set_option maxRecDepth 10000
namespace LL
open VD PLk10 TH
theorem draw_ok {m : M} (h : IsBox m) {n : Int} (hn : 0 < n) : wpF f__law_draw [m, .imm (.int n)] fun r l => ∃ v, r = .imm (.int v) ∧ 0 ≤ v ∧ v < n ∧ ∃ m', IsBox m' ∧ l = [m', .imm (.int n)] := by
  obtain ⟨ds, k, rfl, hd⟩ := h
  simp only [f__law_draw, b__law_draw, w_var, w_c, w_op2, w_op1, w_ts2, w_ts1, w_and, w_or, w_not, w_tru, w_val, w_if, w_nilA, w_consA, w_tup, w_lst, w_imm, w_frzM, w_immF, w_frz, w_getS, w_lenS, w_len, w_noF, w_someF, w_cut, w_slotM, w_tupFM, w_lenOfM, w_srtFM, w_call, w_arNil, w_arE, w_arS, w_nx, w_seq, w_set, w_setM, w_asg, w_ret, w_retM, w_drop, w_ifS, w_retN, w_bk, w_ct, w_app, w_put, w_aug, w_for, w_it, w_rng1, w_rng2, w_enum, w_zip, wG_name, wG_tup, w_def, yes_some, yes_none, yes_bind, yes_map, yes_ite, slot, List.getElem?_cons_zero, List.getElem?_cons_succ, List.getElem?_nil, Option.getD_some, Option.getD_none, List.set_cons_zero, List.set_cons_succ, List.set_nil, List.map_cons, List.map_nil, List.cons_append, List.nil_append, List.length_cons, List.length_nil, List.replicate, Option.some.injEq, M.imm.injEq, exists_eq_left, exists_eq_left', datM, immD, frzE, isL, putI, retM, backM, putArgs, getM, intO, itemsD, seqItems, lstItems, List.append_nil, Option.map_some, Option.map_none, Option.bind_some, Option.bind_none, Bool.false_eq_true, if_true, if_false, Nat.reduceAdd, Nat.reduceSub, ↓reduceIte, and_true, true_and, reduceCtorEq, decide_eq_true_eq, addD, subD, mulD, divD, modD, pow_18, negD, intD, ltD, leD, gtD, geD, isND, isnotND, VD.getD, lenD, lenM, cutD, truD, atL_0, atL_1, atL_2, atL_3, atL_4, ix2_0, ix2_1, scountD, min2D, max2D, rng1D, rng2D]
  have hb : IsBox (M.lst [D.lst (ds.map .int), D.int (k + 1)]) := ⟨ds, k + 1, rfl, hd⟩
  by_cases hk : k < ds.length
  · have h1 : (k : Int) < ((ds.map D.int).length : Int) := by simp; exact hk
    have h2 : (ds.map D.int)[k]? = some (.int ds[k]) := by simp [hk]
    simp only [h1, decide_true, if_true, atL_nat h2, w_var, w_c, w_op2, w_op1, w_ts2, w_ts1, w_and, w_or, w_not, w_tru, w_val, w_if, w_nilA, w_consA, w_tup, w_lst, w_imm, w_frzM, w_immF, w_frz, w_getS, w_lenS, w_len, w_noF, w_someF, w_cut, w_slotM, w_tupFM, w_lenOfM, w_srtFM, w_call, w_arNil, w_arE, w_arS, w_nx, w_seq, w_set, w_setM, w_asg, w_ret, w_retM, w_drop, w_ifS, w_retN, w_bk, w_ct, w_app, w_put, w_aug, w_for, w_it, w_rng1, w_rng2, w_enum, w_zip, wG_name, wG_tup, w_def, yes_some, yes_none, yes_bind, yes_map, yes_ite, slot, List.getElem?_cons_zero, List.getElem?_cons_succ, List.getElem?_nil, Option.getD_some, Option.getD_none, List.set_cons_zero, List.set_cons_succ, List.set_nil, List.map_cons, List.map_nil, List.cons_append, List.nil_append, List.length_cons, List.length_nil, List.replicate, Option.some.injEq, M.imm.injEq, exists_eq_left, exists_eq_left', datM, immD, frzE, isL, putI, retM, backM, putArgs, getM, intO, itemsD, seqItems, lstItems, List.append_nil, Option.map_some, Option.map_none, Option.bind_some, Option.bind_none, Bool.false_eq_true, if_true, if_false, Nat.reduceAdd, Nat.reduceSub, ↓reduceIte, and_true, true_and, reduceCtorEq, decide_eq_true_eq, addD, subD, mulD, divD, modD, pow_18, negD, intD, ltD, leD, gtD, geD, isND, isnotND, VD.getD, lenD, lenM, cutD, truD, atL_0, atL_1, atL_2, atL_3, atL_4, ix2_0, ix2_1, scountD, min2D, max2D, rng1D, rng2D]
    refine ⟨hn, _, rfl, Int.emod_nonneg _ (by omega), Int.emod_lt_of_pos _ hn, _, hb, rfl⟩
  · have h1 : ¬ (k : Int) < ((ds.map D.int).length : Int) := by simp; omega
    simp only [h1, decide_false, w_var, w_c, w_op2, w_op1, w_ts2, w_ts1, w_and, w_or, w_not, w_tru, w_val, w_if, w_nilA, w_consA, w_tup, w_lst, w_imm, w_frzM, w_immF, w_frz, w_getS, w_lenS, w_len, w_noF, w_someF, w_cut, w_slotM, w_tupFM, w_lenOfM, w_srtFM, w_call, w_arNil, w_arE, w_arS, w_nx, w_seq, w_set, w_setM, w_asg, w_ret, w_retM, w_drop, w_ifS, w_retN, w_bk, w_ct, w_app, w_put, w_aug, w_for, w_it, w_rng1, w_rng2, w_enum, w_zip, wG_name, wG_tup, w_def, yes_some, yes_none, yes_bind, yes_map, yes_ite, slot, List.getElem?_cons_zero, List.getElem?_cons_succ, List.getElem?_nil, Option.getD_some, Option.getD_none, List.set_cons_zero, List.set_cons_succ, List.set_nil, List.map_cons, List.map_nil, List.cons_append, List.nil_append, List.length_cons, List.length_nil, List.replicate, Option.some.injEq, M.imm.injEq, exists_eq_left, exists_eq_left', datM, immD, frzE, isL, putI, retM, backM, putArgs, getM, intO, itemsD, seqItems, lstItems, List.append_nil, Option.map_some, Option.map_none, Option.bind_some, Option.bind_none, Bool.false_eq_true, if_true, if_false, Nat.reduceAdd, Nat.reduceSub, ↓reduceIte, and_true, true_and, reduceCtorEq, decide_eq_true_eq, addD, subD, mulD, divD, modD, pow_18, negD, intD, ltD, leD, gtD, geD, isND, isnotND, VD.getD, lenD, lenM, cutD, truD, atL_0, atL_1, atL_2, atL_3, atL_4, ix2_0, ix2_1, scountD, min2D, max2D, rng1D, rng2D]
    exact ⟨_, rfl, Int.le_refl _, hn, _, hb, rfl⟩
theorem cell_ok (ns : List Int) {k : Int} (hk : 0 ≤ k) : wpF f__law_cell [.imm (.lst (ns.map .int)), .imm (.int k)] fun r l => (∃ v, r = .imm (.int v)) ∧ l = [.imm (.lst (ns.map .int)), .imm (.int k)] := by
  obtain ⟨k, rfl⟩ := Int.eq_ofNat_of_zero_le hk
  simp only [f__law_cell, b__law_cell, w_var, w_c, w_op2, w_op1, w_ts2, w_ts1, w_and, w_or, w_not, w_tru, w_val, w_if, w_nilA, w_consA, w_tup, w_lst, w_imm, w_frzM, w_immF, w_frz, w_getS, w_lenS, w_len, w_noF, w_someF, w_cut, w_slotM, w_tupFM, w_lenOfM, w_srtFM, w_call, w_arNil, w_arE, w_arS, w_nx, w_seq, w_set, w_setM, w_asg, w_ret, w_retM, w_drop, w_ifS, w_retN, w_bk, w_ct, w_app, w_put, w_aug, w_for, w_it, w_rng1, w_rng2, w_enum, w_zip, wG_name, wG_tup, w_def, yes_some, yes_none, yes_bind, yes_map, yes_ite, slot, List.getElem?_cons_zero, List.getElem?_cons_succ, List.getElem?_nil, Option.getD_some, Option.getD_none, List.set_cons_zero, List.set_cons_succ, List.set_nil, List.map_cons, List.map_nil, List.cons_append, List.nil_append, List.length_cons, List.length_nil, List.replicate, Option.some.injEq, M.imm.injEq, exists_eq_left, exists_eq_left', datM, immD, frzE, isL, putI, retM, backM, putArgs, getM, intO, itemsD, seqItems, lstItems, List.append_nil, Option.map_some, Option.map_none, Option.bind_some, Option.bind_none, Bool.false_eq_true, if_true, if_false, Nat.reduceAdd, Nat.reduceSub, ↓reduceIte, and_true, true_and, reduceCtorEq, decide_eq_true_eq, addD, subD, mulD, divD, modD, pow_18, negD, intD, ltD, leD, gtD, geD, isND, isnotND, VD.getD, lenD, lenM, cutD, truD, atL_0, atL_1, atL_2, atL_3, atL_4, ix2_0, ix2_1, scountD, min2D, max2D, rng1D, rng2D]
  by_cases hk : k < ns.length
  · have h1 : (k : Int) < ((ns.map D.int).length : Int) := by simp; exact hk
    have h2 : (ns.map D.int)[k]? = some (.int ns[k]) := by simp [hk]
    simp only [h1, decide_true, if_true, atL_nat h2, w_var, w_c, w_op2, w_op1, w_ts2, w_ts1, w_and, w_or, w_not, w_tru, w_val, w_if, w_nilA, w_consA, w_tup, w_lst, w_imm, w_frzM, w_immF, w_frz, w_getS, w_lenS, w_len, w_noF, w_someF, w_cut, w_slotM, w_tupFM, w_lenOfM, w_srtFM, w_call, w_arNil, w_arE, w_arS, w_nx, w_seq, w_set, w_setM, w_asg, w_ret, w_retM, w_drop, w_ifS, w_retN, w_bk, w_ct, w_app, w_put, w_aug, w_for, w_it, w_rng1, w_rng2, w_enum, w_zip, wG_name, wG_tup, w_def, yes_some, yes_none, yes_bind, yes_map, yes_ite, slot, List.getElem?_cons_zero, List.getElem?_cons_succ, List.getElem?_nil, Option.getD_some, Option.getD_none, List.set_cons_zero, List.set_cons_succ, List.set_nil, List.map_cons, List.map_nil, List.cons_append, List.nil_append, List.length_cons, List.length_nil, List.replicate, Option.some.injEq, M.imm.injEq, exists_eq_left, exists_eq_left', datM, immD, frzE, isL, putI, retM, backM, putArgs, getM, intO, itemsD, seqItems, lstItems, List.append_nil, Option.map_some, Option.map_none, Option.bind_some, Option.bind_none, Bool.false_eq_true, if_true, if_false, Nat.reduceAdd, Nat.reduceSub, ↓reduceIte, and_true, true_and, reduceCtorEq, decide_eq_true_eq, addD, subD, mulD, divD, modD, pow_18, negD, intD, ltD, leD, gtD, geD, isND, isnotND, VD.getD, lenD, lenM, cutD, truD, atL_0, atL_1, atL_2, atL_3, atL_4, ix2_0, ix2_1, scountD, min2D, max2D, rng1D, rng2D]
    exact ⟨_, rfl⟩
  · have h1 : ¬ (k : Int) < ((ns.map D.int).length : Int) := by simp; omega
    simp only [h1, decide_false, w_var, w_c, w_op2, w_op1, w_ts2, w_ts1, w_and, w_or, w_not, w_tru, w_val, w_if, w_nilA, w_consA, w_tup, w_lst, w_imm, w_frzM, w_immF, w_frz, w_getS, w_lenS, w_len, w_noF, w_someF, w_cut, w_slotM, w_tupFM, w_lenOfM, w_srtFM, w_call, w_arNil, w_arE, w_arS, w_nx, w_seq, w_set, w_setM, w_asg, w_ret, w_retM, w_drop, w_ifS, w_retN, w_bk, w_ct, w_app, w_put, w_aug, w_for, w_it, w_rng1, w_rng2, w_enum, w_zip, wG_name, wG_tup, w_def, yes_some, yes_none, yes_bind, yes_map, yes_ite, slot, List.getElem?_cons_zero, List.getElem?_cons_succ, List.getElem?_nil, Option.getD_some, Option.getD_none, List.set_cons_zero, List.set_cons_succ, List.set_nil, List.map_cons, List.map_nil, List.cons_append, List.nil_append, List.length_cons, List.length_nil, List.replicate, Option.some.injEq, M.imm.injEq, exists_eq_left, exists_eq_left', datM, immD, frzE, isL, putI, retM, backM, putArgs, getM, intO, itemsD, seqItems, lstItems, List.append_nil, Option.map_some, Option.map_none, Option.bind_some, Option.bind_none, Bool.false_eq_true, if_true, if_false, Nat.reduceAdd, Nat.reduceSub, ↓reduceIte, and_true, true_and, reduceCtorEq, decide_eq_true_eq, addD, subD, mulD, divD, modD, pow_18, negD, intD, ltD, leD, gtD, geD, isND, isnotND, VD.getD, lenD, lenM, cutD, truD, atL_0, atL_1, atL_2, atL_3, atL_4, ix2_0, ix2_1, scountD, min2D, max2D, rng1D, rng2D]
    exact ⟨_, rfl⟩
theorem digits_ok (ns : List Int) : wpF f__law_digits [.imm (.lst (ns.map .int)), .imm (.int 0), .imm (.int 63)] fun r l => (∃ ds : List Int, r = .imm (.lst (ds.map .int)) ∧ ∀ d ∈ ds, 0 ≤ d) ∧ l = [.imm (.lst (ns.map .int)), .imm (.int 0), .imm (.int 63)] := by
  simp only [f__law_digits, b__law_digits, w_var, w_c, w_op2, w_op1, w_ts2, w_ts1, w_and, w_or, w_not, w_tru, w_val, w_if, w_nilA, w_consA, w_tup, w_lst, w_imm, w_frzM, w_immF, w_frz, w_getS, w_lenS, w_len, w_noF, w_someF, w_cut, w_slotM, w_tupFM, w_lenOfM, w_srtFM, w_call, w_arNil, w_arE, w_arS, w_nx, w_seq, w_set, w_setM, w_asg, w_ret, w_retM, w_drop, w_ifS, w_retN, w_bk, w_ct, w_app, w_put, w_aug, w_for, w_it, w_rng1, w_rng2, w_enum, w_zip, wG_name, wG_tup, w_def, yes_some, yes_none, yes_bind, yes_map, yes_ite, slot, List.getElem?_cons_zero, List.getElem?_cons_succ, List.getElem?_nil, Option.getD_some, Option.getD_none, List.set_cons_zero, List.set_cons_succ, List.set_nil, List.map_cons, List.map_nil, List.cons_append, List.nil_append, List.length_cons, List.length_nil, List.replicate, Option.some.injEq, M.imm.injEq, exists_eq_left, exists_eq_left', datM, immD, frzE, isL, putI, retM, backM, putArgs, getM, intO, itemsD, seqItems, lstItems, List.append_nil, Option.map_some, Option.map_none, Option.bind_some, Option.bind_none, Bool.false_eq_true, if_true, if_false, Nat.reduceAdd, Nat.reduceSub, ↓reduceIte, and_true, true_and, reduceCtorEq, decide_eq_true_eq, addD, subD, mulD, divD, modD, pow_18, negD, intD, ltD, leD, gtD, geD, isND, isnotND, VD.getD, lenD, lenM, cutD, truD, atL_0, atL_1, atL_2, atL_3, atL_4, ix2_0, ix2_1, scountD, min2D, max2D, rng1D, rng2D]
  refine ⟨by decide, by decide, ?_⟩
  refine for_inv (fun i e => ∃ ds : List Int, (∀ d ∈ ds, 0 ≤ d) ∧ ds.length ≤ 60 * i ∧ ∃ o4 o5 o6 o7, e = [some (.imm (.lst (ns.map .int))), some (.imm (.int 0)), some (.imm (.int 63)), some (.lst (ds.map .int)), o4, o5, o6, o7]) ⟨[], by simp, by simp, _, _, _, _, rfl⟩ ?_ ?_
  · rintro i d e hi ⟨ds, hd, hl, o4, o5, o6, o7, rfl⟩
    obtain ⟨hi2, rfl⟩ := upto_get _ _ _ _ hi
    have hi3 : i < 63 := by simpa using hi2
    rw [wG_name]
    refine seq_mid (fun e => ∃ v : Int, e = [some (.imm (.lst (ns.map .int))), some (.imm (.int 0)), some (.imm (.int 63)), some (.lst (ds.map .int)), some (.imm (.int i)), some (.imm (.int v)), o6, o7]) ?_ ?_
    · simp only [w_var, w_c, w_op2, w_op1, w_ts2, w_ts1, w_and, w_or, w_not, w_tru, w_val, w_if, w_nilA, w_consA, w_tup, w_lst, w_imm, w_frzM, w_immF, w_frz, w_getS, w_lenS, w_len, w_noF, w_someF, w_cut, w_slotM, w_tupFM, w_lenOfM, w_srtFM, w_call, w_arNil, w_arE, w_arS, w_nx, w_seq, w_set, w_setM, w_asg, w_ret, w_retM, w_drop, w_ifS, w_retN, w_bk, w_ct, w_app, w_put, w_aug, w_for, w_it, w_rng1, w_rng2, w_enum, w_zip, wG_name, wG_tup, w_def, yes_some, yes_none, yes_bind, yes_map, yes_ite, slot, List.getElem?_cons_zero, List.getElem?_cons_succ, List.getElem?_nil, Option.getD_some, Option.getD_none, List.set_cons_zero, List.set_cons_succ, List.set_nil, List.map_cons, List.map_nil, List.cons_append, List.nil_append, List.length_cons, List.length_nil, List.replicate, Option.some.injEq, M.imm.injEq, exists_eq_left, exists_eq_left', datM, immD, frzE, isL, putI, retM, backM, putArgs, getM, intO, itemsD, seqItems, lstItems, List.append_nil, Option.map_some, Option.map_none, Option.bind_some, Option.bind_none, Bool.false_eq_true, if_true, if_false, Nat.reduceAdd, Nat.reduceSub, ↓reduceIte, and_true, true_and, reduceCtorEq, decide_eq_true_eq, addD, subD, mulD, divD, modD, pow_18, negD, intD, ltD, leD, gtD, geD, isND, isnotND, VD.getD, lenD, lenM, cutD, truD, atL_0, atL_1, atL_2, atL_3, atL_4, ix2_0, ix2_1, scountD, min2D, max2D, rng1D, rng2D]
      refine wpF_mono (cell_ok ns (by omega)) ?_
      rintro r l ⟨⟨v, rfl⟩, rfl⟩
      simp only [w_var, w_c, w_op2, w_op1, w_ts2, w_ts1, w_and, w_or, w_not, w_tru, w_val, w_if, w_nilA, w_consA, w_tup, w_lst, w_imm, w_frzM, w_immF, w_frz, w_getS, w_lenS, w_len, w_noF, w_someF, w_cut, w_slotM, w_tupFM, w_lenOfM, w_srtFM, w_call, w_arNil, w_arE, w_arS, w_nx, w_seq, w_set, w_setM, w_asg, w_ret, w_retM, w_drop, w_ifS, w_retN, w_bk, w_ct, w_app, w_put, w_aug, w_for, w_it, w_rng1, w_rng2, w_enum, w_zip, wG_name, wG_tup, w_def, yes_some, yes_none, yes_bind, yes_map, yes_ite, slot, List.getElem?_cons_zero, List.getElem?_cons_succ, List.getElem?_nil, Option.getD_some, Option.getD_none, List.set_cons_zero, List.set_cons_succ, List.set_nil, List.map_cons, List.map_nil, List.cons_append, List.nil_append, List.length_cons, List.length_nil, List.replicate, Option.some.injEq, M.imm.injEq, exists_eq_left, exists_eq_left', datM, immD, frzE, isL, putI, retM, backM, putArgs, getM, intO, itemsD, seqItems, lstItems, List.append_nil, Option.map_some, Option.map_none, Option.bind_some, Option.bind_none, Bool.false_eq_true, if_true, if_false, Nat.reduceAdd, Nat.reduceSub, ↓reduceIte, and_true, true_and, reduceCtorEq, decide_eq_true_eq, addD, subD, mulD, divD, modD, pow_18, negD, intD, ltD, leD, gtD, geD, isND, isnotND, VD.getD, lenD, lenM, cutD, truD, atL_0, atL_1, atL_2, atL_3, atL_4, ix2_0, ix2_1, scountD, min2D, max2D, rng1D, rng2D]
      exact ⟨v, by simp⟩
    rintro e ⟨v, rfl⟩
    refine seq_mid (fun e => ∃ v : Int, e = [some (.imm (.lst (ns.map .int))), some (.imm (.int 0)), some (.imm (.int 63)), some (.lst (ds.map .int)), some (.imm (.int i)), some (.imm (.int v)), o6, o7]) ?_ ?_
    · simp only [w_var, w_c, w_op2, w_op1, w_ts2, w_ts1, w_and, w_or, w_not, w_tru, w_val, w_if, w_nilA, w_consA, w_tup, w_lst, w_imm, w_frzM, w_immF, w_frz, w_getS, w_lenS, w_len, w_noF, w_someF, w_cut, w_slotM, w_tupFM, w_lenOfM, w_srtFM, w_call, w_arNil, w_arE, w_arS, w_nx, w_seq, w_set, w_setM, w_asg, w_ret, w_retM, w_drop, w_ifS, w_retN, w_bk, w_ct, w_app, w_put, w_aug, w_for, w_it, w_rng1, w_rng2, w_enum, w_zip, wG_name, wG_tup, w_def, yes_some, yes_none, yes_bind, yes_map, yes_ite, slot, List.getElem?_cons_zero, List.getElem?_cons_succ, List.getElem?_nil, Option.getD_some, Option.getD_none, List.set_cons_zero, List.set_cons_succ, List.set_nil, List.map_cons, List.map_nil, List.cons_append, List.nil_append, List.length_cons, List.length_nil, List.replicate, Option.some.injEq, M.imm.injEq, exists_eq_left, exists_eq_left', datM, immD, frzE, isL, putI, retM, backM, putArgs, getM, intO, itemsD, seqItems, lstItems, List.append_nil, Option.map_some, Option.map_none, Option.bind_some, Option.bind_none, Bool.false_eq_true, if_true, if_false, Nat.reduceAdd, Nat.reduceSub, ↓reduceIte, and_true, true_and, reduceCtorEq, decide_eq_true_eq, addD, subD, mulD, divD, modD, pow_18, negD, intD, ltD, leD, gtD, geD, isND, isnotND, VD.getD, lenD, lenM, cutD, truD, atL_0, atL_1, atL_2, atL_3, atL_4, ix2_0, ix2_1, scountD, min2D, max2D, rng1D, rng2D]
      split
      · exact ⟨.inl (by decide), _, rfl⟩
      · exact ⟨_, rfl⟩
    rintro e ⟨v, rfl⟩
    rw [w_ifS]
    simp only [w_ts2, w_var, w_op2, w_c, pow_18, slot, List.getElem?_cons_zero, List.getElem?_cons_succ, List.getElem?_nil, Option.getD_some, Option.getD_none, List.set_cons_zero, List.set_cons_succ, List.set_nil, List.map_cons, List.map_nil, List.cons_append, List.nil_append, List.length_cons, List.length_nil, List.replicate, Option.some.injEq, M.imm.injEq, exists_eq_left, exists_eq_left', datM, immD, frzE, isL, putI, retM, backM, putArgs, getM, intO, itemsD, seqItems, lstItems, List.append_nil, Option.map_some, Option.map_none, Option.bind_some, Option.bind_none, Bool.false_eq_true, if_true, if_false, Nat.reduceAdd, Nat.reduceSub, ↓reduceIte, and_true, true_and, reduceCtorEq, decide_eq_true_eq, addD, subD, mulD, divD, modD, pow_18, negD, intD, ltD, leD, gtD, geD, isND, isnotND, VD.getD, lenD, lenM, cutD, truD, atL_0, atL_1, atL_2, atL_3, atL_4, ix2_0, ix2_1, scountD, min2D, max2D, rng1D, rng2D, yes_some]
    split
    · simp only [w_for, w_rng1, w_c, slot, List.getElem?_cons_zero, List.getElem?_cons_succ, List.getElem?_nil, Option.getD_some, Option.getD_none, List.set_cons_zero, List.set_cons_succ, List.set_nil, List.map_cons, List.map_nil, List.cons_append, List.nil_append, List.length_cons, List.length_nil, List.replicate, Option.some.injEq, M.imm.injEq, exists_eq_left, exists_eq_left', datM, immD, frzE, isL, putI, retM, backM, putArgs, getM, intO, itemsD, seqItems, lstItems, List.append_nil, Option.map_some, Option.map_none, Option.bind_some, Option.bind_none, Bool.false_eq_true, if_true, if_false, Nat.reduceAdd, Nat.reduceSub, ↓reduceIte, and_true, true_and, reduceCtorEq, decide_eq_true_eq, addD, subD, mulD, divD, modD, pow_18, negD, intD, ltD, leD, gtD, geD, isND, isnotND, VD.getD, lenD, lenM, cutD, truD, atL_0, atL_1, atL_2, atL_3, atL_4, ix2_0, ix2_1, scountD, min2D, max2D, rng1D, rng2D, yes_ite]
      refine ⟨by decide, ?_⟩
      refine for_inv (fun j e => ∃ (ds : List Int) (v : Int), (∀ d ∈ ds, 0 ≤ d) ∧ ds.length ≤ 60 * i + j ∧ ∃ o6, e = [some (.imm (.lst (ns.map .int))), some (.imm (.int 0)), some (.imm (.int 63)), some (.lst (ds.map .int)), some (.imm (.int i)), some (.imm (.int v)), o6, o7]) ⟨ds, v, hd, hl, _, rfl⟩ ?_ ?_
      · rintro j d e hj ⟨ds, v, hd, hl, o6, rfl⟩
        have hj2 := (upto_get _ _ _ _ hj).1
        have hj3 : j < 60 := by simpa using hj2
        simp only [w_var, w_c, w_op2, w_op1, w_ts2, w_ts1, w_and, w_or, w_not, w_tru, w_val, w_if, w_nilA, w_consA, w_tup, w_lst, w_imm, w_frzM, w_immF, w_frz, w_getS, w_lenS, w_len, w_noF, w_someF, w_cut, w_slotM, w_tupFM, w_lenOfM, w_srtFM, w_call, w_arNil, w_arE, w_arS, w_nx, w_seq, w_set, w_setM, w_asg, w_ret, w_retM, w_drop, w_ifS, w_retN, w_bk, w_ct, w_app, w_put, w_aug, w_for, w_it, w_rng1, w_rng2, w_enum, w_zip, wG_name, wG_tup, w_def, yes_some, yes_none, yes_bind, yes_map, yes_ite, slot, List.getElem?_cons_zero, List.getElem?_cons_succ, List.getElem?_nil, Option.getD_some, Option.getD_none, List.set_cons_zero, List.set_cons_succ, List.set_nil, List.map_cons, List.map_nil, List.cons_append, List.nil_append, List.length_cons, List.length_nil, List.replicate, Option.some.injEq, M.imm.injEq, exists_eq_left, exists_eq_left', datM, immD, frzE, isL, putI, retM, backM, putArgs, getM, intO, itemsD, seqItems, lstItems, List.append_nil, Option.map_some, Option.map_none, Option.bind_some, Option.bind_none, Bool.false_eq_true, if_true, if_false, Nat.reduceAdd, Nat.reduceSub, ↓reduceIte, and_true, true_and, reduceCtorEq, decide_eq_true_eq, addD, subD, mulD, divD, modD, pow_18, negD, intD, ltD, leD, gtD, geD, isND, isnotND, VD.getD, lenD, lenM, cutD, truD, atL_0, atL_1, atL_2, atL_3, atL_4, ix2_0, ix2_1, scountD, min2D, max2D, rng1D, rng2D]
        split
        · refine ⟨by decide, ?_, by decide, ds ++ [v % 1000], v / 1000, ?_, by simp; omega, _, by simp; rfl⟩
          · simp [big]; omega
          · intro d hd'
            rcases List.mem_append.mp hd' with z | z
            · exact hd d z
            · rw [List.mem_singleton.mp z]; exact Int.emod_nonneg _ (by decide)
        · exact ⟨ds, v, hd, by omega, _, rfl⟩
      · rintro e ⟨ds, v, hd, hl, o6, rfl⟩
        have : (upto 0 (Int.toNat 60)).length = 60 := upto_len _ _
        exact ⟨ds, hd, by omega, _, _, _, _, rfl⟩
    · refine seq_mid (fun e => ∃ v w : Int, e = [some (.imm (.lst (ns.map .int))), some (.imm (.int 0)), some (.imm (.int 63)), some (.lst (ds.map .int)), some (.imm (.int i)), some (.imm (.int v)), o6, some (.imm (.int w))]) ?_ ?_
      · simp only [w_var, w_c, w_op2, w_op1, w_ts2, w_ts1, w_and, w_or, w_not, w_tru, w_val, w_if, w_nilA, w_consA, w_tup, w_lst, w_imm, w_frzM, w_immF, w_frz, w_getS, w_lenS, w_len, w_noF, w_someF, w_cut, w_slotM, w_tupFM, w_lenOfM, w_srtFM, w_call, w_arNil, w_arE, w_arS, w_nx, w_seq, w_set, w_setM, w_asg, w_ret, w_retM, w_drop, w_ifS, w_retN, w_bk, w_ct, w_app, w_put, w_aug, w_for, w_it, w_rng1, w_rng2, w_enum, w_zip, wG_name, wG_tup, w_def, yes_some, yes_none, yes_bind, yes_map, yes_ite, slot, List.getElem?_cons_zero, List.getElem?_cons_succ, List.getElem?_nil, Option.getD_some, Option.getD_none, List.set_cons_zero, List.set_cons_succ, List.set_nil, List.map_cons, List.map_nil, List.cons_append, List.nil_append, List.length_cons, List.length_nil, List.replicate, Option.some.injEq, M.imm.injEq, exists_eq_left, exists_eq_left', datM, immD, frzE, isL, putI, retM, backM, putArgs, getM, intO, itemsD, seqItems, lstItems, List.append_nil, Option.map_some, Option.map_none, Option.bind_some, Option.bind_none, Bool.false_eq_true, if_true, if_false, Nat.reduceAdd, Nat.reduceSub, ↓reduceIte, and_true, true_and, reduceCtorEq, decide_eq_true_eq, addD, subD, mulD, divD, modD, pow_18, negD, intD, ltD, leD, gtD, geD, isND, isnotND, VD.getD, lenD, lenM, cutD, truD, atL_0, atL_1, atL_2, atL_3, atL_4, ix2_0, ix2_1, scountD, min2D, max2D, rng1D, rng2D]
        exact ⟨.inr (by decide), .inr (by decide), by decide, _, _, rfl⟩
      rintro e ⟨v, w, rfl⟩
      simp only [w_for, w_rng1, w_c, slot, List.getElem?_cons_zero, List.getElem?_cons_succ, List.getElem?_nil, Option.getD_some, Option.getD_none, List.set_cons_zero, List.set_cons_succ, List.set_nil, List.map_cons, List.map_nil, List.cons_append, List.nil_append, List.length_cons, List.length_nil, List.replicate, Option.some.injEq, M.imm.injEq, exists_eq_left, exists_eq_left', datM, immD, frzE, isL, putI, retM, backM, putArgs, getM, intO, itemsD, seqItems, lstItems, List.append_nil, Option.map_some, Option.map_none, Option.bind_some, Option.bind_none, Bool.false_eq_true, if_true, if_false, Nat.reduceAdd, Nat.reduceSub, ↓reduceIte, and_true, true_and, reduceCtorEq, decide_eq_true_eq, addD, subD, mulD, divD, modD, pow_18, negD, intD, ltD, leD, gtD, geD, isND, isnotND, VD.getD, lenD, lenM, cutD, truD, atL_0, atL_1, atL_2, atL_3, atL_4, ix2_0, ix2_1, scountD, min2D, max2D, rng1D, rng2D, yes_ite]
      refine ⟨by decide, ?_⟩
      refine for_inv (fun j e => ∃ (ds : List Int) (w : Int), (∀ d ∈ ds, 0 ≤ d) ∧ ds.length ≤ 60 * i + j ∧ ∃ o6, e = [some (.imm (.lst (ns.map .int))), some (.imm (.int 0)), some (.imm (.int 63)), some (.lst (ds.map .int)), some (.imm (.int i)), some (.imm (.int v)), o6, some (.imm (.int w))]) ⟨ds, w, hd, hl, _, rfl⟩ ?_ ?_
      · rintro j d e hj ⟨ds, w, hd, hl, o6, rfl⟩
        obtain ⟨hj2, rfl⟩ := upto_get _ _ _ _ hj
        have hj3 : j < 12 := by simpa using hj2
        simp only [w_var, w_c, w_op2, w_op1, w_ts2, w_ts1, w_and, w_or, w_not, w_tru, w_val, w_if, w_nilA, w_consA, w_tup, w_lst, w_imm, w_frzM, w_immF, w_frz, w_getS, w_lenS, w_len, w_noF, w_someF, w_cut, w_slotM, w_tupFM, w_lenOfM, w_srtFM, w_call, w_arNil, w_arE, w_arS, w_nx, w_seq, w_set, w_setM, w_asg, w_ret, w_retM, w_drop, w_ifS, w_retN, w_bk, w_ct, w_app, w_put, w_aug, w_for, w_it, w_rng1, w_rng2, w_enum, w_zip, wG_name, wG_tup, w_def, yes_some, yes_none, yes_bind, yes_map, yes_ite, slot, List.getElem?_cons_zero, List.getElem?_cons_succ, List.getElem?_nil, Option.getD_some, Option.getD_none, List.set_cons_zero, List.set_cons_succ, List.set_nil, List.map_cons, List.map_nil, List.cons_append, List.nil_append, List.length_cons, List.length_nil, List.replicate, Option.some.injEq, M.imm.injEq, exists_eq_left, exists_eq_left', datM, immD, frzE, isL, putI, retM, backM, putArgs, getM, intO, itemsD, seqItems, lstItems, List.append_nil, Option.map_some, Option.map_none, Option.bind_some, Option.bind_none, Bool.false_eq_true, if_true, if_false, Nat.reduceAdd, Nat.reduceSub, ↓reduceIte, and_true, true_and, reduceCtorEq, decide_eq_true_eq, addD, subD, mulD, divD, modD, pow_18, negD, intD, ltD, leD, gtD, geD, isND, isnotND, VD.getD, lenD, lenM, cutD, truD, atL_0, atL_1, atL_2, atL_3, atL_4, ix2_0, ix2_1, scountD, min2D, max2D, rng1D, rng2D]
        refine ⟨.inr (by decide), .inl (by decide), by decide, by decide, by decide, ?_, ds ++ [_], _, ?_, by simp; omega, _, by simp; exact ⟨rfl, rfl, rfl⟩⟩
        · simp [big]; omega
        · intro d hd'
          rcases List.mem_append.mp hd' with z | z
          · exact hd d z
          · rw [List.mem_singleton.mp z]; exact Int.emod_nonneg _ (by decide)
      · rintro e ⟨ds, w, hd, hl, o6, rfl⟩
        have : (upto 0 (Int.toNat 12)).length = 12 := upto_len _ _
        exact ⟨ds, hd, by omega, _, _, _, _, rfl⟩
  · rintro e ⟨ds, hd, hl, o4, o5, o6, o7, rfl⟩
    simp only [w_var, w_c, w_op2, w_op1, w_ts2, w_ts1, w_and, w_or, w_not, w_tru, w_val, w_if, w_nilA, w_consA, w_tup, w_lst, w_imm, w_frzM, w_immF, w_frz, w_getS, w_lenS, w_len, w_noF, w_someF, w_cut, w_slotM, w_tupFM, w_lenOfM, w_srtFM, w_call, w_arNil, w_arE, w_arS, w_nx, w_seq, w_set, w_setM, w_asg, w_ret, w_retM, w_drop, w_ifS, w_retN, w_bk, w_ct, w_app, w_put, w_aug, w_for, w_it, w_rng1, w_rng2, w_enum, w_zip, wG_name, wG_tup, w_def, yes_some, yes_none, yes_bind, yes_map, yes_ite, slot, List.getElem?_cons_zero, List.getElem?_cons_succ, List.getElem?_nil, Option.getD_some, Option.getD_none, List.set_cons_zero, List.set_cons_succ, List.set_nil, List.map_cons, List.map_nil, List.cons_append, List.nil_append, List.length_cons, List.length_nil, List.replicate, Option.some.injEq, M.imm.injEq, exists_eq_left, exists_eq_left', datM, immD, frzE, isL, putI, retM, backM, putArgs, getM, intO, itemsD, seqItems, lstItems, List.append_nil, Option.map_some, Option.map_none, Option.bind_some, Option.bind_none, Bool.false_eq_true, if_true, if_false, Nat.reduceAdd, Nat.reduceSub, ↓reduceIte, and_true, true_and, reduceCtorEq, decide_eq_true_eq, addD, subD, mulD, divD, modD, pow_18, negD, intD, ltD, leD, gtD, geD, isND, isnotND, VD.getD, lenD, lenM, cutD, truD, atL_0, atL_1, atL_2, atL_3, atL_4, ix2_0, ix2_1, scountD, min2D, max2D, rng1D, rng2D]
    exact ⟨ds, rfl, hd⟩
theorem box_ok (ns : List Int) : wpF f__law_box [.imm (.lst (ns.map .int)), .imm (.int 0), .imm (.int 63)] fun r l => IsBox r ∧ l = [.imm (.lst (ns.map .int)), .imm (.int 0), .imm (.int 63)] := by
  simp only [f__law_box, b__law_box, w_var, w_c, w_op2, w_op1, w_ts2, w_ts1, w_and, w_or, w_not, w_tru, w_val, w_if, w_nilA, w_consA, w_tup, w_lst, w_imm, w_frzM, w_immF, w_frz, w_getS, w_lenS, w_len, w_noF, w_someF, w_cut, w_slotM, w_tupFM, w_lenOfM, w_srtFM, w_call, w_arNil, w_arE, w_arS, w_nx, w_seq, w_set, w_setM, w_asg, w_ret, w_retM, w_drop, w_ifS, w_retN, w_bk, w_ct, w_app, w_put, w_aug, w_for, w_it, w_rng1, w_rng2, w_enum, w_zip, wG_name, wG_tup, w_def, yes_some, yes_none, yes_bind, yes_map, yes_ite, slot, List.getElem?_cons_zero, List.getElem?_cons_succ, List.getElem?_nil, Option.getD_some, Option.getD_none, List.set_cons_zero, List.set_cons_succ, List.set_nil, List.map_cons, List.map_nil, List.cons_append, List.nil_append, List.length_cons, List.length_nil, List.replicate, Option.some.injEq, M.imm.injEq, exists_eq_left, exists_eq_left', datM, immD, frzE, isL, putI, retM, backM, putArgs, getM, intO, itemsD, seqItems, lstItems, List.append_nil, Option.map_some, Option.map_none, Option.bind_some, Option.bind_none, Bool.false_eq_true, if_true, if_false, Nat.reduceAdd, Nat.reduceSub, ↓reduceIte, and_true, true_and, reduceCtorEq, decide_eq_true_eq, addD, subD, mulD, divD, modD, pow_18, negD, intD, ltD, leD, gtD, geD, isND, isnotND, VD.getD, lenD, lenM, cutD, truD, atL_0, atL_1, atL_2, atL_3, atL_4, ix2_0, ix2_1, scountD, min2D, max2D, rng1D, rng2D]
  refine wpF_mono (digits_ok ns) ?_
  rintro r l ⟨⟨ds, rfl, hd⟩, rfl⟩
  simp only [w_var, w_c, w_op2, w_op1, w_ts2, w_ts1, w_and, w_or, w_not, w_tru, w_val, w_if, w_nilA, w_consA, w_tup, w_lst, w_imm, w_frzM, w_immF, w_frz, w_getS, w_lenS, w_len, w_noF, w_someF, w_cut, w_slotM, w_tupFM, w_lenOfM, w_srtFM, w_call, w_arNil, w_arE, w_arS, w_nx, w_seq, w_set, w_setM, w_asg, w_ret, w_retM, w_drop, w_ifS, w_retN, w_bk, w_ct, w_app, w_put, w_aug, w_for, w_it, w_rng1, w_rng2, w_enum, w_zip, wG_name, wG_tup, w_def, yes_some, yes_none, yes_bind, yes_map, yes_ite, slot, List.getElem?_cons_zero, List.getElem?_cons_succ, List.getElem?_nil, Option.getD_some, Option.getD_none, List.set_cons_zero, List.set_cons_succ, List.set_nil, List.map_cons, List.map_nil, List.cons_append, List.nil_append, List.length_cons, List.length_nil, List.replicate, Option.some.injEq, M.imm.injEq, exists_eq_left, exists_eq_left', datM, immD, frzE, isL, putI, retM, backM, putArgs, getM, intO, itemsD, seqItems, lstItems, List.append_nil, Option.map_some, Option.map_none, Option.bind_some, Option.bind_none, Bool.false_eq_true, if_true, if_false, Nat.reduceAdd, Nat.reduceSub, ↓reduceIte, and_true, true_and, reduceCtorEq, decide_eq_true_eq, addD, subD, mulD, divD, modD, pow_18, negD, intD, ltD, leD, gtD, geD, isND, isnotND, VD.getD, lenD, lenM, cutD, truD, atL_0, atL_1, atL_2, atL_3, atL_4, ix2_0, ix2_1, scountD, min2D, max2D, rng1D, rng2D]
  exact ⟨by decide, ds, 0, rfl, hd⟩
theorem alphabet_ok {m : M} (h : IsBox m) {n : Int} (hn : 0 < n) (hn2 : n ≤ 6) : wpF f__law_alphabet [m, .imm (.int n)] fun r l => ∃ L ps, AlOk L ps ∧ r = .imm (Al L ps) ∧ ∃ m', IsBox m' ∧ l = [m', .imm (.int n)] := by
  have h0 := h
  obtain ⟨ds0, k0, rfl, hd0⟩ := h
  simp only [f__law_alphabet, b__law_alphabet, w_def]
  refine seq_mid (fun e => ∃ (L : List Nat) (m' : M), L.Pairwise (· < ·) ∧ L ≠ [] ∧ L.length ≤ 6 ∧ IsBox m' ∧ e = [some m', some (.imm (.int n)), some (.imm (.str L)), none, none, none]) ?_ ?_
  · simp only [w_var, w_c, w_op2, w_op1, w_ts2, w_ts1, w_and, w_or, w_not, w_tru, w_val, w_if, w_nilA, w_consA, w_tup, w_lst, w_imm, w_frzM, w_immF, w_frz, w_getS, w_lenS, w_len, w_noF, w_someF, w_cut, w_slotM, w_tupFM, w_lenOfM, w_srtFM, w_call, w_arNil, w_arE, w_arS, w_nx, w_seq, w_set, w_setM, w_asg, w_ret, w_retM, w_drop, w_ifS, w_retN, w_bk, w_ct, w_app, w_put, w_aug, w_for, w_it, w_rng1, w_rng2, w_enum, w_zip, wG_name, wG_tup, w_def, yes_some, yes_none, yes_bind, yes_map, yes_ite, slot, List.getElem?_cons_zero, List.getElem?_cons_succ, List.getElem?_nil, Option.getD_some, Option.getD_none, List.set_cons_zero, List.set_cons_succ, List.set_nil, List.map_cons, List.map_nil, List.cons_append, List.nil_append, List.length_cons, List.length_nil, List.replicate, Option.some.injEq, M.imm.injEq, exists_eq_left, exists_eq_left', datM, immD, frzE, isL, putI, retM, backM, putArgs, getM, intO, itemsD, seqItems, lstItems, List.append_nil, Option.map_some, Option.map_none, Option.bind_some, Option.bind_none, Bool.false_eq_true, if_true, if_false, Nat.reduceAdd, Nat.reduceSub, ↓reduceIte, and_true, true_and, reduceCtorEq, decide_eq_true_eq, addD, subD, mulD, divD, modD, pow_18, negD, intD, ltD, leD, gtD, geD, isND, isnotND, VD.getD, lenD, lenM, cutD, truD, atL_0, atL_1, atL_2, atL_3, atL_4, ix2_0, ix2_1, scountD, min2D, max2D, rng1D, rng2D]
    refine wpF_mono (draw_ok h0 hn) ?_
    rintro r l ⟨v, rfl, h1, h2, m', hm, rfl⟩
    simp only [w_var, w_c, w_op2, w_op1, w_ts2, w_ts1, w_and, w_or, w_not, w_tru, w_val, w_if, w_nilA, w_consA, w_tup, w_lst, w_imm, w_frzM, w_immF, w_frz, w_getS, w_lenS, w_len, w_noF, w_someF, w_cut, w_slotM, w_tupFM, w_lenOfM, w_srtFM, w_call, w_arNil, w_arE, w_arS, w_nx, w_seq, w_set, w_setM, w_asg, w_ret, w_retM, w_drop, w_ifS, w_retN, w_bk, w_ct, w_app, w_put, w_aug, w_for, w_it, w_rng1, w_rng2, w_enum, w_zip, wG_name, wG_tup, w_def, yes_some, yes_none, yes_bind, yes_map, yes_ite, slot, List.getElem?_cons_zero, List.getElem?_cons_succ, List.getElem?_nil, Option.getD_some, Option.getD_none, List.set_cons_zero, List.set_cons_succ, List.set_nil, List.map_cons, List.map_nil, List.cons_append, List.nil_append, List.length_cons, List.length_nil, List.replicate, Option.some.injEq, M.imm.injEq, exists_eq_left, exists_eq_left', datM, immD, frzE, isL, putI, retM, backM, putArgs, getM, intO, itemsD, seqItems, lstItems, List.append_nil, Option.map_some, Option.map_none, Option.bind_some, Option.bind_none, Bool.false_eq_true, if_true, if_false, Nat.reduceAdd, Nat.reduceSub, ↓reduceIte, and_true, true_and, reduceCtorEq, decide_eq_true_eq, addD, subD, mulD, divD, modD, pow_18, negD, intD, ltD, leD, gtD, geD, isND, isnotND, VD.getD, lenD, lenM, cutD, truD, atL_0, atL_1, atL_2, atL_3, atL_4, ix2_0, ix2_1, scountD, min2D, max2D, rng1D, rng2D]
    refine ⟨by decide, _, m', ?_, ?_, ?_, hm, rfl⟩
    all_goals
      obtain ⟨v, rfl⟩ := Int.eq_ofNat_of_zero_le h1
      have : v < 6 := by omega
      rcases v with _ | _ | _ | _ | _ | _ | v
      all_goals first | decide | omega
  rintro e ⟨L, m1, hs, hne, hl, hm, rfl⟩
  refine seq_mid (fun e => e = [some m1, some (.imm (.int n)), some (.imm (.str L)), some (.lst []), none, none]) ?_ ?_
  · simp only [w_var, w_c, w_op2, w_op1, w_ts2, w_ts1, w_and, w_or, w_not, w_tru, w_val, w_if, w_nilA, w_consA, w_tup, w_lst, w_imm, w_frzM, w_immF, w_frz, w_getS, w_lenS, w_len, w_noF, w_someF, w_cut, w_slotM, w_tupFM, w_lenOfM, w_srtFM, w_call, w_arNil, w_arE, w_arS, w_nx, w_seq, w_set, w_setM, w_asg, w_ret, w_retM, w_drop, w_ifS, w_retN, w_bk, w_ct, w_app, w_put, w_aug, w_for, w_it, w_rng1, w_rng2, w_enum, w_zip, wG_name, wG_tup, w_def, yes_some, yes_none, yes_bind, yes_map, yes_ite, slot, List.getElem?_cons_zero, List.getElem?_cons_succ, List.getElem?_nil, Option.getD_some, Option.getD_none, List.set_cons_zero, List.set_cons_succ, List.set_nil, List.map_cons, List.map_nil, List.cons_append, List.nil_append, List.length_cons, List.length_nil, List.replicate, Option.some.injEq, M.imm.injEq, exists_eq_left, exists_eq_left', datM, immD, frzE, isL, putI, retM, backM, putArgs, getM, intO, itemsD, seqItems, lstItems, List.append_nil, Option.map_some, Option.map_none, Option.bind_some, Option.bind_none, Bool.false_eq_true, if_true, if_false, Nat.reduceAdd, Nat.reduceSub, ↓reduceIte, and_true, true_and, reduceCtorEq, decide_eq_true_eq, addD, subD, mulD, divD, modD, pow_18, negD, intD, ltD, leD, gtD, geD, isND, isnotND, VD.getD, lenD, lenM, cutD, truD, atL_0, atL_1, atL_2, atL_3, atL_4, ix2_0, ix2_1, scountD, min2D, max2D, rng1D, rng2D]
    exact Nat.zero_le _
  rintro e rfl
  have lb : L.length ≤ big := by unfold big; omega
  refine seq_mid (fun e => ∃ (m' : M) (ps : List (List Nat)) (o4 o5 : Option M), IsBox m' ∧ ps.length ≤ big ∧ (∀ p ∈ ps, ∃ x y, p = [x, y] ∧ x < y) ∧ e = [some m', some (.imm (.int n)), some (.imm (.str L)), some (.lst (ps.map .str)), o4, o5]) ?_ ?_
  · simp only [w_for, w_rng1, w_len, w_var, slot, List.getElem?_cons_zero, List.getElem?_cons_succ, List.getElem?_nil, Option.getD_some, Option.getD_none, List.set_cons_zero, List.set_cons_succ, List.set_nil, List.map_cons, List.map_nil, List.cons_append, List.nil_append, List.length_cons, List.length_nil, List.replicate, Option.some.injEq, M.imm.injEq, exists_eq_left, exists_eq_left', datM, immD, frzE, isL, putI, retM, backM, putArgs, getM, intO, itemsD, seqItems, lstItems, List.append_nil, Option.map_some, Option.map_none, Option.bind_some, Option.bind_none, Bool.false_eq_true, if_true, if_false, Nat.reduceAdd, Nat.reduceSub, ↓reduceIte, and_true, true_and, reduceCtorEq, decide_eq_true_eq, addD, subD, mulD, divD, modD, pow_18, negD, intD, ltD, leD, gtD, geD, isND, isnotND, VD.getD, lenD, lenM, cutD, truD, atL_0, atL_1, atL_2, atL_3, atL_4, ix2_0, ix2_1, scountD, min2D, max2D, rng1D, rng2D, yes_some, yes_ite]
    refine ⟨lb, by unfold two62; omega, ?_⟩
    refine for_inv (fun i e => ∃ (m' : M) (ps : List (List Nat)) (o4 o5 : Option M), IsBox m' ∧ ps.length ≤ 6 * i ∧ (∀ p ∈ ps, ∃ x y, p = [x, y] ∧ x < y) ∧ e = [some m', some (.imm (.int n)), some (.imm (.str L)), some (.lst (ps.map .str)), o4, o5]) ⟨m1, [], _, _, hm, Nat.zero_le _, by simp, rfl⟩ ?_ ?_
    · rintro i d e hi ⟨m2, ps, o4, o5, hm2, hp1, hp2, rfl⟩
      obtain ⟨hi2, rfl⟩ := upto_get _ _ _ _ hi
      have hi3 : i < L.length := by simpa using hi2
      rw [wG_name]
      simp only [w_for, w_rng2, w_len, w_var, w_op2, w_c, slot, List.getElem?_cons_zero, List.getElem?_cons_succ, List.getElem?_nil, Option.getD_some, Option.getD_none, List.set_cons_zero, List.set_cons_succ, List.set_nil, List.map_cons, List.map_nil, List.cons_append, List.nil_append, List.length_cons, List.length_nil, List.replicate, Option.some.injEq, M.imm.injEq, exists_eq_left, exists_eq_left', datM, immD, frzE, isL, putI, retM, backM, putArgs, getM, intO, itemsD, seqItems, lstItems, List.append_nil, Option.map_some, Option.map_none, Option.bind_some, Option.bind_none, Bool.false_eq_true, if_true, if_false, Nat.reduceAdd, Nat.reduceSub, ↓reduceIte, and_true, true_and, reduceCtorEq, decide_eq_true_eq, addD, subD, mulD, divD, modD, pow_18, negD, intD, ltD, leD, gtD, geD, isND, isnotND, VD.getD, lenD, lenM, cutD, truD, atL_0, atL_1, atL_2, atL_3, atL_4, ix2_0, ix2_1, scountD, min2D, max2D, rng1D, rng2D, yes_some, yes_ite]
      refine ⟨lb, by unfold two62; omega, ?_⟩
      refine for_inv (fun j e => ∃ (m' : M) (ps : List (List Nat)) (o5 : Option M), IsBox m' ∧ ps.length ≤ 6 * i + j ∧ (∀ p ∈ ps, ∃ x y, p = [x, y] ∧ x < y) ∧ e = [some m', some (.imm (.int n)), some (.imm (.str L)), some (.lst (ps.map .str)), some (.imm (.int i)), o5]) ⟨m2, ps, o5, hm2, hp1, hp2, by simp⟩ ?_ ?_
      · rintro j d e hj ⟨m3, ps, o5, hm3, hp1, hp2, rfl⟩
        obtain ⟨hj2, rfl⟩ := upto_get _ _ _ _ hj
        have hj3 : i + 1 + j < L.length := by omega
        simp only [w_var, w_c, w_op2, w_op1, w_ts2, w_ts1, w_and, w_or, w_not, w_tru, w_val, w_if, w_nilA, w_consA, w_tup, w_lst, w_imm, w_frzM, w_immF, w_frz, w_getS, w_lenS, w_len, w_noF, w_someF, w_cut, w_slotM, w_tupFM, w_lenOfM, w_srtFM, w_call, w_arNil, w_arE, w_arS, w_nx, w_seq, w_set, w_setM, w_asg, w_ret, w_retM, w_drop, w_ifS, w_retN, w_bk, w_ct, w_app, w_put, w_aug, w_for, w_it, w_rng1, w_rng2, w_enum, w_zip, wG_name, wG_tup, w_def, yes_some, yes_none, yes_bind, yes_map, yes_ite, slot, List.getElem?_cons_zero, List.getElem?_cons_succ, List.getElem?_nil, Option.getD_some, Option.getD_none, List.set_cons_zero, List.set_cons_succ, List.set_nil, List.map_cons, List.map_nil, List.cons_append, List.nil_append, List.length_cons, List.length_nil, List.replicate, Option.some.injEq, M.imm.injEq, exists_eq_left, exists_eq_left', datM, immD, frzE, isL, putI, retM, backM, putArgs, getM, intO, itemsD, seqItems, lstItems, List.append_nil, Option.map_some, Option.map_none, Option.bind_some, Option.bind_none, Bool.false_eq_true, if_true, if_false, Nat.reduceAdd, Nat.reduceSub, ↓reduceIte, and_true, true_and, reduceCtorEq, decide_eq_true_eq, addD, subD, mulD, divD, modD, pow_18, negD, intD, ltD, leD, gtD, geD, isND, isnotND, VD.getD, lenD, lenM, cutD, truD, atL_0, atL_1, atL_2, atL_3, atL_4, ix2_0, ix2_1, scountD, min2D, max2D, rng1D, rng2D]
        refine wpF_mono (draw_ok hm3 (by decide)) ?_
        rintro r l ⟨v, rfl, h1, h2, m4, hm4, rfl⟩
        simp only [w_var, w_c, w_op2, w_op1, w_ts2, w_ts1, w_and, w_or, w_not, w_tru, w_val, w_if, w_nilA, w_consA, w_tup, w_lst, w_imm, w_frzM, w_immF, w_frz, w_getS, w_lenS, w_len, w_noF, w_someF, w_cut, w_slotM, w_tupFM, w_lenOfM, w_srtFM, w_call, w_arNil, w_arE, w_arS, w_nx, w_seq, w_set, w_setM, w_asg, w_ret, w_retM, w_drop, w_ifS, w_retN, w_bk, w_ct, w_app, w_put, w_aug, w_for, w_it, w_rng1, w_rng2, w_enum, w_zip, wG_name, wG_tup, w_def, yes_some, yes_none, yes_bind, yes_map, yes_ite, slot, List.getElem?_cons_zero, List.getElem?_cons_succ, List.getElem?_nil, Option.getD_some, Option.getD_none, List.set_cons_zero, List.set_cons_succ, List.set_nil, List.map_cons, List.map_nil, List.cons_append, List.nil_append, List.length_cons, List.length_nil, List.replicate, Option.some.injEq, M.imm.injEq, exists_eq_left, exists_eq_left', datM, immD, frzE, isL, putI, retM, backM, putArgs, getM, intO, itemsD, seqItems, lstItems, List.append_nil, Option.map_some, Option.map_none, Option.bind_some, Option.bind_none, Bool.false_eq_true, if_true, if_false, Nat.reduceAdd, Nat.reduceSub, ↓reduceIte, and_true, true_and, reduceCtorEq, decide_eq_true_eq, addD, subD, mulD, divD, modD, pow_18, negD, intD, ltD, leD, gtD, geD, isND, isnotND, VD.getD, lenD, lenM, cutD, truD, atL_0, atL_1, atL_2, atL_3, atL_4, ix2_0, ix2_1, scountD, min2D, max2D, rng1D, rng2D]
        have e1 : L[i]? = some L[i] := List.getElem?_eq_getElem hi3
        have e2 : L[i + 1 + j]? = some L[i + 1 + j] := List.getElem?_eq_getElem hj3
        have c1 : (0 : Int) + (i : Int) + 1 + (j : Int) = ((i + 1 + j : Nat) : Int) := by push_cast; omega
        split
        · simp only [c1, atL_nat e1, atL_nat e2, w_var, w_c, w_op2, w_op1, w_ts2, w_ts1, w_and, w_or, w_not, w_tru, w_val, w_if, w_nilA, w_consA, w_tup, w_lst, w_imm, w_frzM, w_immF, w_frz, w_getS, w_lenS, w_len, w_noF, w_someF, w_cut, w_slotM, w_tupFM, w_lenOfM, w_srtFM, w_call, w_arNil, w_arE, w_arS, w_nx, w_seq, w_set, w_setM, w_asg, w_ret, w_retM, w_drop, w_ifS, w_retN, w_bk, w_ct, w_app, w_put, w_aug, w_for, w_it, w_rng1, w_rng2, w_enum, w_zip, wG_name, wG_tup, w_def, yes_some, yes_none, yes_bind, yes_map, yes_ite, slot, List.getElem?_cons_zero, List.getElem?_cons_succ, List.getElem?_nil, Option.getD_some, Option.getD_none, List.set_cons_zero, List.set_cons_succ, List.set_nil, List.map_cons, List.map_nil, List.cons_append, List.nil_append, List.length_cons, List.length_nil, List.replicate, Option.some.injEq, M.imm.injEq, exists_eq_left, exists_eq_left', datM, immD, frzE, isL, putI, retM, backM, putArgs, getM, intO, itemsD, seqItems, lstItems, List.append_nil, Option.map_some, Option.map_none, Option.bind_some, Option.bind_none, Bool.false_eq_true, if_true, if_false, Nat.reduceAdd, Nat.reduceSub, ↓reduceIte, and_true, true_and, reduceCtorEq, decide_eq_true_eq, addD, subD, mulD, divD, modD, pow_18, negD, intD, ltD, leD, gtD, geD, isND, isnotND, VD.getD, lenD, lenM, cutD, truD, atL_0, atL_1, atL_2, atL_3, atL_4, ix2_0, ix2_1, scountD, min2D, max2D, rng1D, rng2D]
          refine ⟨by decide, ?_, m4, ps ++ [[L[i], L[i + 1 + j]]], _, hm4, by simp; omega, ?_, by simp; rfl⟩
          · simp [big]; omega
          · intro p hp
            rcases List.mem_append.mp hp with z | z
            · exact hp2 p z
            · rw [List.mem_singleton.mp z]
              exact ⟨_, _, rfl, List.pairwise_iff_getElem.mp hs i (i + 1 + j) hi3 hj3 (by omega)⟩
        · exact ⟨m4, ps, _, hm4, by omega, hp2, rfl⟩
      · rintro e ⟨m3, ps, o5, hm3, hp1, hp2, rfl⟩
        have := upto_len ((L.length : Int) - (0 + (i : Int) + 1)).toNat (0 + (i : Int) + 1)
        exact ⟨m3, ps, _, _, hm3, by omega, hp2, rfl⟩
    · rintro e ⟨m2, ps, o4, o5, hm2, hp1, hp2, rfl⟩
      have := upto_len ((L.length : Int)).toNat 0
      exact ⟨rfl, m2, ps, _, _, hm2, by unfold big; omega, hp2, rfl⟩
  rintro e ⟨m2, ps, o4, o5, hm2, hp1, hp2, rfl⟩
  obtain ⟨qs, q1, q2⟩ := sortL_strs hp1
  simp only [w_var, w_c, w_op2, w_op1, w_ts2, w_ts1, w_and, w_or, w_not, w_tru, w_val, w_if, w_nilA, w_consA, w_tup, w_lst, w_imm, w_frzM, w_immF, w_frz, w_getS, w_lenS, w_len, w_noF, w_someF, w_cut, w_slotM, w_tupFM, w_lenOfM, w_srtFM, w_call, w_arNil, w_arE, w_arS, w_nx, w_seq, w_set, w_setM, w_asg, w_ret, w_retM, w_drop, w_ifS, w_retN, w_bk, w_ct, w_app, w_put, w_aug, w_for, w_it, w_rng1, w_rng2, w_enum, w_zip, wG_name, wG_tup, w_def, yes_some, yes_none, yes_bind, yes_map, yes_ite, slot, List.getElem?_cons_zero, List.getElem?_cons_succ, List.getElem?_nil, Option.getD_some, Option.getD_none, List.set_cons_zero, List.set_cons_succ, List.set_nil, List.map_cons, List.map_nil, List.cons_append, List.nil_append, List.length_cons, List.length_nil, List.replicate, Option.some.injEq, M.imm.injEq, exists_eq_left, exists_eq_left', datM, immD, frzE, isL, putI, retM, backM, putArgs, getM, intO, itemsD, seqItems, lstItems, List.append_nil, Option.map_some, Option.map_none, Option.bind_some, Option.bind_none, Bool.false_eq_true, if_true, if_false, Nat.reduceAdd, Nat.reduceSub, ↓reduceIte, and_true, true_and, reduceCtorEq, decide_eq_true_eq, addD, subD, mulD, divD, modD, pow_18, negD, intD, ltD, leD, gtD, geD, isND, isnotND, VD.getD, lenD, lenM, cutD, truD, atL_0, atL_1, atL_2, atL_3, atL_4, ix2_0, ix2_1, scountD, min2D, max2D, rng1D, rng2D, q1]
  refine ⟨by decide, L, qs, ⟨hs, hne, hl, fun p hp => hp2 p (q2.mem_iff.mp hp)⟩, rfl, m2, hm2, rfl⟩
theorem word_ok {m : M} (h : IsBox m) {L ps} (ha : AlOk L ps) {n : Int} (hn : 0 ≤ n) (hn2 : n ≤ 100) : wpF f__law_word [m, .imm (Al L ps), .imm (.int n)] fun r l => ∃ w, Wd L w ∧ (w.length : Int) ≤ n ∧ r = .imm (.str w) ∧ ∃ m', IsBox m' ∧ l = [m', .imm (Al L ps), .imm (.int n)] := by
  have h0 := h
  obtain ⟨ds0, k0, rfl, hd0⟩ := h
  have hL : 0 < L.length := List.length_pos_iff.mpr ha.ne
  have lb : L.length ≤ big := by have := ha.len; unfold big; omega
  simp only [f__law_word, b__law_word, w_def]
  refine seq_mid (fun e => e = [some (.lst [.lst (ds0.map .int), .int k0]), some (.imm (Al L ps)), some (.imm (.int n)), some (.imm (.str [])), none]) ?_ ?_
  · simp only [w_var, w_c, w_op2, w_op1, w_ts2, w_ts1, w_and, w_or, w_not, w_tru, w_val, w_if, w_nilA, w_consA, w_tup, w_lst, w_imm, w_frzM, w_immF, w_frz, w_getS, w_lenS, w_len, w_noF, w_someF, w_cut, w_slotM, w_tupFM, w_lenOfM, w_srtFM, w_call, w_arNil, w_arE, w_arS, w_nx, w_seq, w_set, w_setM, w_asg, w_ret, w_retM, w_drop, w_ifS, w_retN, w_bk, w_ct, w_app, w_put, w_aug, w_for, w_it, w_rng1, w_rng2, w_enum, w_zip, wG_name, wG_tup, w_def, yes_some, yes_none, yes_bind, yes_map, yes_ite, slot, List.getElem?_cons_zero, List.getElem?_cons_succ, List.getElem?_nil, Option.getD_some, Option.getD_none, List.set_cons_zero, List.set_cons_succ, List.set_nil, List.map_cons, List.map_nil, List.cons_append, List.nil_append, List.length_cons, List.length_nil, List.replicate, Option.some.injEq, M.imm.injEq, exists_eq_left, exists_eq_left', datM, immD, frzE, isL, putI, retM, backM, putArgs, getM, intO, itemsD, seqItems, lstItems, List.append_nil, Option.map_some, Option.map_none, Option.bind_some, Option.bind_none, Bool.false_eq_true, if_true, if_false, Nat.reduceAdd, Nat.reduceSub, ↓reduceIte, and_true, true_and, reduceCtorEq, decide_eq_true_eq, addD, subD, mulD, divD, modD, pow_18, negD, intD, ltD, leD, gtD, geD, isND, isnotND, VD.getD, lenD, lenM, cutD, truD, atL_0, atL_1, atL_2, atL_3, atL_4, ix2_0, ix2_1, scountD, min2D, max2D, rng1D, rng2D]
  rintro e rfl
  refine seq_mid (fun e => ∃ (m' : M) (w : List Nat) (o4 : Option M), IsBox m' ∧ Wd L w ∧ (w.length : Int) ≤ n ∧ e = [some m', some (.imm (Al L ps)), some (.imm (.int n)), some (.imm (.str w)), o4]) ?_ ?_
  · simp only [w_var, w_c, w_op2, w_op1, w_ts2, w_ts1, w_and, w_or, w_not, w_tru, w_val, w_if, w_nilA, w_consA, w_tup, w_lst, w_imm, w_frzM, w_immF, w_frz, w_getS, w_lenS, w_len, w_noF, w_someF, w_cut, w_slotM, w_tupFM, w_lenOfM, w_srtFM, w_call, w_arNil, w_arE, w_arS, w_nx, w_seq, w_set, w_setM, w_asg, w_ret, w_retM, w_drop, w_ifS, w_retN, w_bk, w_ct, w_app, w_put, w_aug, w_for, w_it, w_rng1, w_rng2, w_enum, w_zip, wG_name, wG_tup, w_def, yes_some, yes_none, yes_bind, yes_map, yes_ite, slot, List.getElem?_cons_zero, List.getElem?_cons_succ, List.getElem?_nil, Option.getD_some, Option.getD_none, List.set_cons_zero, List.set_cons_succ, List.set_nil, List.map_cons, List.map_nil, List.cons_append, List.nil_append, List.length_cons, List.length_nil, List.replicate, Option.some.injEq, M.imm.injEq, exists_eq_left, exists_eq_left', datM, immD, frzE, isL, putI, retM, backM, putArgs, getM, intO, itemsD, seqItems, lstItems, List.append_nil, Option.map_some, Option.map_none, Option.bind_some, Option.bind_none, Bool.false_eq_true, if_true, if_false, Nat.reduceAdd, Nat.reduceSub, ↓reduceIte, and_true, true_and, reduceCtorEq, decide_eq_true_eq, addD, subD, mulD, divD, modD, pow_18, negD, intD, ltD, leD, gtD, geD, isND, isnotND, VD.getD, lenD, lenM, cutD, truD, atL_0, atL_1, atL_2, atL_3, atL_4, ix2_0, ix2_1, scountD, min2D, max2D, rng1D, rng2D]
    refine wpF_mono (draw_ok h0 (by omega)) ?_
    rintro r l ⟨v, rfl, h1, h2, m1, hm1, rfl⟩
    simp only [w_var, w_c, w_op2, w_op1, w_ts2, w_ts1, w_and, w_or, w_not, w_tru, w_val, w_if, w_nilA, w_consA, w_tup, w_lst, w_imm, w_frzM, w_immF, w_frz, w_getS, w_lenS, w_len, w_noF, w_someF, w_cut, w_slotM, w_tupFM, w_lenOfM, w_srtFM, w_call, w_arNil, w_arE, w_arS, w_nx, w_seq, w_set, w_setM, w_asg, w_ret, w_retM, w_drop, w_ifS, w_retN, w_bk, w_ct, w_app, w_put, w_aug, w_for, w_it, w_rng1, w_rng2, w_enum, w_zip, wG_name, wG_tup, w_def, yes_some, yes_none, yes_bind, yes_map, yes_ite, slot, List.getElem?_cons_zero, List.getElem?_cons_succ, List.getElem?_nil, Option.getD_some, Option.getD_none, List.set_cons_zero, List.set_cons_succ, List.set_nil, List.map_cons, List.map_nil, List.cons_append, List.nil_append, List.length_cons, List.length_nil, List.replicate, Option.some.injEq, M.imm.injEq, exists_eq_left, exists_eq_left', datM, immD, frzE, isL, putI, retM, backM, putArgs, getM, intO, itemsD, seqItems, lstItems, List.append_nil, Option.map_some, Option.map_none, Option.bind_some, Option.bind_none, Bool.false_eq_true, if_true, if_false, Nat.reduceAdd, Nat.reduceSub, ↓reduceIte, and_true, true_and, reduceCtorEq, decide_eq_true_eq, addD, subD, mulD, divD, modD, pow_18, negD, intD, ltD, leD, gtD, geD, isND, isnotND, VD.getD, lenD, lenM, cutD, truD, atL_0, atL_1, atL_2, atL_3, atL_4, ix2_0, ix2_1, scountD, min2D, max2D, rng1D, rng2D]
    refine ⟨by unfold two62; omega, ?_⟩
    refine for_inv (fun i e => ∃ (m' : M) (w : List Nat) (o4 : Option M), IsBox m' ∧ Wd L w ∧ w.length = i ∧ e = [some m', some (.imm (Al L ps)), some (.imm (.int n)), some (.imm (.str w)), o4]) ⟨m1, [], none, hm1, by simp [Wd], rfl, rfl⟩ ?_ ?_
    · rintro i d e hi ⟨m2, w, o4, hm2, hw, hl, rfl⟩
      obtain ⟨hi2, rfl⟩ := upto_get _ _ _ _ hi
      have hi3 : i ≤ 100 := by omega
      rw [wG_name]
      simp only [Al, w_var, w_c, w_op2, w_op1, w_ts2, w_ts1, w_and, w_or, w_not, w_tru, w_val, w_if, w_nilA, w_consA, w_tup, w_lst, w_imm, w_frzM, w_immF, w_frz, w_getS, w_lenS, w_len, w_noF, w_someF, w_cut, w_slotM, w_tupFM, w_lenOfM, w_srtFM, w_call, w_arNil, w_arE, w_arS, w_nx, w_seq, w_set, w_setM, w_asg, w_ret, w_retM, w_drop, w_ifS, w_retN, w_bk, w_ct, w_app, w_put, w_aug, w_for, w_it, w_rng1, w_rng2, w_enum, w_zip, wG_name, wG_tup, w_def, yes_some, yes_none, yes_bind, yes_map, yes_ite, slot, List.getElem?_cons_zero, List.getElem?_cons_succ, List.getElem?_nil, Option.getD_some, Option.getD_none, List.set_cons_zero, List.set_cons_succ, List.set_nil, List.map_cons, List.map_nil, List.cons_append, List.nil_append, List.length_cons, List.length_nil, List.replicate, Option.some.injEq, M.imm.injEq, exists_eq_left, exists_eq_left', datM, immD, frzE, isL, putI, retM, backM, putArgs, getM, intO, itemsD, seqItems, lstItems, List.append_nil, Option.map_some, Option.map_none, Option.bind_some, Option.bind_none, Bool.false_eq_true, if_true, if_false, Nat.reduceAdd, Nat.reduceSub, ↓reduceIte, and_true, true_and, reduceCtorEq, decide_eq_true_eq, addD, subD, mulD, divD, modD, pow_18, negD, intD, ltD, leD, gtD, geD, isND, isnotND, VD.getD, lenD, lenM, cutD, truD, atL_0, atL_1, atL_2, atL_3, atL_4, ix2_0, ix2_1, scountD, min2D, max2D, rng1D, rng2D]
      refine ⟨lb, wpF_mono (draw_ok hm2 (by omega)) ?_⟩
      rintro r l ⟨v, rfl, h1, h2, m3, hm3, rfl⟩
      obtain ⟨v, rfl⟩ := Int.eq_ofNat_of_zero_le h1
      have e1 : L[v]? = some L[v] := List.getElem?_eq_getElem (by omega)
      simp only [w_var, w_c, w_op2, w_op1, w_ts2, w_ts1, w_and, w_or, w_not, w_tru, w_val, w_if, w_nilA, w_consA, w_tup, w_lst, w_imm, w_frzM, w_immF, w_frz, w_getS, w_lenS, w_len, w_noF, w_someF, w_cut, w_slotM, w_tupFM, w_lenOfM, w_srtFM, w_call, w_arNil, w_arE, w_arS, w_nx, w_seq, w_set, w_setM, w_asg, w_ret, w_retM, w_drop, w_ifS, w_retN, w_bk, w_ct, w_app, w_put, w_aug, w_for, w_it, w_rng1, w_rng2, w_enum, w_zip, wG_name, wG_tup, w_def, yes_some, yes_none, yes_bind, yes_map, yes_ite, slot, List.getElem?_cons_zero, List.getElem?_cons_succ, List.getElem?_nil, Option.getD_some, Option.getD_none, List.set_cons_zero, List.set_cons_succ, List.set_nil, List.map_cons, List.map_nil, List.cons_append, List.nil_append, List.length_cons, List.length_nil, List.replicate, Option.some.injEq, M.imm.injEq, exists_eq_left, exists_eq_left', datM, immD, frzE, isL, putI, retM, backM, putArgs, getM, intO, itemsD, seqItems, lstItems, List.append_nil, Option.map_some, Option.map_none, Option.bind_some, Option.bind_none, Bool.false_eq_true, if_true, if_false, Nat.reduceAdd, Nat.reduceSub, ↓reduceIte, and_true, true_and, reduceCtorEq, decide_eq_true_eq, addD, subD, mulD, divD, modD, pow_18, negD, intD, ltD, leD, gtD, geD, isND, isnotND, VD.getD, lenD, lenM, cutD, truD, atL_0, atL_1, atL_2, atL_3, atL_4, ix2_0, ix2_1, scountD, min2D, max2D, rng1D, rng2D, atL_nat e1, lb]
      refine ⟨by unfold big; simp; omega, m3, w ++ [L[v]], _, hm3, ?_, by simp [hl], rfl⟩
      intro c hc
      rcases List.mem_append.mp hc with z | z
      · exact hw c z
      · rw [List.mem_singleton.mp z]; exact List.getElem_mem _
    · rintro e ⟨m2, w, o4, hm2, hw, hl, rfl⟩
      have := upto_len v.toNat 0
      exact ⟨rfl, m2, w, _, hm2, hw, by omega, rfl⟩
  rintro e ⟨m2, w, o4, hm2, hw, hl, rfl⟩
  simp only [w_var, w_c, w_op2, w_op1, w_ts2, w_ts1, w_and, w_or, w_not, w_tru, w_val, w_if, w_nilA, w_consA, w_tup, w_lst, w_imm, w_frzM, w_immF, w_frz, w_getS, w_lenS, w_len, w_noF, w_someF, w_cut, w_slotM, w_tupFM, w_lenOfM, w_srtFM, w_call, w_arNil, w_arE, w_arS, w_nx, w_seq, w_set, w_setM, w_asg, w_ret, w_retM, w_drop, w_ifS, w_retN, w_bk, w_ct, w_app, w_put, w_aug, w_for, w_it, w_rng1, w_rng2, w_enum, w_zip, wG_name, wG_tup, w_def, yes_some, yes_none, yes_bind, yes_map, yes_ite, slot, List.getElem?_cons_zero, List.getElem?_cons_succ, List.getElem?_nil, Option.getD_some, Option.getD_none, List.set_cons_zero, List.set_cons_succ, List.set_nil, List.map_cons, List.map_nil, List.cons_append, List.nil_append, List.length_cons, List.length_nil, List.replicate, Option.some.injEq, M.imm.injEq, exists_eq_left, exists_eq_left', datM, immD, frzE, isL, putI, retM, backM, putArgs, getM, intO, itemsD, seqItems, lstItems, List.append_nil, Option.map_some, Option.map_none, Option.bind_some, Option.bind_none, Bool.false_eq_true, if_true, if_false, Nat.reduceAdd, Nat.reduceSub, ↓reduceIte, and_true, true_and, reduceCtorEq, decide_eq_true_eq, addD, subD, mulD, divD, modD, pow_18, negD, intD, ltD, leD, gtD, geD, isND, isnotND, VD.getD, lenD, lenM, cutD, truD, atL_0, atL_1, atL_2, atL_3, atL_4, ix2_0, ix2_1, scountD, min2D, max2D, rng1D, rng2D]
  exact ⟨w, hw, hl, rfl, m2, hm2, rfl⟩
theorem free_ok {L ps} {x y : Nat} : wpF f__law_free [.imm (Al L ps), .imm (.str [x]), .imm (.str [y])] fun r l => r = .imm (.bl (fr ps x y)) ∧ l = [.imm (Al L ps), .imm (.str [x]), .imm (.str [y])] := by
  simp only [f__law_free, b__law_free, Al, w_var, w_c, w_op2, w_op1, w_ts2, w_ts1, w_and, w_or, w_not, w_tru, w_val, w_if, w_nilA, w_consA, w_tup, w_lst, w_imm, w_frzM, w_immF, w_frz, w_getS, w_lenS, w_len, w_noF, w_someF, w_cut, w_slotM, w_tupFM, w_lenOfM, w_srtFM, w_call, w_arNil, w_arE, w_arS, w_nx, w_seq, w_set, w_setM, w_asg, w_ret, w_retM, w_drop, w_ifS, w_retN, w_bk, w_ct, w_app, w_put, w_aug, w_for, w_it, w_rng1, w_rng2, w_enum, w_zip, wG_name, wG_tup, w_def, yes_some, yes_none, yes_bind, yes_map, yes_ite, slot, List.getElem?_cons_zero, List.getElem?_cons_succ, List.getElem?_nil, Option.getD_some, Option.getD_none, List.set_cons_zero, List.set_cons_succ, List.set_nil, List.map_cons, List.map_nil, List.cons_append, List.nil_append, List.length_cons, List.length_nil, List.replicate, Option.some.injEq, M.imm.injEq, exists_eq_left, exists_eq_left', datM, immD, frzE, isL, putI, retM, backM, putArgs, getM, intO, itemsD, seqItems, lstItems, List.append_nil, Option.map_some, Option.map_none, Option.bind_some, Option.bind_none, Bool.false_eq_true, if_true, if_false, Nat.reduceAdd, Nat.reduceSub, ↓reduceIte, and_true, true_and, reduceCtorEq, decide_eq_true_eq, addD, subD, mulD, divD, modD, pow_18, negD, intD, ltD, leD, gtD, geD, isND, isnotND, VD.getD, lenD, lenM, cutD, truD, atL_0, atL_1, atL_2, atL_3, atL_4, ix2_0, ix2_1, scountD, min2D, max2D, rng1D, rng2D, in_strs]
  refine ⟨by decide, ?_⟩
  unfold fr
  by_cases h : [x, y] ∈ ps
  · simp [h]
  · simp only [h, decide_false, slot, List.getElem?_cons_zero, List.getElem?_cons_succ, List.getElem?_nil, Option.getD_some, Option.getD_none, List.set_cons_zero, List.set_cons_succ, List.set_nil, List.map_cons, List.map_nil, List.cons_append, List.nil_append, List.length_cons, List.length_nil, List.replicate, Option.some.injEq, M.imm.injEq, exists_eq_left, exists_eq_left', datM, immD, frzE, isL, putI, retM, backM, putArgs, getM, intO, itemsD, seqItems, lstItems, List.append_nil, Option.map_some, Option.map_none, Option.bind_some, Option.bind_none, Bool.false_eq_true, if_true, if_false, Nat.reduceAdd, Nat.reduceSub, ↓reduceIte, and_true, true_and, reduceCtorEq, decide_eq_true_eq]
    exact ⟨by decide, by simp⟩
theorem mixed_ok {m : M} (h : IsBox m) {L ps} (ha : AlOk L ps) {w : List Nat} (hn : w.length ≤ 100) : wpF f__law_mixed [m, .imm (Al L ps), .imm (.str w)] fun r l => ∃ u, Rch (fr ps) w u ∧ r = .imm (.str u) ∧ ∃ m', IsBox m' ∧ l = [m', .imm (Al L ps), .imm (.str w)] := by
  have h0 := h
  obtain ⟨ds0, k0, rfl, hd0⟩ := h
  have lb : ∀ u : List Nat, u.length = w.length → u.length ≤ big := fun u hu => by unfold big; omega
  simp only [f__law_mixed, b__law_mixed, w_def]
  refine seq_mid (fun e => ∃ (m' : M) (u : List Nat) (o3 o4 : Option M), IsBox m' ∧ Rch (fr ps) w u ∧ e = [some m', some (.imm (Al L ps)), some (.imm (.str u)), o3, o4]) ?_ ?_
  · simp only [w_var, w_c, w_op2, w_op1, w_ts2, w_ts1, w_and, w_or, w_not, w_tru, w_val, w_if, w_nilA, w_consA, w_tup, w_lst, w_imm, w_frzM, w_immF, w_frz, w_getS, w_lenS, w_len, w_noF, w_someF, w_cut, w_slotM, w_tupFM, w_lenOfM, w_srtFM, w_call, w_arNil, w_arE, w_arS, w_nx, w_seq, w_set, w_setM, w_asg, w_ret, w_retM, w_drop, w_ifS, w_retN, w_bk, w_ct, w_app, w_put, w_aug, w_for, w_it, w_rng1, w_rng2, w_enum, w_zip, wG_name, wG_tup, w_def, yes_some, yes_none, yes_bind, yes_map, yes_ite, slot, List.getElem?_cons_zero, List.getElem?_cons_succ, List.getElem?_nil, Option.getD_some, Option.getD_none, List.set_cons_zero, List.set_cons_succ, List.set_nil, List.map_cons, List.map_nil, List.cons_append, List.nil_append, List.length_cons, List.length_nil, List.replicate, Option.some.injEq, M.imm.injEq, exists_eq_left, exists_eq_left', datM, immD, frzE, isL, putI, retM, backM, putArgs, getM, intO, itemsD, seqItems, lstItems, List.append_nil, Option.map_some, Option.map_none, Option.bind_some, Option.bind_none, Bool.false_eq_true, if_true, if_false, Nat.reduceAdd, Nat.reduceSub, ↓reduceIte, and_true, true_and, reduceCtorEq, decide_eq_true_eq, addD, subD, mulD, divD, modD, pow_18, negD, intD, ltD, leD, gtD, geD, isND, isnotND, VD.getD, lenD, lenM, cutD, truD, atL_0, atL_1, atL_2, atL_3, atL_4, ix2_0, ix2_1, scountD, min2D, max2D, rng1D, rng2D]
    refine ⟨lb w rfl, .inl (by decide), by unfold two62; omega, ?_⟩
    refine for_inv (fun i e => ∃ (m' : M) (u : List Nat) (o3 o4 : Option M), IsBox m' ∧ Rch (fr ps) w u ∧ e = [some m', some (.imm (Al L ps)), some (.imm (.str u)), o3, o4]) ⟨_, w, none, none, h0, .refl _, rfl⟩ ?_ ?_
    · rintro i d e hi ⟨m2, u, o3, o4, hm2, hr, rfl⟩
      obtain ⟨hi2, rfl⟩ := upto_get _ _ _ _ hi
      have hul : u.length = w.length := hr.perm.length_eq
      rw [wG_name]
      simp only [w_var, w_c, w_op2, w_op1, w_ts2, w_ts1, w_and, w_or, w_not, w_tru, w_val, w_if, w_nilA, w_consA, w_tup, w_lst, w_imm, w_frzM, w_immF, w_frz, w_getS, w_lenS, w_len, w_noF, w_someF, w_cut, w_slotM, w_tupFM, w_lenOfM, w_srtFM, w_call, w_arNil, w_arE, w_arS, w_nx, w_seq, w_set, w_setM, w_asg, w_ret, w_retM, w_drop, w_ifS, w_retN, w_bk, w_ct, w_app, w_put, w_aug, w_for, w_it, w_rng1, w_rng2, w_enum, w_zip, wG_name, wG_tup, w_def, yes_some, yes_none, yes_bind, yes_map, yes_ite, slot, List.getElem?_cons_zero, List.getElem?_cons_succ, List.getElem?_nil, Option.getD_some, Option.getD_none, List.set_cons_zero, List.set_cons_succ, List.set_nil, List.map_cons, List.map_nil, List.cons_append, List.nil_append, List.length_cons, List.length_nil, List.replicate, Option.some.injEq, M.imm.injEq, exists_eq_left, exists_eq_left', datM, immD, frzE, isL, putI, retM, backM, putArgs, getM, intO, itemsD, seqItems, lstItems, List.append_nil, Option.map_some, Option.map_none, Option.bind_some, Option.bind_none, Bool.false_eq_true, if_true, if_false, Nat.reduceAdd, Nat.reduceSub, ↓reduceIte, and_true, true_and, reduceCtorEq, decide_eq_true_eq, addD, subD, mulD, divD, modD, pow_18, negD, intD, ltD, leD, gtD, geD, isND, isnotND, VD.getD, lenD, lenM, cutD, truD, atL_0, atL_1, atL_2, atL_3, atL_4, ix2_0, ix2_1, scountD, min2D, max2D, rng1D, rng2D]
      refine ⟨lb u hul, wpF_mono (draw_ok hm2 (by omega)) ?_⟩
      rintro r l ⟨v, rfl, h1, h2, m3, hm3, rfl⟩
      obtain ⟨v, rfl⟩ := Int.eq_ofNat_of_zero_le h1
      simp only [w_var, w_c, w_op2, w_op1, w_ts2, w_ts1, w_and, w_or, w_not, w_tru, w_val, w_if, w_nilA, w_consA, w_tup, w_lst, w_imm, w_frzM, w_immF, w_frz, w_getS, w_lenS, w_len, w_noF, w_someF, w_cut, w_slotM, w_tupFM, w_lenOfM, w_srtFM, w_call, w_arNil, w_arE, w_arS, w_nx, w_seq, w_set, w_setM, w_asg, w_ret, w_retM, w_drop, w_ifS, w_retN, w_bk, w_ct, w_app, w_put, w_aug, w_for, w_it, w_rng1, w_rng2, w_enum, w_zip, wG_name, wG_tup, w_def, yes_some, yes_none, yes_bind, yes_map, yes_ite, slot, List.getElem?_cons_zero, List.getElem?_cons_succ, List.getElem?_nil, Option.getD_some, Option.getD_none, List.set_cons_zero, List.set_cons_succ, List.set_nil, List.map_cons, List.map_nil, List.cons_append, List.nil_append, List.length_cons, List.length_nil, List.replicate, Option.some.injEq, M.imm.injEq, exists_eq_left, exists_eq_left', datM, immD, frzE, isL, putI, retM, backM, putArgs, getM, intO, itemsD, seqItems, lstItems, List.append_nil, Option.map_some, Option.map_none, Option.bind_some, Option.bind_none, Bool.false_eq_true, if_true, if_false, Nat.reduceAdd, Nat.reduceSub, ↓reduceIte, and_true, true_and, reduceCtorEq, decide_eq_true_eq, addD, subD, mulD, divD, modD, pow_18, negD, intD, ltD, leD, gtD, geD, isND, isnotND, VD.getD, lenD, lenM, cutD, truD, atL_0, atL_1, atL_2, atL_3, atL_4, ix2_0, ix2_1, scountD, min2D, max2D, rng1D, rng2D]
      refine ⟨lb u hul, ?_⟩
      split
      · rename_i hlt
        have hlt' : v + 1 < u.length := by omega
        have e1 : u[v]? = some u[v] := List.getElem?_eq_getElem (by omega)
        have e2 : u[v + 1]? = some u[v + 1] := List.getElem?_eq_getElem hlt'
        have c1 : (v : Int) + 1 = ((v + 1 : Nat) : Int) := by push_cast; rfl
        have c2 : (v : Int) + 2 = ((v + 2 : Nat) : Int) := by push_cast; rfl
        simp only [c1, c2, atL_nat e1, atL_nat e2, cut_to, cut_from, lb u hul, w_var, w_c, w_op2, w_op1, w_ts2, w_ts1, w_and, w_or, w_not, w_tru, w_val, w_if, w_nilA, w_consA, w_tup, w_lst, w_imm, w_frzM, w_immF, w_frz, w_getS, w_lenS, w_len, w_noF, w_someF, w_cut, w_slotM, w_tupFM, w_lenOfM, w_srtFM, w_call, w_arNil, w_arE, w_arS, w_nx, w_seq, w_set, w_setM, w_asg, w_ret, w_retM, w_drop, w_ifS, w_retN, w_bk, w_ct, w_app, w_put, w_aug, w_for, w_it, w_rng1, w_rng2, w_enum, w_zip, wG_name, wG_tup, w_def, yes_some, yes_none, yes_bind, yes_map, yes_ite, slot, List.getElem?_cons_zero, List.getElem?_cons_succ, List.getElem?_nil, Option.getD_some, Option.getD_none, List.set_cons_zero, List.set_cons_succ, List.set_nil, List.map_cons, List.map_nil, List.cons_append, List.nil_append, List.length_cons, List.length_nil, List.replicate, Option.some.injEq, M.imm.injEq, exists_eq_left, exists_eq_left', datM, immD, frzE, isL, putI, retM, backM, putArgs, getM, intO, itemsD, seqItems, lstItems, List.append_nil, Option.map_some, Option.map_none, Option.bind_some, Option.bind_none, Bool.false_eq_true, if_true, if_false, Nat.reduceAdd, Nat.reduceSub, ↓reduceIte, and_true, true_and, reduceCtorEq, decide_eq_true_eq, addD, subD, mulD, divD, modD, pow_18, negD, intD, ltD, leD, gtD, geD, isND, isnotND, VD.getD, lenD, lenM, cutD, truD, atL_0, atL_1, atL_2, atL_3, atL_4, ix2_0, ix2_1, scountD, min2D, max2D, rng1D, rng2D]
        refine wpF_mono free_ok ?_
        rintro r l ⟨rfl, rfl⟩
        simp only [c1, c2, atL_nat e1, atL_nat e2, cut_to, cut_from, lb u hul, w_var, w_c, w_op2, w_op1, w_ts2, w_ts1, w_and, w_or, w_not, w_tru, w_val, w_if, w_nilA, w_consA, w_tup, w_lst, w_imm, w_frzM, w_immF, w_frz, w_getS, w_lenS, w_len, w_noF, w_someF, w_cut, w_slotM, w_tupFM, w_lenOfM, w_srtFM, w_call, w_arNil, w_arE, w_arS, w_nx, w_seq, w_set, w_setM, w_asg, w_ret, w_retM, w_drop, w_ifS, w_retN, w_bk, w_ct, w_app, w_put, w_aug, w_for, w_it, w_rng1, w_rng2, w_enum, w_zip, wG_name, wG_tup, w_def, yes_some, yes_none, yes_bind, yes_map, yes_ite, slot, List.getElem?_cons_zero, List.getElem?_cons_succ, List.getElem?_nil, Option.getD_some, Option.getD_none, List.set_cons_zero, List.set_cons_succ, List.set_nil, List.map_cons, List.map_nil, List.cons_append, List.nil_append, List.length_cons, List.length_nil, List.replicate, Option.some.injEq, M.imm.injEq, exists_eq_left, exists_eq_left', datM, immD, frzE, isL, putI, retM, backM, putArgs, getM, intO, itemsD, seqItems, lstItems, List.append_nil, Option.map_some, Option.map_none, Option.bind_some, Option.bind_none, Bool.false_eq_true, if_true, if_false, Nat.reduceAdd, Nat.reduceSub, ↓reduceIte, and_true, true_and, reduceCtorEq, decide_eq_true_eq, addD, subD, mulD, divD, modD, pow_18, negD, intD, ltD, leD, gtD, geD, isND, isnotND, VD.getD, lenD, lenM, cutD, truD, atL_0, atL_1, atL_2, atL_3, atL_4, ix2_0, ix2_1, scountD, min2D, max2D, rng1D, rng2D]
        split
        · rename_i hf
          refine ⟨?_, ?_, ?_, m3, turn u v hlt', some (.imm (.int (0 + (i : Int)))), some (.imm (.int v)), hm3, turn_rch hlt' hf hr, ?_⟩
          all_goals first | (unfold big; simp; omega) | skip
          simp [turn]
        · exact ⟨m3, u, _, _, hm3, hr, rfl⟩
      · exact ⟨m3, u, _, _, hm3, hr, rfl⟩
    · rintro e ⟨m2, u, o3, o4, hm2, hr, rfl⟩
      exact ⟨rfl, m2, u, _, _, hm2, hr, rfl⟩
  rintro e ⟨m2, u, o3, o4, hm2, hr, rfl⟩
  simp only [w_var, w_c, w_op2, w_op1, w_ts2, w_ts1, w_and, w_or, w_not, w_tru, w_val, w_if, w_nilA, w_consA, w_tup, w_lst, w_imm, w_frzM, w_immF, w_frz, w_getS, w_lenS, w_len, w_noF, w_someF, w_cut, w_slotM, w_tupFM, w_lenOfM, w_srtFM, w_call, w_arNil, w_arE, w_arS, w_nx, w_seq, w_set, w_setM, w_asg, w_ret, w_retM, w_drop, w_ifS, w_retN, w_bk, w_ct, w_app, w_put, w_aug, w_for, w_it, w_rng1, w_rng2, w_enum, w_zip, wG_name, wG_tup, w_def, yes_some, yes_none, yes_bind, yes_map, yes_ite, slot, List.getElem?_cons_zero, List.getElem?_cons_succ, List.getElem?_nil, Option.getD_some, Option.getD_none, List.set_cons_zero, List.set_cons_succ, List.set_nil, List.map_cons, List.map_nil, List.cons_append, List.nil_append, List.length_cons, List.length_nil, List.replicate, Option.some.injEq, M.imm.injEq, exists_eq_left, exists_eq_left', datM, immD, frzE, isL, putI, retM, backM, putArgs, getM, intO, itemsD, seqItems, lstItems, List.append_nil, Option.map_some, Option.map_none, Option.bind_some, Option.bind_none, Bool.false_eq_true, if_true, if_false, Nat.reduceAdd, Nat.reduceSub, ↓reduceIte, and_true, true_and, reduceCtorEq, decide_eq_true_eq, addD, subD, mulD, divD, modD, pow_18, negD, intD, ltD, leD, gtD, geD, isND, isnotND, VD.getD, lenD, lenM, cutD, truD, atL_0, atL_1, atL_2, atL_3, atL_4, ix2_0, ix2_1, scountD, min2D, max2D, rng1D, rng2D]
  exact ⟨u, hr, rfl, m2, hm2, rfl⟩
theorem independent_ok {L ps} (ha : AlOk L ps) {x y : Nat} : wpF f_independent [.imm (Al L ps), .imm (.str [x]), .imm (.str [y])] fun r l => r = .imm (.bl (fr ps x y)) ∧ l = [.imm (Al L ps), .imm (.str [x]), .imm (.str [y])] := by
  simp only [f_independent, b_independent, Al, w_var, w_c, w_op2, w_op1, w_ts2, w_ts1, w_and, w_or, w_not, w_tru, w_val, w_if, w_nilA, w_consA, w_tup, w_lst, w_imm, w_frzM, w_immF, w_frz, w_getS, w_lenS, w_len, w_noF, w_someF, w_cut, w_slotM, w_tupFM, w_lenOfM, w_srtFM, w_call, w_arNil, w_arE, w_arS, w_nx, w_seq, w_set, w_setM, w_asg, w_ret, w_retM, w_drop, w_ifS, w_retN, w_bk, w_ct, w_app, w_put, w_aug, w_for, w_it, w_rng1, w_rng2, w_enum, w_zip, wG_name, wG_tup, w_def, yes_some, yes_none, yes_bind, yes_map, yes_ite, slot, List.getElem?_cons_zero, List.getElem?_cons_succ, List.getElem?_nil, Option.getD_some, Option.getD_none, List.set_cons_zero, List.set_cons_succ, List.set_nil, List.map_cons, List.map_nil, List.cons_append, List.nil_append, List.length_cons, List.length_nil, List.replicate, Option.some.injEq, M.imm.injEq, exists_eq_left, exists_eq_left', datM, immD, frzE, isL, putI, retM, backM, putArgs, getM, intO, itemsD, seqItems, lstItems, List.append_nil, Option.map_some, Option.map_none, Option.bind_some, Option.bind_none, Bool.false_eq_true, if_true, if_false, Nat.reduceAdd, Nat.reduceSub, ↓reduceIte, and_true, true_and, reduceCtorEq, decide_eq_true_eq, addD, subD, mulD, divD, modD, pow_18, negD, intD, ltD, leD, gtD, geD, isND, isnotND, VD.getD, lenD, lenM, cutD, truD, atL_0, atL_1, atL_2, atL_3, atL_4, ix2_0, ix2_1, scountD, min2D, max2D, rng1D, rng2D, in_strs, lt1]
  have key : ∀ a b : Nat, [a, b] ∈ ps → a < b := fun a b h => by
    obtain ⟨u, v, e, l⟩ := ha.two _ h
    cases e
    exact l
  rcases Nat.lt_trichotomy x y with h | h | h
  · have h' : ¬ y < x := by omega
    simp only [h, h', slot, List.getElem?_cons_zero, List.getElem?_cons_succ, List.getElem?_nil, Option.getD_some, Option.getD_none, List.set_cons_zero, List.set_cons_succ, List.set_nil, List.map_cons, List.map_nil, List.cons_append, List.nil_append, List.length_cons, List.length_nil, List.replicate, Option.some.injEq, M.imm.injEq, exists_eq_left, exists_eq_left', datM, immD, frzE, isL, putI, retM, backM, putArgs, getM, intO, itemsD, seqItems, lstItems, List.append_nil, Option.map_some, Option.map_none, Option.bind_some, Option.bind_none, Bool.false_eq_true, if_true, if_false, Nat.reduceAdd, Nat.reduceSub, ↓reduceIte, and_true, true_and, reduceCtorEq, decide_eq_true_eq]
    refine ⟨by decide, ?_⟩
    have : [y, x] ∉ ps := fun z => h' (key _ _ z)
    simp [fr, this, in_strs, yes]
  · subst h
    have : [x, x] ∉ ps := fun z => Nat.lt_irrefl _ (key _ _ z)
    simp only [Nat.lt_irrefl, slot, List.getElem?_cons_zero, List.getElem?_cons_succ, List.getElem?_nil, Option.getD_some, Option.getD_none, List.set_cons_zero, List.set_cons_succ, List.set_nil, List.map_cons, List.map_nil, List.cons_append, List.nil_append, List.length_cons, List.length_nil, List.replicate, Option.some.injEq, M.imm.injEq, exists_eq_left, exists_eq_left', datM, immD, frzE, isL, putI, retM, backM, putArgs, getM, intO, itemsD, seqItems, lstItems, List.append_nil, Option.map_some, Option.map_none, Option.bind_some, Option.bind_none, Bool.false_eq_true, if_true, if_false, Nat.reduceAdd, Nat.reduceSub, ↓reduceIte, and_true, true_and, reduceCtorEq, decide_eq_true_eq]
    refine ⟨by decide, ?_⟩
    simp [fr, this, in_strs, yes]
  · have h' : ¬ x < y := by omega
    simp only [h, h', slot, List.getElem?_cons_zero, List.getElem?_cons_succ, List.getElem?_nil, Option.getD_some, Option.getD_none, List.set_cons_zero, List.set_cons_succ, List.set_nil, List.map_cons, List.map_nil, List.cons_append, List.nil_append, List.length_cons, List.length_nil, List.replicate, Option.some.injEq, M.imm.injEq, exists_eq_left, exists_eq_left', datM, immD, frzE, isL, putI, retM, backM, putArgs, getM, intO, itemsD, seqItems, lstItems, List.append_nil, Option.map_some, Option.map_none, Option.bind_some, Option.bind_none, Bool.false_eq_true, if_true, if_false, Nat.reduceAdd, Nat.reduceSub, ↓reduceIte, and_true, true_and, reduceCtorEq, decide_eq_true_eq]
    refine ⟨by decide, ?_⟩
    have : [x, y] ∉ ps := fun z => h' (key _ _ z)
    simp [fr, this, in_strs, yes]
theorem same_refl : ∀ (n : Nat) (b : D), smp b = true → dep b < n → wpF (f__law_same n) [.imm b, .imm b] fun r l => r = .imm (.bl true) ∧ l = [.imm b, .imm b]
  | 0, _, _, h => absurd h (Nat.not_lt_zero _)
  | n + 1, b, hs, hn => by
    rw [f__law_same]
    cases b with
    | non => simp only [w_var, w_c, w_op2, w_op1, w_ts2, w_ts1, w_and, w_or, w_not, w_tru, w_val, w_if, w_nilA, w_consA, w_tup, w_lst, w_imm, w_frzM, w_immF, w_frz, w_getS, w_lenS, w_len, w_noF, w_someF, w_cut, w_slotM, w_tupFM, w_lenOfM, w_srtFM, w_call, w_arNil, w_arE, w_arS, w_nx, w_seq, w_set, w_setM, w_asg, w_ret, w_retM, w_drop, w_ifS, w_retN, w_bk, w_ct, w_app, w_put, w_aug, w_for, w_it, w_rng1, w_rng2, w_enum, w_zip, wG_name, wG_tup, w_def, yes_some, yes_none, yes_bind, yes_map, yes_ite, slot, List.getElem?_cons_zero, List.getElem?_cons_succ, List.getElem?_nil, Option.getD_some, Option.getD_none, List.set_cons_zero, List.set_cons_succ, List.set_nil, List.map_cons, List.map_nil, List.cons_append, List.nil_append, List.length_cons, List.length_nil, List.replicate, Option.some.injEq, M.imm.injEq, exists_eq_left, exists_eq_left', datM, immD, frzE, isL, putI, retM, backM, putArgs, getM, intO, itemsD, seqItems, lstItems, List.append_nil, Option.map_some, Option.map_none, Option.bind_some, Option.bind_none, Bool.false_eq_true, if_true, if_false, Nat.reduceAdd, Nat.reduceSub, ↓reduceIte, and_true, true_and, reduceCtorEq, decide_eq_true_eq, addD, subD, mulD, divD, modD, pow_18, negD, intD, ltD, leD, gtD, geD, isND, isnotND, VD.getD, lenD, lenM, cutD, truD, atL_0, atL_1, atL_2, atL_3, atL_4, ix2_0, ix2_1, scountD, min2D, max2D, rng1D, rng2D, isi_non, isB_5, decide_true, reduceCtorEq, decide_false]
    | str s => simp only [w_var, w_c, w_op2, w_op1, w_ts2, w_ts1, w_and, w_or, w_not, w_tru, w_val, w_if, w_nilA, w_consA, w_tup, w_lst, w_imm, w_frzM, w_immF, w_frz, w_getS, w_lenS, w_len, w_noF, w_someF, w_cut, w_slotM, w_tupFM, w_lenOfM, w_srtFM, w_call, w_arNil, w_arE, w_arS, w_nx, w_seq, w_set, w_setM, w_asg, w_ret, w_retM, w_drop, w_ifS, w_retN, w_bk, w_ct, w_app, w_put, w_aug, w_for, w_it, w_rng1, w_rng2, w_enum, w_zip, wG_name, wG_tup, w_def, yes_some, yes_none, yes_bind, yes_map, yes_ite, slot, List.getElem?_cons_zero, List.getElem?_cons_succ, List.getElem?_nil, Option.getD_some, Option.getD_none, List.set_cons_zero, List.set_cons_succ, List.set_nil, List.map_cons, List.map_nil, List.cons_append, List.nil_append, List.length_cons, List.length_nil, List.replicate, Option.some.injEq, M.imm.injEq, exists_eq_left, exists_eq_left', datM, immD, frzE, isL, putI, retM, backM, putArgs, getM, intO, itemsD, seqItems, lstItems, List.append_nil, Option.map_some, Option.map_none, Option.bind_some, Option.bind_none, Bool.false_eq_true, if_true, if_false, Nat.reduceAdd, Nat.reduceSub, ↓reduceIte, and_true, true_and, reduceCtorEq, decide_eq_true_eq, addD, subD, mulD, divD, modD, pow_18, negD, intD, ltD, leD, gtD, geD, isND, isnotND, VD.getD, lenD, lenM, cutD, truD, atL_0, atL_1, atL_2, atL_3, atL_4, ix2_0, ix2_1, scountD, min2D, max2D, rng1D, rng2D, isi_str, isB_1, isB_2, isB_3, isB_4, eqS, decide_true, reduceCtorEq, decide_false]
    | int i => simp only [w_var, w_c, w_op2, w_op1, w_ts2, w_ts1, w_and, w_or, w_not, w_tru, w_val, w_if, w_nilA, w_consA, w_tup, w_lst, w_imm, w_frzM, w_immF, w_frz, w_getS, w_lenS, w_len, w_noF, w_someF, w_cut, w_slotM, w_tupFM, w_lenOfM, w_srtFM, w_call, w_arNil, w_arE, w_arS, w_nx, w_seq, w_set, w_setM, w_asg, w_ret, w_retM, w_drop, w_ifS, w_retN, w_bk, w_ct, w_app, w_put, w_aug, w_for, w_it, w_rng1, w_rng2, w_enum, w_zip, wG_name, wG_tup, w_def, yes_some, yes_none, yes_bind, yes_map, yes_ite, slot, List.getElem?_cons_zero, List.getElem?_cons_succ, List.getElem?_nil, Option.getD_some, Option.getD_none, List.set_cons_zero, List.set_cons_succ, List.set_nil, List.map_cons, List.map_nil, List.cons_append, List.nil_append, List.length_cons, List.length_nil, List.replicate, Option.some.injEq, M.imm.injEq, exists_eq_left, exists_eq_left', datM, immD, frzE, isL, putI, retM, backM, putArgs, getM, intO, itemsD, seqItems, lstItems, List.append_nil, Option.map_some, Option.map_none, Option.bind_some, Option.bind_none, Bool.false_eq_true, if_true, if_false, Nat.reduceAdd, Nat.reduceSub, ↓reduceIte, and_true, true_and, reduceCtorEq, decide_eq_true_eq, addD, subD, mulD, divD, modD, pow_18, negD, intD, ltD, leD, gtD, geD, isND, isnotND, VD.getD, lenD, lenM, cutD, truD, atL_0, atL_1, atL_2, atL_3, atL_4, ix2_0, ix2_1, scountD, min2D, max2D, rng1D, rng2D, isi_int, isB_7, isB_8, isB_9, eqI, decide_true, reduceCtorEq, decide_false, Bool.not_false]
    | bl i => simp only [w_var, w_c, w_op2, w_op1, w_ts2, w_ts1, w_and, w_or, w_not, w_tru, w_val, w_if, w_nilA, w_consA, w_tup, w_lst, w_imm, w_frzM, w_immF, w_frz, w_getS, w_lenS, w_len, w_noF, w_someF, w_cut, w_slotM, w_tupFM, w_lenOfM, w_srtFM, w_call, w_arNil, w_arE, w_arS, w_nx, w_seq, w_set, w_setM, w_asg, w_ret, w_retM, w_drop, w_ifS, w_retN, w_bk, w_ct, w_app, w_put, w_aug, w_for, w_it, w_rng1, w_rng2, w_enum, w_zip, wG_name, wG_tup, w_def, yes_some, yes_none, yes_bind, yes_map, yes_ite, slot, List.getElem?_cons_zero, List.getElem?_cons_succ, List.getElem?_nil, Option.getD_some, Option.getD_none, List.set_cons_zero, List.set_cons_succ, List.set_nil, List.map_cons, List.map_nil, List.cons_append, List.nil_append, List.length_cons, List.length_nil, List.replicate, Option.some.injEq, M.imm.injEq, exists_eq_left, exists_eq_left', datM, immD, frzE, isL, putI, retM, backM, putArgs, getM, intO, itemsD, seqItems, lstItems, List.append_nil, Option.map_some, Option.map_none, Option.bind_some, Option.bind_none, Bool.false_eq_true, if_true, if_false, Nat.reduceAdd, Nat.reduceSub, ↓reduceIte, and_true, true_and, reduceCtorEq, decide_eq_true_eq, addD, subD, mulD, divD, modD, pow_18, negD, intD, ltD, leD, gtD, geD, isND, isnotND, VD.getD, lenD, lenM, cutD, truD, atL_0, atL_1, atL_2, atL_3, atL_4, ix2_0, ix2_1, scountD, min2D, max2D, rng1D, rng2D, isi_bl, isB_10, isB_11, eqB, decide_true, reduceCtorEq, decide_false]
    | lst xs => simp [smp] at hs
    | dct xs => simp [smp] at hs
    | tup xs =>
      simp only [smp, Bool.and_eq_true, decide_eq_true_eq] at hs
      simp only [w_var, w_c, w_op2, w_op1, w_ts2, w_ts1, w_and, w_or, w_not, w_tru, w_val, w_if, w_nilA, w_consA, w_tup, w_lst, w_imm, w_frzM, w_immF, w_frz, w_getS, w_lenS, w_len, w_noF, w_someF, w_cut, w_slotM, w_tupFM, w_lenOfM, w_srtFM, w_call, w_arNil, w_arE, w_arS, w_nx, w_seq, w_set, w_setM, w_asg, w_ret, w_retM, w_drop, w_ifS, w_retN, w_bk, w_ct, w_app, w_put, w_aug, w_for, w_it, w_rng1, w_rng2, w_enum, w_zip, wG_name, wG_tup, w_def, yes_some, yes_none, yes_bind, yes_map, yes_ite, slot, List.getElem?_cons_zero, List.getElem?_cons_succ, List.getElem?_nil, Option.getD_some, Option.getD_none, List.set_cons_zero, List.set_cons_succ, List.set_nil, List.map_cons, List.map_nil, List.cons_append, List.nil_append, List.length_cons, List.length_nil, List.replicate, Option.some.injEq, M.imm.injEq, exists_eq_left, exists_eq_left', datM, immD, frzE, isL, putI, retM, backM, putArgs, getM, intO, itemsD, seqItems, lstItems, List.append_nil, Option.map_some, Option.map_none, Option.bind_some, Option.bind_none, Bool.false_eq_true, if_true, if_false, Nat.reduceAdd, Nat.reduceSub, ↓reduceIte, and_true, true_and, reduceCtorEq, decide_eq_true_eq, addD, subD, mulD, divD, modD, pow_18, negD, intD, ltD, leD, gtD, geD, isND, isnotND, VD.getD, lenD, lenM, cutD, truD, atL_0, atL_1, atL_2, atL_3, atL_4, ix2_0, ix2_1, scountD, min2D, max2D, rng1D, rng2D, isi_tup, isB_6, neI, decide_true, Bool.not_true]
      refine ⟨by have := hs.2; simp [two62]; unfold big at this; omega, ?_⟩
      refine for_inv (fun i e => ∃ o, e = [some (.imm (.tup xs)), some (.imm (.tup xs)), o]) ⟨_, rfl⟩ ?_ ?_
      · rintro i d e hi ⟨o, rfl⟩
        obtain ⟨hi2, rfl⟩ := upto_get _ _ _ _ hi
        have hi3 : i < xs.length := by simpa using hi2
        have e1 : xs[i]? = some xs[i] := List.getElem?_eq_getElem hi3
        have c1 : (0 : Int) + (i : Int) = (i : Int) := by omega
        simp only [w_var, w_c, w_op2, w_op1, w_ts2, w_ts1, w_and, w_or, w_not, w_tru, w_val, w_if, w_nilA, w_consA, w_tup, w_lst, w_imm, w_frzM, w_immF, w_frz, w_getS, w_lenS, w_len, w_noF, w_someF, w_cut, w_slotM, w_tupFM, w_lenOfM, w_srtFM, w_call, w_arNil, w_arE, w_arS, w_nx, w_seq, w_set, w_setM, w_asg, w_ret, w_retM, w_drop, w_ifS, w_retN, w_bk, w_ct, w_app, w_put, w_aug, w_for, w_it, w_rng1, w_rng2, w_enum, w_zip, wG_name, wG_tup, w_def, yes_some, yes_none, yes_bind, yes_map, yes_ite, slot, List.getElem?_cons_zero, List.getElem?_cons_succ, List.getElem?_nil, Option.getD_some, Option.getD_none, List.set_cons_zero, List.set_cons_succ, List.set_nil, List.map_cons, List.map_nil, List.cons_append, List.nil_append, List.length_cons, List.length_nil, List.replicate, Option.some.injEq, M.imm.injEq, exists_eq_left, exists_eq_left', datM, immD, frzE, isL, putI, retM, backM, putArgs, getM, intO, itemsD, seqItems, lstItems, List.append_nil, Option.map_some, Option.map_none, Option.bind_some, Option.bind_none, Bool.false_eq_true, if_true, if_false, Nat.reduceAdd, Nat.reduceSub, ↓reduceIte, and_true, true_and, reduceCtorEq, decide_eq_true_eq, addD, subD, mulD, divD, modD, pow_18, negD, intD, ltD, leD, gtD, geD, isND, isnotND, VD.getD, lenD, lenM, cutD, truD, atL_0, atL_1, atL_2, atL_3, atL_4, ix2_0, ix2_1, scountD, min2D, max2D, rng1D, rng2D, c1, atL_nat e1]
        have hm := List.getElem_mem hi3
        refine wpF_mono (same_refl n xs[i] (smpL_mem hs.1 hm) (by have := dep_mem hm; simp only [dep] at hn; omega)) ?_
        rintro r l ⟨rfl, rfl⟩
        simp only [w_var, w_c, w_op2, w_op1, w_ts2, w_ts1, w_and, w_or, w_not, w_tru, w_val, w_if, w_nilA, w_consA, w_tup, w_lst, w_imm, w_frzM, w_immF, w_frz, w_getS, w_lenS, w_len, w_noF, w_someF, w_cut, w_slotM, w_tupFM, w_lenOfM, w_srtFM, w_call, w_arNil, w_arE, w_arS, w_nx, w_seq, w_set, w_setM, w_asg, w_ret, w_retM, w_drop, w_ifS, w_retN, w_bk, w_ct, w_app, w_put, w_aug, w_for, w_it, w_rng1, w_rng2, w_enum, w_zip, wG_name, wG_tup, w_def, yes_some, yes_none, yes_bind, yes_map, yes_ite, slot, List.getElem?_cons_zero, List.getElem?_cons_succ, List.getElem?_nil, Option.getD_some, Option.getD_none, List.set_cons_zero, List.set_cons_succ, List.set_nil, List.map_cons, List.map_nil, List.cons_append, List.nil_append, List.length_cons, List.length_nil, List.replicate, Option.some.injEq, M.imm.injEq, exists_eq_left, exists_eq_left', datM, immD, frzE, isL, putI, retM, backM, putArgs, getM, intO, itemsD, seqItems, lstItems, List.append_nil, Option.map_some, Option.map_none, Option.bind_some, Option.bind_none, Bool.false_eq_true, if_true, if_false, Nat.reduceAdd, Nat.reduceSub, ↓reduceIte, and_true, true_and, reduceCtorEq, decide_eq_true_eq, addD, subD, mulD, divD, modD, pow_18, negD, intD, ltD, leD, gtD, geD, isND, isnotND, VD.getD, lenD, lenM, cutD, truD, atL_0, atL_1, atL_2, atL_3, atL_4, ix2_0, ix2_1, scountD, min2D, max2D, rng1D, rng2D, Bool.not_true]
        exact ⟨_, rfl⟩
      · rintro e ⟨o, rfl⟩
        simp only [w_var, w_c, w_op2, w_op1, w_ts2, w_ts1, w_and, w_or, w_not, w_tru, w_val, w_if, w_nilA, w_consA, w_tup, w_lst, w_imm, w_frzM, w_immF, w_frz, w_getS, w_lenS, w_len, w_noF, w_someF, w_cut, w_slotM, w_tupFM, w_lenOfM, w_srtFM, w_call, w_arNil, w_arE, w_arS, w_nx, w_seq, w_set, w_setM, w_asg, w_ret, w_retM, w_drop, w_ifS, w_retN, w_bk, w_ct, w_app, w_put, w_aug, w_for, w_it, w_rng1, w_rng2, w_enum, w_zip, wG_name, wG_tup, w_def, yes_some, yes_none, yes_bind, yes_map, yes_ite, slot, List.getElem?_cons_zero, List.getElem?_cons_succ, List.getElem?_nil, Option.getD_some, Option.getD_none, List.set_cons_zero, List.set_cons_succ, List.set_nil, List.map_cons, List.map_nil, List.cons_append, List.nil_append, List.length_cons, List.length_nil, List.replicate, Option.some.injEq, M.imm.injEq, exists_eq_left, exists_eq_left', datM, immD, frzE, isL, putI, retM, backM, putArgs, getM, intO, itemsD, seqItems, lstItems, List.append_nil, Option.map_some, Option.map_none, Option.bind_some, Option.bind_none, Bool.false_eq_true, if_true, if_false, Nat.reduceAdd, Nat.reduceSub, ↓reduceIte, and_true, true_and, reduceCtorEq, decide_eq_true_eq, addD, subD, mulD, divD, modD, pow_18, negD, intD, ltD, leD, gtD, geD, isND, isnotND, VD.getD, lenD, lenM, cutD, truD, atL_0, atL_1, atL_2, atL_3, atL_4, ix2_0, ix2_1, scountD, min2D, max2D, rng1D, rng2D]
theorem class_ok {L ps} (ha : AlOk L ps) {w : List Nat} (hw : Wd L w) (hl : w.length ≤ 8) : wpF f__law_class [.imm (Al L ps), .imm (.str w)] fun r l => (∃ S : List (List Nat), r = .imm (.lst (S.map .str)) ∧ S.Nodup ∧ ∀ u, u ∈ S ↔ Rch (fr ps) w u) ∧ l = [.imm (Al L ps), .imm (.str w)] := by
  have bound := pow_small ha.len hl
  simp only [f__law_class, b__law_class, w_def]
  refine seq_mid (fun e => e = [some (.imm (Al L ps)), some (.imm (.str w)), some (.lst [.str w]), none, none, none, none, none]) ?_ ?_
  · simp only [w_var, w_c, w_op2, w_op1, w_ts2, w_ts1, w_and, w_or, w_not, w_tru, w_val, w_if, w_nilA, w_consA, w_tup, w_lst, w_imm, w_frzM, w_immF, w_frz, w_getS, w_lenS, w_len, w_noF, w_someF, w_cut, w_slotM, w_tupFM, w_lenOfM, w_srtFM, w_call, w_arNil, w_arE, w_arS, w_nx, w_seq, w_set, w_setM, w_asg, w_ret, w_retM, w_drop, w_ifS, w_retN, w_bk, w_ct, w_app, w_put, w_aug, w_for, w_it, w_rng1, w_rng2, w_enum, w_zip, wG_name, wG_tup, w_def, yes_some, yes_none, yes_bind, yes_map, yes_ite, slot, List.getElem?_cons_zero, List.getElem?_cons_succ, List.getElem?_nil, Option.getD_some, Option.getD_none, List.set_cons_zero, List.set_cons_succ, List.set_nil, List.map_cons, List.map_nil, List.cons_append, List.nil_append, List.length_cons, List.length_nil, List.replicate, Option.some.injEq, M.imm.injEq, exists_eq_left, exists_eq_left', datM, immD, frzE, isL, putI, retM, backM, putArgs, getM, intO, itemsD, seqItems, lstItems, List.append_nil, Option.map_some, Option.map_none, Option.bind_some, Option.bind_none, Bool.false_eq_true, if_true, if_false, Nat.reduceAdd, Nat.reduceSub, ↓reduceIte, and_true, true_and, reduceCtorEq, decide_eq_true_eq, addD, subD, mulD, divD, modD, pow_18, negD, intD, ltD, leD, gtD, geD, isND, isnotND, VD.getD, lenD, lenM, cutD, truD, atL_0, atL_1, atL_2, atL_3, atL_4, ix2_0, ix2_1, scountD, min2D, max2D, rng1D, rng2D]; decide
  rintro e rfl
  refine seq_mid (fun e => e = [some (.imm (Al L ps)), some (.imm (.str w)), some (.lst [.str w]), some (.imm (.int 0)), none, none, none, none]) ?_ ?_
  · simp only [w_var, w_c, w_op2, w_op1, w_ts2, w_ts1, w_and, w_or, w_not, w_tru, w_val, w_if, w_nilA, w_consA, w_tup, w_lst, w_imm, w_frzM, w_immF, w_frz, w_getS, w_lenS, w_len, w_noF, w_someF, w_cut, w_slotM, w_tupFM, w_lenOfM, w_srtFM, w_call, w_arNil, w_arE, w_arS, w_nx, w_seq, w_set, w_setM, w_asg, w_ret, w_retM, w_drop, w_ifS, w_retN, w_bk, w_ct, w_app, w_put, w_aug, w_for, w_it, w_rng1, w_rng2, w_enum, w_zip, wG_name, wG_tup, w_def, yes_some, yes_none, yes_bind, yes_map, yes_ite, slot, List.getElem?_cons_zero, List.getElem?_cons_succ, List.getElem?_nil, Option.getD_some, Option.getD_none, List.set_cons_zero, List.set_cons_succ, List.set_nil, List.map_cons, List.map_nil, List.cons_append, List.nil_append, List.length_cons, List.length_nil, List.replicate, Option.some.injEq, M.imm.injEq, exists_eq_left, exists_eq_left', datM, immD, frzE, isL, putI, retM, backM, putArgs, getM, intO, itemsD, seqItems, lstItems, List.append_nil, Option.map_some, Option.map_none, Option.bind_some, Option.bind_none, Bool.false_eq_true, if_true, if_false, Nat.reduceAdd, Nat.reduceSub, ↓reduceIte, and_true, true_and, reduceCtorEq, decide_eq_true_eq, addD, subD, mulD, divD, modD, pow_18, negD, intD, ltD, leD, gtD, geD, isND, isnotND, VD.getD, lenD, lenM, cutD, truD, atL_0, atL_1, atL_2, atL_3, atL_4, ix2_0, ix2_1, scountD, min2D, max2D, rng1D, rng2D]
  rintro e rfl
  refine seq_mid (fun e => e = [some (.imm (Al L ps)), some (.imm (.str w)), some (.lst [.str w]), some (.imm (.int 0)), some (.dct [(.str w, .bl true)]), none, none, none]) ?_ ?_
  · simp only [w_done1, w_var, w_c, w_op2, w_op1, w_ts2, w_ts1, w_and, w_or, w_not, w_tru, w_val, w_if, w_nilA, w_consA, w_tup, w_lst, w_imm, w_frzM, w_immF, w_frz, w_getS, w_lenS, w_len, w_noF, w_someF, w_cut, w_slotM, w_tupFM, w_lenOfM, w_srtFM, w_call, w_arNil, w_arE, w_arS, w_nx, w_seq, w_set, w_setM, w_asg, w_ret, w_retM, w_drop, w_ifS, w_retN, w_bk, w_ct, w_app, w_put, w_aug, w_for, w_it, w_rng1, w_rng2, w_enum, w_zip, wG_name, wG_tup, w_def, yes_some, yes_none, yes_bind, yes_map, yes_ite, slot, List.getElem?_cons_zero, List.getElem?_cons_succ, List.getElem?_nil, Option.getD_some, Option.getD_none, List.set_cons_zero, List.set_cons_succ, List.set_nil, List.map_cons, List.map_nil, List.cons_append, List.nil_append, List.length_cons, List.length_nil, List.replicate, Option.some.injEq, M.imm.injEq, exists_eq_left, exists_eq_left', datM, immD, frzE, isL, putI, retM, backM, putArgs, getM, intO, itemsD, seqItems, lstItems, List.append_nil, Option.map_some, Option.map_none, Option.bind_some, Option.bind_none, Bool.false_eq_true, if_true, if_false, Nat.reduceAdd, Nat.reduceSub, ↓reduceIte, and_true, true_and, reduceCtorEq, decide_eq_true_eq, addD, subD, mulD, divD, modD, pow_18, negD, intD, ltD, leD, gtD, geD, isND, isnotND, VD.getD, lenD, lenM, cutD, truD, atL_0, atL_1, atL_2, atL_3, atL_4, ix2_0, ix2_1, scountD, min2D, max2D, rng1D, rng2D, fltK]
  rintro e rfl
  refine seq_mid (fun e => ∃ (S : List (List Nat)) (o3 o4 o5 o6 o7 : Option M), S.Nodup ∧ (∀ u, u ∈ S ↔ Rch (fr ps) w u) ∧ e = [some (.imm (Al L ps)), some (.imm (.str w)), some (.lst (S.map .str)), o3, o4, o5, o6, o7]) ?_ ?_
  · refine while_inv (fun n e => ∃ (S : List (List Nat)) (k : Nat) (o5 o6 o7 : Option M), CI ps w S k ∧ n + k = fuel ∧ e = [some (.imm (Al L ps)), some (.imm (.str w)), some (.lst (S.map .str)), some (.imm (.int k)), some (.dct (kn S)), o5, o6, o7]) ⟨[w], 0, none, none, none, ⟨Nat.zero_le _, by simp, by simp, fun u hu => by rw [List.mem_singleton.mp hu]; exact .refl _, fun i hi => absurd hi (Nat.not_lt_zero _)⟩, rfl, rfl⟩ ?_
    rintro n e ⟨S, k, o5, o6, o7, ci, hn, rfl⟩
    have hS : S.length ≤ 1679616 := Nat.le_trans (ci.len hw) bound
    have hf : fuel = 10000000 := rfl
    simp only [w_ts2, w_var, w_lenS, slot, List.getElem?_cons_zero, List.getElem?_cons_succ, List.getElem?_nil, Option.getD_some, Option.getD_none, List.set_cons_zero, List.set_cons_succ, List.set_nil, List.map_cons, List.map_nil, List.cons_append, List.nil_append, List.length_cons, List.length_nil, List.replicate, Option.some.injEq, M.imm.injEq, exists_eq_left, exists_eq_left', datM, immD, frzE, isL, putI, retM, backM, putArgs, getM, intO, itemsD, seqItems, lstItems, List.append_nil, Option.map_some, Option.map_none, Option.bind_some, Option.bind_none, Bool.false_eq_true, if_true, if_false, Nat.reduceAdd, Nat.reduceSub, ↓reduceIte, and_true, true_and, reduceCtorEq, decide_eq_true_eq, addD, subD, mulD, divD, modD, pow_18, negD, intD, ltD, leD, gtD, geD, isND, isnotND, VD.getD, lenD, lenM, cutD, truD, atL_0, atL_1, atL_2, atL_3, atL_4, ix2_0, ix2_1, scountD, min2D, max2D, rng1D, rng2D, yes_some, List.length_map]
    split
    · rename_i hlt
      have hlt : k < S.length := by omega
      refine ⟨n - 1, by omega, ?_⟩
      have e1 : (S.map D.str)[k]? = some (.str S[k]) := by simp [hlt]
      have hr := ci.rch S[k] (List.getElem_mem hlt)
      have hul : S[k].length = w.length := hr.perm.length_eq
      have lb : S[k].length ≤ big := by unfold big; omega
      refine seq_mid (fun e => e = [some (.imm (Al L ps)), some (.imm (.str w)), some (.lst (S.map .str)), some (.imm (.int k)), some (.dct (kn S)), some (.imm (.str S[k])), o6, o7]) ?_ ?_
      · simp only [w_var, w_c, w_op2, w_op1, w_ts2, w_ts1, w_and, w_or, w_not, w_tru, w_val, w_if, w_nilA, w_consA, w_tup, w_lst, w_imm, w_frzM, w_immF, w_frz, w_getS, w_lenS, w_len, w_noF, w_someF, w_cut, w_slotM, w_tupFM, w_lenOfM, w_srtFM, w_call, w_arNil, w_arE, w_arS, w_nx, w_seq, w_set, w_setM, w_asg, w_ret, w_retM, w_drop, w_ifS, w_retN, w_bk, w_ct, w_app, w_put, w_aug, w_for, w_it, w_rng1, w_rng2, w_enum, w_zip, wG_name, wG_tup, w_def, yes_some, yes_none, yes_bind, yes_map, yes_ite, slot, List.getElem?_cons_zero, List.getElem?_cons_succ, List.getElem?_nil, Option.getD_some, Option.getD_none, List.set_cons_zero, List.set_cons_succ, List.set_nil, List.map_cons, List.map_nil, List.cons_append, List.nil_append, List.length_cons, List.length_nil, List.replicate, Option.some.injEq, M.imm.injEq, exists_eq_left, exists_eq_left', datM, immD, frzE, isL, putI, retM, backM, putArgs, getM, intO, itemsD, seqItems, lstItems, List.append_nil, Option.map_some, Option.map_none, Option.bind_some, Option.bind_none, Bool.false_eq_true, if_true, if_false, Nat.reduceAdd, Nat.reduceSub, ↓reduceIte, and_true, true_and, reduceCtorEq, decide_eq_true_eq, addD, subD, mulD, divD, modD, pow_18, negD, intD, ltD, leD, gtD, geD, isND, isnotND, VD.getD, lenD, lenM, cutD, truD, atL_0, atL_1, atL_2, atL_3, atL_4, ix2_0, ix2_1, scountD, min2D, max2D, rng1D, rng2D, atL_nat e1]
      rintro e rfl
      refine seq_mid (fun e => e = [some (.imm (Al L ps)), some (.imm (.str w)), some (.lst (S.map .str)), some (.imm (.int ((k + 1 : Nat) : Int))), some (.dct (kn S)), some (.imm (.str S[k])), o6, o7]) ?_ ?_
      · simp only [w_var, w_c, w_op2, w_op1, w_ts2, w_ts1, w_and, w_or, w_not, w_tru, w_val, w_if, w_nilA, w_consA, w_tup, w_lst, w_imm, w_frzM, w_immF, w_frz, w_getS, w_lenS, w_len, w_noF, w_someF, w_cut, w_slotM, w_tupFM, w_lenOfM, w_srtFM, w_call, w_arNil, w_arE, w_arS, w_nx, w_seq, w_set, w_setM, w_asg, w_ret, w_retM, w_drop, w_ifS, w_retN, w_bk, w_ct, w_app, w_put, w_aug, w_for, w_it, w_rng1, w_rng2, w_enum, w_zip, wG_name, wG_tup, w_def, yes_some, yes_none, yes_bind, yes_map, yes_ite, slot, List.getElem?_cons_zero, List.getElem?_cons_succ, List.getElem?_nil, Option.getD_some, Option.getD_none, List.set_cons_zero, List.set_cons_succ, List.set_nil, List.map_cons, List.map_nil, List.cons_append, List.nil_append, List.length_cons, List.length_nil, List.replicate, Option.some.injEq, M.imm.injEq, exists_eq_left, exists_eq_left', datM, immD, frzE, isL, putI, retM, backM, putArgs, getM, intO, itemsD, seqItems, lstItems, List.append_nil, Option.map_some, Option.map_none, Option.bind_some, Option.bind_none, Bool.false_eq_true, if_true, if_false, Nat.reduceAdd, Nat.reduceSub, ↓reduceIte, and_true, true_and, reduceCtorEq, decide_eq_true_eq, addD, subD, mulD, divD, modD, pow_18, negD, intD, ltD, leD, gtD, geD, isND, isnotND, VD.getD, lenD, lenM, cutD, truD, atL_0, atL_1, atL_2, atL_3, atL_4, ix2_0, ix2_1, scountD, min2D, max2D, rng1D, rng2D]; rfl
      rintro e rfl
      simp only [w_for, w_rng1, w_op2, w_len, w_var, w_c, slot, List.getElem?_cons_zero, List.getElem?_cons_succ, List.getElem?_nil, Option.getD_some, Option.getD_none, List.set_cons_zero, List.set_cons_succ, List.set_nil, List.map_cons, List.map_nil, List.cons_append, List.nil_append, List.length_cons, List.length_nil, List.replicate, Option.some.injEq, M.imm.injEq, exists_eq_left, exists_eq_left', datM, immD, frzE, isL, putI, retM, backM, putArgs, getM, intO, itemsD, seqItems, lstItems, List.append_nil, Option.map_some, Option.map_none, Option.bind_some, Option.bind_none, Bool.false_eq_true, if_true, if_false, Nat.reduceAdd, Nat.reduceSub, ↓reduceIte, and_true, true_and, reduceCtorEq, decide_eq_true_eq, addD, subD, mulD, divD, modD, pow_18, negD, intD, ltD, leD, gtD, geD, isND, isnotND, VD.getD, lenD, lenM, cutD, truD, atL_0, atL_1, atL_2, atL_3, atL_4, ix2_0, ix2_1, scountD, min2D, max2D, rng1D, rng2D, yes_some, yes_ite]
      refine ⟨lb, by unfold two62; omega, ?_⟩
      refine for_inv (fun j e => ∃ (T : List (List Nat)) (o6 o7 : Option M), CJ ps w T k S[k] j ∧ e = [some (.imm (Al L ps)), some (.imm (.str w)), some (.lst (T.map .str)), some (.imm (.int ((k + 1 : Nat) : Int))), some (.dct (kn T)), some (.imm (.str S[k])), o6, o7]) ⟨S, _, _, ⟨ci.nd, ci.st, ci.rch, ci.done, List.getElem?_eq_getElem hlt, fun j hj => absurd hj (Nat.not_lt_zero _)⟩, rfl⟩ ?_ ?_
      · rintro j d e hj ⟨T, o6, o7, cj, rfl⟩
        obtain ⟨hj2, rfl⟩ := upto_get _ _ _ _ hj
        have hT : T.length ≤ 1679616 := Nat.le_trans (cj.len hw) bound
        have hj3 : j + 1 < S[k].length := by omega
        have e1 : S[k][j]? = some S[k][j] := List.getElem?_eq_getElem (by omega)
        have e2 : S[k][j + 1]? = some S[k][j + 1] := List.getElem?_eq_getElem hj3
        have c0 : (0 : Int) + (j : Int) = (j : Int) := by omega
        have c1 : (j : Int) + 1 = ((j + 1 : Nat) : Int) := by push_cast; rfl
        have c2 : (j : Int) + 2 = ((j + 2 : Nat) : Int) := by push_cast; rfl
        rw [wG_name]
        simp only [w_notInDS, w_putK, w_var, w_c, w_op2, w_op1, w_ts2, w_ts1, w_and, w_or, w_not, w_tru, w_val, w_if, w_nilA, w_consA, w_tup, w_lst, w_imm, w_frzM, w_immF, w_frz, w_getS, w_lenS, w_len, w_noF, w_someF, w_cut, w_slotM, w_tupFM, w_lenOfM, w_srtFM, w_call, w_arNil, w_arE, w_arS, w_nx, w_seq, w_set, w_setM, w_asg, w_ret, w_retM, w_drop, w_ifS, w_retN, w_bk, w_ct, w_app, w_put, w_aug, w_for, w_it, w_rng1, w_rng2, w_enum, w_zip, wG_name, wG_tup, w_def, yes_some, yes_none, yes_bind, yes_map, yes_ite, slot, List.getElem?_cons_zero, List.getElem?_cons_succ, List.getElem?_nil, Option.getD_some, Option.getD_none, List.set_cons_zero, List.set_cons_succ, List.set_nil, List.map_cons, List.map_nil, List.cons_append, List.nil_append, List.length_cons, List.length_nil, List.replicate, Option.some.injEq, M.imm.injEq, exists_eq_left, exists_eq_left', datM, immD, frzE, isL, putI, retM, backM, putArgs, getM, intO, itemsD, seqItems, lstItems, List.append_nil, Option.map_some, Option.map_none, Option.bind_some, Option.bind_none, Bool.false_eq_true, if_true, if_false, Nat.reduceAdd, Nat.reduceSub, ↓reduceIte, and_true, true_and, reduceCtorEq, decide_eq_true_eq, addD, subD, mulD, divD, modD, pow_18, negD, intD, ltD, leD, gtD, geD, isND, isnotND, VD.getD, lenD, lenM, cutD, truD, atL_0, atL_1, atL_2, atL_3, atL_4, ix2_0, ix2_1, scountD, min2D, max2D, rng1D, rng2D, c0, c1, c2, atL_nat e1, atL_nat e2, lb]
        refine wpF_mono free_ok ?_
        rintro r l ⟨rfl, rfl⟩
        simp only [w_notInDS, w_putK, w_var, w_c, w_op2, w_op1, w_ts2, w_ts1, w_and, w_or, w_not, w_tru, w_val, w_if, w_nilA, w_consA, w_tup, w_lst, w_imm, w_frzM, w_immF, w_frz, w_getS, w_lenS, w_len, w_noF, w_someF, w_cut, w_slotM, w_tupFM, w_lenOfM, w_srtFM, w_call, w_arNil, w_arE, w_arS, w_nx, w_seq, w_set, w_setM, w_asg, w_ret, w_retM, w_drop, w_ifS, w_retN, w_bk, w_ct, w_app, w_put, w_aug, w_for, w_it, w_rng1, w_rng2, w_enum, w_zip, wG_name, wG_tup, w_def, yes_some, yes_none, yes_bind, yes_map, yes_ite, slot, List.getElem?_cons_zero, List.getElem?_cons_succ, List.getElem?_nil, Option.getD_some, Option.getD_none, List.set_cons_zero, List.set_cons_succ, List.set_nil, List.map_cons, List.map_nil, List.cons_append, List.nil_append, List.length_cons, List.length_nil, List.replicate, Option.some.injEq, M.imm.injEq, exists_eq_left, exists_eq_left', datM, immD, frzE, isL, putI, retM, backM, putArgs, getM, intO, itemsD, seqItems, lstItems, List.append_nil, Option.map_some, Option.map_none, Option.bind_some, Option.bind_none, Bool.false_eq_true, if_true, if_false, Nat.reduceAdd, Nat.reduceSub, ↓reduceIte, and_true, true_and, reduceCtorEq, decide_eq_true_eq, addD, subD, mulD, divD, modD, pow_18, negD, intD, ltD, leD, gtD, geD, isND, isnotND, VD.getD, lenD, lenM, cutD, truD, atL_0, atL_1, atL_2, atL_3, atL_4, ix2_0, ix2_1, scountD, min2D, max2D, rng1D, rng2D, c0, c1, c2, atL_nat e1, atL_nat e2, cut_to, cut_from, lb, isDct]
        have et : List.take j S[k] ++ [S[k][j + 1]] ++ [S[k][j]] ++ List.drop (j + 2) S[k] = turn S[k] j hj3 := by simp [turn]
        split
        · rename_i hfr
          simp only [et, kn_ok, kn_any, yes_some]
          refine ⟨by unfold big; simp; omega, by unfold big; simp; omega, by unfold big; simp; omega, ?_⟩
          split
          · rename_i hno
            have hno : turn S[k] j hj3 ∉ T := by simpa using hno
            have kl : (kn T).length = T.length := by simp [kn]
            have kk : keyOk (kn T) (.str (turn S[k] j hj3)) = true := by
              unfold keyOk kn
              simp [fltK, List.all_map]
            refine ⟨⟨kk, by rw [kl]; unfold big; omega⟩, by simp [big]; omega, T ++ [turn S[k] j hj3], some (.imm (.int j)), some (.imm (.str (turn S[k] j hj3))), cj.add hno (turn_rch hj3 hfr hr) fun _ => rfl, ?_⟩
            rw [kn_put _ _ hno]
            simp
          · rename_i hyes
            have hyes : turn S[k] j hj3 ∈ T := by simpa using hyes
            exact ⟨T, _, _, cj.next fun _ _ => hyes, rfl⟩
        · rename_i hfr
          exact ⟨T, _, _, cj.next fun h hf => absurd hf hfr, rfl⟩
      · rintro e ⟨T, o6, o7, cj, rfl⟩
        rw [upto_len] at cj
        have : ((S[k].length : Int) - 1).toNat = S[k].length - 1 := by omega
        rw [this] at cj
        exact ⟨T, k + 1, _, _, _, cj.fin, by omega, rfl⟩
    · rename_i hlt
      have : k = S.length := by have := ci.le; omega
      subst this
      exact ⟨by omega, S, _, _, _, _, _, ci.nd, ci.all, rfl⟩
  rintro e ⟨S, o3, o4, o5, o6, o7, hnd, hS, rfl⟩
  simp only [w_var, w_c, w_op2, w_op1, w_ts2, w_ts1, w_and, w_or, w_not, w_tru, w_val, w_if, w_nilA, w_consA, w_tup, w_lst, w_imm, w_frzM, w_immF, w_frz, w_getS, w_lenS, w_len, w_noF, w_someF, w_cut, w_slotM, w_tupFM, w_lenOfM, w_srtFM, w_call, w_arNil, w_arE, w_arS, w_nx, w_seq, w_set, w_setM, w_asg, w_ret, w_retM, w_drop, w_ifS, w_retN, w_bk, w_ct, w_app, w_put, w_aug, w_for, w_it, w_rng1, w_rng2, w_enum, w_zip, wG_name, wG_tup, w_def, yes_some, yes_none, yes_bind, yes_map, yes_ite, slot, List.getElem?_cons_zero, List.getElem?_cons_succ, List.getElem?_nil, Option.getD_some, Option.getD_none, List.set_cons_zero, List.set_cons_succ, List.set_nil, List.map_cons, List.map_nil, List.cons_append, List.nil_append, List.length_cons, List.length_nil, List.replicate, Option.some.injEq, M.imm.injEq, exists_eq_left, exists_eq_left', datM, immD, frzE, isL, putI, retM, backM, putArgs, getM, intO, itemsD, seqItems, lstItems, List.append_nil, Option.map_some, Option.map_none, Option.bind_some, Option.bind_none, Bool.false_eq_true, if_true, if_false, Nat.reduceAdd, Nat.reduceSub, ↓reduceIte, and_true, true_and, reduceCtorEq, decide_eq_true_eq, addD, subD, mulD, divD, modD, pow_18, negD, intD, ltD, leD, gtD, geD, isND, isnotND, VD.getD, lenD, lenM, cutD, truD, atL_0, atL_1, atL_2, atL_3, atL_4, ix2_0, ix2_1, scountD, min2D, max2D, rng1D, rng2D]
  exact ⟨S, rfl, hnd, hS⟩
section
variable {L : List Nat} {ps : List (List Nat)}
theorem free2_ok (ha : AlOk L ps) {w v : List Nat} (hw : w.length ≤ 100) (hv : v.length ≤ 100) : wpF f_free [.imm (Al L ps), .imm (.str w), .imm (.str v)] fun r l => r = .imm (.bl (w.all fun x => v.all fun y => fr ps x y)) ∧ l = [.imm (Al L ps), .imm (.str w), .imm (.str v)] := by
  simp only [f_free, b_free, w_var, w_c, w_op2, w_op1, w_ts2, w_ts1, w_and, w_or, w_not, w_tru, w_val, w_if, w_nilA, w_consA, w_tup, w_lst, w_imm, w_frzM, w_immF, w_frz, w_getS, w_lenS, w_len, w_noF, w_someF, w_cut, w_slotM, w_tupFM, w_lenOfM, w_srtFM, w_call, w_arNil, w_arE, w_arS, w_nx, w_seq, w_set, w_setM, w_asg, w_ret, w_retM, w_drop, w_ifS, w_retN, w_bk, w_ct, w_app, w_put, w_aug, w_for, w_it, w_rng1, w_rng2, w_enum, w_zip, wG_name, wG_tup, w_def, yes_some, yes_none, yes_bind, yes_map, yes_ite, slot, List.getElem?_cons_zero, List.getElem?_cons_succ, List.getElem?_nil, Option.getD_some, Option.getD_none, List.set_cons_zero, List.set_cons_succ, List.set_nil, List.map_cons, List.map_nil, List.cons_append, List.nil_append, List.length_cons, List.length_nil, List.replicate, Option.some.injEq, M.imm.injEq, exists_eq_left, exists_eq_left', datM, immD, frzE, isL, putI, retM, backM, putArgs, getM, intO, itemsD, seqItems, lstItems, List.append_nil, Option.map_some, Option.map_none, Option.bind_some, Option.bind_none, Bool.false_eq_true, if_true, if_false, Nat.reduceAdd, Nat.reduceSub, ↓reduceIte, and_true, true_and, reduceCtorEq, decide_eq_true_eq, addD, subD, mulD, divD, modD, pow_18, negD, intD, ltD, leD, gtD, geD, isND, isnotND, VD.getD, lenD, lenM, cutD, truD, atL_0, atL_1, atL_2, atL_3, atL_4, ix2_0, ix2_1, scountD, min2D, max2D, rng1D, rng2D, w_yesT, w_comp, w_dc, w_all1, w_any1, w_all2, w_any2, w_tupG1, w_tupG2, w_joinG1, w_getDS, w_itemS, w_inDS, w_notInDS, w_done1, w_putK, w_dnew, w_inR, w_notInR, w_lstFM, wipeE, backE, keepO, namesG, sepD, inRM, dctM, isDct, augAdd]
  obtain ⟨l, hl⟩ := gen2_all (g := nameG 3) (t := yesT) (it1 := itF (varF 2)) (g1 := nameG 4) (t1 := yesT) (x := immF (callM f_independent [.e (varF 0), .e (varF 3), .e (varF 4)])) (own := [3, 4]) (own1 := [4]) (e0 := [some (.imm (Al L ps)), some (.imm (.str w)), some (.imm (.str v)), none, none])
    (fun d => match d with | .str [x] => v.map fun y => fr ps x y | _ => []) (ds := sg w) (fun d hd => by
      obtain ⟨x, hx, rfl⟩ := List.mem_map.mp hd
      simp only [turn2, w_var, w_c, w_op2, w_op1, w_ts2, w_ts1, w_and, w_or, w_not, w_tru, w_val, w_if, w_nilA, w_consA, w_tup, w_lst, w_imm, w_frzM, w_immF, w_frz, w_getS, w_lenS, w_len, w_noF, w_someF, w_cut, w_slotM, w_tupFM, w_lenOfM, w_srtFM, w_call, w_arNil, w_arE, w_arS, w_nx, w_seq, w_set, w_setM, w_asg, w_ret, w_retM, w_drop, w_ifS, w_retN, w_bk, w_ct, w_app, w_put, w_aug, w_for, w_it, w_rng1, w_rng2, w_enum, w_zip, wG_name, wG_tup, w_def, yes_some, yes_none, yes_bind, yes_map, yes_ite, slot, List.getElem?_cons_zero, List.getElem?_cons_succ, List.getElem?_nil, Option.getD_some, Option.getD_none, List.set_cons_zero, List.set_cons_succ, List.set_nil, List.map_cons, List.map_nil, List.cons_append, List.nil_append, List.length_cons, List.length_nil, List.replicate, Option.some.injEq, M.imm.injEq, exists_eq_left, exists_eq_left', datM, immD, frzE, isL, putI, retM, backM, putArgs, getM, intO, itemsD, seqItems, lstItems, List.append_nil, Option.map_some, Option.map_none, Option.bind_some, Option.bind_none, Bool.false_eq_true, if_true, if_false, Nat.reduceAdd, Nat.reduceSub, ↓reduceIte, and_true, true_and, reduceCtorEq, decide_eq_true_eq, addD, subD, mulD, divD, modD, pow_18, negD, intD, ltD, leD, gtD, geD, isND, isnotND, VD.getD, lenD, lenM, cutD, truD, atL_0, atL_1, atL_2, atL_3, atL_4, ix2_0, ix2_1, scountD, min2D, max2D, rng1D, rng2D, w_yesT, w_comp, w_dc, w_all1, w_any1, w_all2, w_any2, w_tupG1, w_tupG2, w_joinG1, w_getDS, w_itemS, w_inDS, w_notInDS, w_done1, w_putK, w_dnew, w_inR, w_notInR, w_lstFM, wipeE, backE, keepO, namesG, sepD, inRM, dctM, isDct, augAdd]
      refine ⟨fun d => match d with | .str [y] => some (.bl (fr ps x y)) | _ => none, ?_, ?_⟩
      · rw [List.filterMap_map, List.map_map]
        have : ((fun d => match d with | D.str [y] => some (D.bl (fr ps x y)) | _ => none) ∘ fun c => D.str [c]) = fun y => some (D.bl (fr ps x y)) := rfl
        rw [this, fm_some]
        rfl
      · intro d1 hd1
        obtain ⟨y, hy, rfl⟩ := List.mem_map.mp hd1
        simp only [turn1, w_var, w_c, w_op2, w_op1, w_ts2, w_ts1, w_and, w_or, w_not, w_tru, w_val, w_if, w_nilA, w_consA, w_tup, w_lst, w_imm, w_frzM, w_immF, w_frz, w_getS, w_lenS, w_len, w_noF, w_someF, w_cut, w_slotM, w_tupFM, w_lenOfM, w_srtFM, w_call, w_arNil, w_arE, w_arS, w_nx, w_seq, w_set, w_setM, w_asg, w_ret, w_retM, w_drop, w_ifS, w_retN, w_bk, w_ct, w_app, w_put, w_aug, w_for, w_it, w_rng1, w_rng2, w_enum, w_zip, wG_name, wG_tup, w_def, yes_some, yes_none, yes_bind, yes_map, yes_ite, slot, List.getElem?_cons_zero, List.getElem?_cons_succ, List.getElem?_nil, Option.getD_some, Option.getD_none, List.set_cons_zero, List.set_cons_succ, List.set_nil, List.map_cons, List.map_nil, List.cons_append, List.nil_append, List.length_cons, List.length_nil, List.replicate, Option.some.injEq, M.imm.injEq, exists_eq_left, exists_eq_left', datM, immD, frzE, isL, putI, retM, backM, putArgs, getM, intO, itemsD, seqItems, lstItems, List.append_nil, Option.map_some, Option.map_none, Option.bind_some, Option.bind_none, Bool.false_eq_true, if_true, if_false, Nat.reduceAdd, Nat.reduceSub, ↓reduceIte, and_true, true_and, reduceCtorEq, decide_eq_true_eq, addD, subD, mulD, divD, modD, pow_18, negD, intD, ltD, leD, gtD, geD, isND, isnotND, VD.getD, lenD, lenM, cutD, truD, atL_0, atL_1, atL_2, atL_3, atL_4, ix2_0, ix2_1, scountD, min2D, max2D, rng1D, rng2D, w_yesT, w_comp, w_dc, w_all1, w_any1, w_all2, w_any2, w_tupG1, w_tupG2, w_joinG1, w_getDS, w_itemS, w_inDS, w_notInDS, w_done1, w_putK, w_dnew, w_inR, w_notInR, w_lstFM, wipeE, backE, keepO, namesG, sepD, inRM, dctM, isDct, augAdd]
        refine wpF_mono (independent_ok ha) ?_
        rintro r l ⟨rfl, rfl⟩
        simp only [w_var, w_c, w_op2, w_op1, w_ts2, w_ts1, w_and, w_or, w_not, w_tru, w_val, w_if, w_nilA, w_consA, w_tup, w_lst, w_imm, w_frzM, w_immF, w_frz, w_getS, w_lenS, w_len, w_noF, w_someF, w_cut, w_slotM, w_tupFM, w_lenOfM, w_srtFM, w_call, w_arNil, w_arE, w_arS, w_nx, w_seq, w_set, w_setM, w_asg, w_ret, w_retM, w_drop, w_ifS, w_retN, w_bk, w_ct, w_app, w_put, w_aug, w_for, w_it, w_rng1, w_rng2, w_enum, w_zip, wG_name, wG_tup, w_def, yes_some, yes_none, yes_bind, yes_map, yes_ite, slot, List.getElem?_cons_zero, List.getElem?_cons_succ, List.getElem?_nil, Option.getD_some, Option.getD_none, List.set_cons_zero, List.set_cons_succ, List.set_nil, List.map_cons, List.map_nil, List.cons_append, List.nil_append, List.length_cons, List.length_nil, List.replicate, Option.some.injEq, M.imm.injEq, exists_eq_left, exists_eq_left', datM, immD, frzE, isL, putI, retM, backM, putArgs, getM, intO, itemsD, seqItems, lstItems, List.append_nil, Option.map_some, Option.map_none, Option.bind_some, Option.bind_none, Bool.false_eq_true, if_true, if_false, Nat.reduceAdd, Nat.reduceSub, ↓reduceIte, and_true, true_and, reduceCtorEq, decide_eq_true_eq, addD, subD, mulD, divD, modD, pow_18, negD, intD, ltD, leD, gtD, geD, isND, isnotND, VD.getD, lenD, lenM, cutD, truD, atL_0, atL_1, atL_2, atL_3, atL_4, ix2_0, ix2_1, scountD, min2D, max2D, rng1D, rng2D, w_yesT, w_comp, w_dc, w_all1, w_any1, w_all2, w_any2, w_tupG1, w_tupG2, w_joinG1, w_getDS, w_itemS, w_inDS, w_notInDS, w_done1, w_putK, w_dnew, w_inR, w_notInR, w_lstFM, wipeE, backE, keepO, namesG, sepD, inRM, dctM, isDct, augAdd])
  have e : (sg w) = w.map fun c => D.str [c] := rfl
  rw [e] at hl
  rw [hl]
  simp only [w_var, w_c, w_op2, w_op1, w_ts2, w_ts1, w_and, w_or, w_not, w_tru, w_val, w_if, w_nilA, w_consA, w_tup, w_lst, w_imm, w_frzM, w_immF, w_frz, w_getS, w_lenS, w_len, w_noF, w_someF, w_cut, w_slotM, w_tupFM, w_lenOfM, w_srtFM, w_call, w_arNil, w_arE, w_arS, w_nx, w_seq, w_set, w_setM, w_asg, w_ret, w_retM, w_drop, w_ifS, w_retN, w_bk, w_ct, w_app, w_put, w_aug, w_for, w_it, w_rng1, w_rng2, w_enum, w_zip, wG_name, wG_tup, w_def, yes_some, yes_none, yes_bind, yes_map, yes_ite, slot, List.getElem?_cons_zero, List.getElem?_cons_succ, List.getElem?_nil, Option.getD_some, Option.getD_none, List.set_cons_zero, List.set_cons_succ, List.set_nil, List.map_cons, List.map_nil, List.cons_append, List.nil_append, List.length_cons, List.length_nil, List.replicate, Option.some.injEq, M.imm.injEq, exists_eq_left, exists_eq_left', datM, immD, frzE, isL, putI, retM, backM, putArgs, getM, intO, itemsD, seqItems, lstItems, List.append_nil, Option.map_some, Option.map_none, Option.bind_some, Option.bind_none, Bool.false_eq_true, if_true, if_false, Nat.reduceAdd, Nat.reduceSub, ↓reduceIte, and_true, true_and, reduceCtorEq, decide_eq_true_eq, addD, subD, mulD, divD, modD, pow_18, negD, intD, ltD, leD, gtD, geD, isND, isnotND, VD.getD, lenD, lenM, cutD, truD, atL_0, atL_1, atL_2, atL_3, atL_4, ix2_0, ix2_1, scountD, min2D, max2D, rng1D, rng2D, w_yesT, w_comp, w_dc, w_all1, w_any1, w_all2, w_any2, w_tupG1, w_tupG2, w_joinG1, w_getDS, w_itemS, w_inDS, w_notInDS, w_done1, w_putK, w_dnew, w_inR, w_notInR, w_lstFM, wipeE, backE, keepO, namesG, sepD, inRM, dctM, isDct, augAdd, Bool.not_not, List.all_map]
  congr 2
  funext x
  simp [List.all_map, Function.comp]
theorem firsts_ok (ha : AlOk L ps) {w : List Nat} (hw : w.length ≤ 100) : wpF f_firsts [.imm (Al L ps), .imm (.str w)] fun r l => r = .imm (.str (fst (fr ps) w)) ∧ l = [.imm (Al L ps), .imm (.str w)] := by
  have lb : w.length ≤ big := by unfold big; omega
  simp only [f_firsts, b_firsts, w_def]
  refine seq_mid (fun e => e = [some (.imm (Al L ps)), some (.imm (.str w)), some (.lst ((fsts (fr ps) w).map fun c => .str [c])), none, none]) ?_ ?_
  · simp only [w_var, w_c, w_op2, w_op1, w_ts2, w_ts1, w_and, w_or, w_not, w_tru, w_val, w_if, w_nilA, w_consA, w_tup, w_lst, w_imm, w_frzM, w_immF, w_frz, w_getS, w_lenS, w_len, w_noF, w_someF, w_cut, w_slotM, w_tupFM, w_lenOfM, w_srtFM, w_call, w_arNil, w_arE, w_arS, w_nx, w_seq, w_set, w_setM, w_asg, w_ret, w_retM, w_drop, w_ifS, w_retN, w_bk, w_ct, w_app, w_put, w_aug, w_for, w_it, w_rng1, w_rng2, w_enum, w_zip, wG_name, wG_tup, w_def, yes_some, yes_none, yes_bind, yes_map, yes_ite, slot, List.getElem?_cons_zero, List.getElem?_cons_succ, List.getElem?_nil, Option.getD_some, Option.getD_none, List.set_cons_zero, List.set_cons_succ, List.set_nil, List.map_cons, List.map_nil, List.cons_append, List.nil_append, List.length_cons, List.length_nil, List.replicate, Option.some.injEq, M.imm.injEq, exists_eq_left, exists_eq_left', datM, immD, frzE, isL, putI, retM, backM, putArgs, getM, intO, itemsD, seqItems, lstItems, List.append_nil, Option.map_some, Option.map_none, Option.bind_some, Option.bind_none, Bool.false_eq_true, if_true, if_false, Nat.reduceAdd, Nat.reduceSub, ↓reduceIte, and_true, true_and, reduceCtorEq, decide_eq_true_eq, addD, subD, mulD, divD, modD, pow_18, negD, intD, ltD, leD, gtD, geD, isND, isnotND, VD.getD, lenD, lenM, cutD, truD, atL_0, atL_1, atL_2, atL_3, atL_4, ix2_0, ix2_1, scountD, min2D, max2D, rng1D, rng2D, w_yesT, w_comp, w_dc, w_all1, w_any1, w_all2, w_any2, w_tupG1, w_tupG2, w_joinG1, w_getDS, w_itemS, w_inDS, w_notInDS, w_done1, w_putK, w_dnew, w_inR, w_notInR, w_lstFM, wipeE, backE, keepO, namesG, sepD, inRM, dctM, isDct, augAdd]
    have hf : (numd 0 (w.map fun c => D.str [c])).filterMap (fun d => match d with | .tup [.int i, .str [c]] => if ((w.take i.toNat).all fun y => fr ps c y) = true then some (D.str [c]) else none | _ => none) = (fsts (fr ps) w).map fun c => D.str [c] := by
      rw [numd_range, List.filterMap_map, List.length_map]
      unfold fsts
      rw [List.map_map, ← filterMap_if]
      refine filterMap_congr' fun i hi => ?_
      have hi := List.mem_range.mp hi
      have e : w[i]?.getD 0 = w[i] := by rw [List.getElem?_eq_getElem hi]; rfl
      simp only [Function.comp, List.getElem?_map, List.getElem?_eq_getElem hi, Option.map_some, Option.getD_some, Int.zero_add, Int.toNat_natCast]
    rw [comp_pure (fun d => match d with | .tup [.int i, .str [c]] => if ((w.take i.toNat).all fun y => fr ps c y) = true then some (.str [c]) else none | _ => none) (fun d hd => ?_) (by rw [numd_len, List.length_map]; simp; omega)]
    · simp only [w_var, w_c, w_op2, w_op1, w_ts2, w_ts1, w_and, w_or, w_not, w_tru, w_val, w_if, w_nilA, w_consA, w_tup, w_lst, w_imm, w_frzM, w_immF, w_frz, w_getS, w_lenS, w_len, w_noF, w_someF, w_cut, w_slotM, w_tupFM, w_lenOfM, w_srtFM, w_call, w_arNil, w_arE, w_arS, w_nx, w_seq, w_set, w_setM, w_asg, w_ret, w_retM, w_drop, w_ifS, w_retN, w_bk, w_ct, w_app, w_put, w_aug, w_for, w_it, w_rng1, w_rng2, w_enum, w_zip, wG_name, wG_tup, w_def, yes_some, yes_none, yes_bind, yes_map, yes_ite, slot, List.getElem?_cons_zero, List.getElem?_cons_succ, List.getElem?_nil, Option.getD_some, Option.getD_none, List.set_cons_zero, List.set_cons_succ, List.set_nil, List.map_cons, List.map_nil, List.cons_append, List.nil_append, List.length_cons, List.length_nil, List.replicate, Option.some.injEq, M.imm.injEq, exists_eq_left, exists_eq_left', datM, immD, frzE, isL, putI, retM, backM, putArgs, getM, intO, itemsD, seqItems, lstItems, List.append_nil, Option.map_some, Option.map_none, Option.bind_some, Option.bind_none, Bool.false_eq_true, if_true, if_false, Nat.reduceAdd, Nat.reduceSub, ↓reduceIte, and_true, true_and, reduceCtorEq, decide_eq_true_eq, addD, subD, mulD, divD, modD, pow_18, negD, intD, ltD, leD, gtD, geD, isND, isnotND, VD.getD, lenD, lenM, cutD, truD, atL_0, atL_1, atL_2, atL_3, atL_4, ix2_0, ix2_1, scountD, min2D, max2D, rng1D, rng2D, w_yesT, w_comp, w_dc, w_all1, w_any1, w_all2, w_any2, w_tupG1, w_tupG2, w_joinG1, w_getDS, w_itemS, w_inDS, w_notInDS, w_done1, w_putK, w_dnew, w_inR, w_notInR, w_lstFM, wipeE, backE, keepO, namesG, sepD, inRM, dctM, isDct, augAdd, hf]
    · obtain ⟨i, hi⟩ := List.mem_iff_getElem?.mp hd
      obtain ⟨x, hx, rfl⟩ := numd_get hi
      rw [List.getElem?_map] at hx
      obtain ⟨c, hc, rfl⟩ := Option.map_eq_some_iff.mp hx
      have c0 : (0 : Int) + (i : Int) = (i : Int) := by omega
      simp only [turn1, w_var, w_c, w_op2, w_op1, w_ts2, w_ts1, w_and, w_or, w_not, w_tru, w_val, w_if, w_nilA, w_consA, w_tup, w_lst, w_imm, w_frzM, w_immF, w_frz, w_getS, w_lenS, w_len, w_noF, w_someF, w_cut, w_slotM, w_tupFM, w_lenOfM, w_srtFM, w_call, w_arNil, w_arE, w_arS, w_nx, w_seq, w_set, w_setM, w_asg, w_ret, w_retM, w_drop, w_ifS, w_retN, w_bk, w_ct, w_app, w_put, w_aug, w_for, w_it, w_rng1, w_rng2, w_enum, w_zip, wG_name, wG_tup, w_def, yes_some, yes_none, yes_bind, yes_map, yes_ite, slot, List.getElem?_cons_zero, List.getElem?_cons_succ, List.getElem?_nil, Option.getD_some, Option.getD_none, List.set_cons_zero, List.set_cons_succ, List.set_nil, List.map_cons, List.map_nil, List.cons_append, List.nil_append, List.length_cons, List.length_nil, List.replicate, Option.some.injEq, M.imm.injEq, exists_eq_left, exists_eq_left', datM, immD, frzE, isL, putI, retM, backM, putArgs, getM, intO, itemsD, seqItems, lstItems, List.append_nil, Option.map_some, Option.map_none, Option.bind_some, Option.bind_none, Bool.false_eq_true, if_true, if_false, Nat.reduceAdd, Nat.reduceSub, ↓reduceIte, and_true, true_and, reduceCtorEq, decide_eq_true_eq, addD, subD, mulD, divD, modD, pow_18, negD, intD, ltD, leD, gtD, geD, isND, isnotND, VD.getD, lenD, lenM, cutD, truD, atL_0, atL_1, atL_2, atL_3, atL_4, ix2_0, ix2_1, scountD, min2D, max2D, rng1D, rng2D, w_yesT, w_comp, w_dc, w_all1, w_any1, w_all2, w_any2, w_tupG1, w_tupG2, w_joinG1, w_getDS, w_itemS, w_inDS, w_notInDS, w_done1, w_putK, w_dnew, w_inR, w_notInR, w_lstFM, wipeE, backE, keepO, namesG, sepD, inRM, dctM, isDct, augAdd, c0, cut_to]
      refine ⟨lb, ?_⟩
      refine wpF_mono (free2_ok ha (w := [c]) (v := w.take i) (by simp) (by rw [List.length_take]; omega)) ?_
      rintro r l ⟨rfl, rfl⟩
      simp only [w_var, w_c, w_op2, w_op1, w_ts2, w_ts1, w_and, w_or, w_not, w_tru, w_val, w_if, w_nilA, w_consA, w_tup, w_lst, w_imm, w_frzM, w_immF, w_frz, w_getS, w_lenS, w_len, w_noF, w_someF, w_cut, w_slotM, w_tupFM, w_lenOfM, w_srtFM, w_call, w_arNil, w_arE, w_arS, w_nx, w_seq, w_set, w_setM, w_asg, w_ret, w_retM, w_drop, w_ifS, w_retN, w_bk, w_ct, w_app, w_put, w_aug, w_for, w_it, w_rng1, w_rng2, w_enum, w_zip, wG_name, wG_tup, w_def, yes_some, yes_none, yes_bind, yes_map, yes_ite, slot, List.getElem?_cons_zero, List.getElem?_cons_succ, List.getElem?_nil, Option.getD_some, Option.getD_none, List.set_cons_zero, List.set_cons_succ, List.set_nil, List.map_cons, List.map_nil, List.cons_append, List.nil_append, List.length_cons, List.length_nil, List.replicate, Option.some.injEq, M.imm.injEq, exists_eq_left, exists_eq_left', datM, immD, frzE, isL, putI, retM, backM, putArgs, getM, intO, itemsD, seqItems, lstItems, List.append_nil, Option.map_some, Option.map_none, Option.bind_some, Option.bind_none, Bool.false_eq_true, if_true, if_false, Nat.reduceAdd, Nat.reduceSub, ↓reduceIte, and_true, true_and, reduceCtorEq, decide_eq_true_eq, addD, subD, mulD, divD, modD, pow_18, negD, intD, ltD, leD, gtD, geD, isND, isnotND, VD.getD, lenD, lenM, cutD, truD, atL_0, atL_1, atL_2, atL_3, atL_4, ix2_0, ix2_1, scountD, min2D, max2D, rng1D, rng2D, w_yesT, w_comp, w_dc, w_all1, w_any1, w_all2, w_any2, w_tupG1, w_tupG2, w_joinG1, w_getDS, w_itemS, w_inDS, w_notInDS, w_done1, w_putK, w_dnew, w_inR, w_notInR, w_lstFM, wipeE, backE, keepO, namesG, sepD, inRM, dctM, isDct, augAdd, c0]
      have : ([c].all fun x => (w.take i).all fun y => fr ps x y) = (w.take i).all fun y => fr ps c y := by simp
      rw [this]
      cases hb : (w.take i).all fun y => fr ps c y <;> simp [hb]
  rintro e rfl
  have hfl : (fsts (fr ps) w).length ≤ w.length := by
    unfold fsts
    rw [List.length_map]
    exact Nat.le_trans (List.length_filter_le _ _) (by simp)
  have e1 : ((fsts (fr ps) w).map fun c => D.str [c]) = ((fsts (fr ps) w).map fun c => [c]).map D.str := by rw [List.map_map]; rfl
  have e2 := sort_strs (ps := (fsts (fr ps) w).map fun c => [c]) (by rw [List.length_map]; omega)
  rw [← e1, (fst_eq (fr ps) w).1] at e2
  have e3 : ((fst (fr ps) w).map fun c => [c]).map D.str = sg (fst (fr ps) w) := by rw [List.map_map]; rfl
  have hj := join_sg (fst (fr ps) w) (by rw [(fst_eq (fr ps) w).2.length_eq]; omega)
  rw [← e3] at hj
  have ej : ∀ (m : FM) e Q, wpE (joinRF (cF (.str [])) m) e Q ↔ wpM m e fun x e1 => yes (seqItems x) fun ds => yes (joinL [] ds) fun z => Q (.str z) e1 := fun m e Q => by
    simp only [wpE_y, wpM_y, joinRF, cF, yes_bind, yes_some, yes_map]
  simp only [w_ret, ej, w_var, w_c, w_op2, w_op1, w_ts2, w_ts1, w_and, w_or, w_not, w_tru, w_val, w_if, w_nilA, w_consA, w_tup, w_lst, w_imm, w_frzM, w_immF, w_frz, w_getS, w_lenS, w_len, w_noF, w_someF, w_cut, w_slotM, w_tupFM, w_lenOfM, w_srtFM, w_call, w_arNil, w_arE, w_arS, w_nx, w_seq, w_set, w_setM, w_asg, w_ret, w_retM, w_drop, w_ifS, w_retN, w_bk, w_ct, w_app, w_put, w_aug, w_for, w_it, w_rng1, w_rng2, w_enum, w_zip, wG_name, wG_tup, w_def, yes_some, yes_none, yes_bind, yes_map, yes_ite, slot, List.getElem?_cons_zero, List.getElem?_cons_succ, List.getElem?_nil, Option.getD_some, Option.getD_none, List.set_cons_zero, List.set_cons_succ, List.set_nil, List.map_cons, List.map_nil, List.cons_append, List.nil_append, List.length_cons, List.length_nil, List.replicate, Option.some.injEq, M.imm.injEq, exists_eq_left, exists_eq_left', datM, immD, frzE, isL, putI, retM, backM, putArgs, getM, intO, itemsD, seqItems, lstItems, List.append_nil, Option.map_some, Option.map_none, Option.bind_some, Option.bind_none, Bool.false_eq_true, if_true, if_false, Nat.reduceAdd, Nat.reduceSub, ↓reduceIte, and_true, true_and, reduceCtorEq, decide_eq_true_eq, addD, subD, mulD, divD, modD, pow_18, negD, intD, ltD, leD, gtD, geD, isND, isnotND, VD.getD, lenD, lenM, cutD, truD, atL_0, atL_1, atL_2, atL_3, atL_4, ix2_0, ix2_1, scountD, min2D, max2D, rng1D, rng2D, w_yesT, w_comp, w_dc, w_all1, w_any1, w_all2, w_any2, w_tupG1, w_tupG2, w_joinG1, w_getDS, w_itemS, w_inDS, w_notInDS, w_done1, w_putK, w_dnew, w_inR, w_notInR, w_lstFM, wipeE, backE, keepO, namesG, sepD, inRM, dctM, isDct, augAdd, e2, hj]
theorem without_ok {w : List Nat} {c : Nat} (hc : c ∈ w) (hw : w.length ≤ 100) : wpF f_without_first [.imm (.str w), .imm (.str [c])] fun r l => r = .imm (.str (wof w c)) ∧ l = [.imm (.str w), .imm (.str [c])] := by
  have lb : w.length ≤ big := by unfold big; omega
  have c1 : ((w.idxOf c : Nat) : Int) + 1 = ((w.idxOf c + 1 : Nat) : Int) := by push_cast; rfl
  have hl := wof_len hc
  unfold wof at hl
  rw [List.length_append] at hl
  simp only [f_without_first, b_without_first, w_var, w_c, w_op2, w_op1, w_ts2, w_ts1, w_and, w_or, w_not, w_tru, w_val, w_if, w_nilA, w_consA, w_tup, w_lst, w_imm, w_frzM, w_immF, w_frz, w_getS, w_lenS, w_len, w_noF, w_someF, w_cut, w_slotM, w_tupFM, w_lenOfM, w_srtFM, w_call, w_arNil, w_arE, w_arS, w_nx, w_seq, w_set, w_setM, w_asg, w_ret, w_retM, w_drop, w_ifS, w_retN, w_bk, w_ct, w_app, w_put, w_aug, w_for, w_it, w_rng1, w_rng2, w_enum, w_zip, wG_name, wG_tup, w_def, yes_some, yes_none, yes_bind, yes_map, yes_ite, slot, List.getElem?_cons_zero, List.getElem?_cons_succ, List.getElem?_nil, Option.getD_some, Option.getD_none, List.set_cons_zero, List.set_cons_succ, List.set_nil, List.map_cons, List.map_nil, List.cons_append, List.nil_append, List.length_cons, List.length_nil, List.replicate, Option.some.injEq, M.imm.injEq, exists_eq_left, exists_eq_left', datM, immD, frzE, isL, putI, retM, backM, putArgs, getM, intO, itemsD, seqItems, lstItems, List.append_nil, Option.map_some, Option.map_none, Option.bind_some, Option.bind_none, Bool.false_eq_true, if_true, if_false, Nat.reduceAdd, Nat.reduceSub, ↓reduceIte, and_true, true_and, reduceCtorEq, decide_eq_true_eq, addD, subD, mulD, divD, modD, pow_18, negD, intD, ltD, leD, gtD, geD, isND, isnotND, VD.getD, lenD, lenM, cutD, truD, atL_0, atL_1, atL_2, atL_3, atL_4, ix2_0, ix2_1, scountD, min2D, max2D, rng1D, rng2D, w_yesT, w_comp, w_dc, w_all1, w_any1, w_all2, w_any2, w_tupG1, w_tupG2, w_joinG1, w_getDS, w_itemS, w_inDS, w_notInDS, w_done1, w_putK, w_dnew, w_inR, w_notInR, w_lstFM, wipeE, backE, keepO, namesG, sepD, inRM, dctM, isDct, augAdd, sidxD, hc, cut_to, c1, cut_from, lb]
  exact ⟨by omega, rfl⟩
theorem atL_last {α : Type} (F : List α) (c : α) : atL (F ++ [c]) (-1) = some c := by
  have h : ¬ (0 : Int) ≤ -1 := by decide
  have h2 : -((F ++ [c]).length : Int) ≤ -1 := by simp; omega
  have h3 : (-1 + ((F ++ [c]).length : Int)).toNat = F.length := by simp; omega
  simp only [atL, ixOf, h, if_false, h2, if_true, Option.bind_some, h3]
  simp
theorem least_ok (ha : AlOk L ps) {w : List Nat} (hw : w.length ≤ 100) : wpF f_least [.imm (Al L ps), .imm (.str w)] fun r l => r = .imm (.str (leastW (fr ps) w.length w)) ∧ l = [.imm (Al L ps), .imm (.str w)] := by
  have ir := fr_irr ha
  simp only [f_least, b_least, w_def]
  refine seq_mid (fun e => e = [some (.imm (Al L ps)), some (.imm (.str w)), some (.imm (.str [])), none]) ?_ ?_
  · simp only [w_var, w_c, w_op2, w_op1, w_ts2, w_ts1, w_and, w_or, w_not, w_tru, w_val, w_if, w_nilA, w_consA, w_tup, w_lst, w_imm, w_frzM, w_immF, w_frz, w_getS, w_lenS, w_len, w_noF, w_someF, w_cut, w_slotM, w_tupFM, w_lenOfM, w_srtFM, w_call, w_arNil, w_arE, w_arS, w_nx, w_seq, w_set, w_setM, w_asg, w_ret, w_retM, w_drop, w_ifS, w_retN, w_bk, w_ct, w_app, w_put, w_aug, w_for, w_it, w_rng1, w_rng2, w_enum, w_zip, wG_name, wG_tup, w_def, yes_some, yes_none, yes_bind, yes_map, yes_ite, slot, List.getElem?_cons_zero, List.getElem?_cons_succ, List.getElem?_nil, Option.getD_some, Option.getD_none, List.set_cons_zero, List.set_cons_succ, List.set_nil, List.map_cons, List.map_nil, List.cons_append, List.nil_append, List.length_cons, List.length_nil, List.replicate, Option.some.injEq, M.imm.injEq, exists_eq_left, exists_eq_left', datM, immD, frzE, isL, putI, retM, backM, putArgs, getM, intO, itemsD, seqItems, lstItems, List.append_nil, Option.map_some, Option.map_none, Option.bind_some, Option.bind_none, Bool.false_eq_true, if_true, if_false, Nat.reduceAdd, Nat.reduceSub, ↓reduceIte, and_true, true_and, reduceCtorEq, decide_eq_true_eq, addD, subD, mulD, divD, modD, pow_18, negD, intD, ltD, leD, gtD, geD, isND, isnotND, VD.getD, lenD, lenM, cutD, truD, atL_0, atL_1, atL_2, atL_3, atL_4, ix2_0, ix2_1, scountD, min2D, max2D, rng1D, rng2D, w_yesT, w_comp, w_dc, w_all1, w_any1, w_all2, w_any2, w_tupG1, w_tupG2, w_joinG1, w_getDS, w_itemS, w_inDS, w_notInDS, w_done1, w_putK, w_dnew, w_inR, w_notInR, w_lstFM, wipeE, backE, keepO, namesG, sepD, inRM, dctM, isDct, augAdd]
  rintro e rfl
  refine seq_mid (fun e => ∃ o1 o3, e = [some (.imm (Al L ps)), o1, some (.imm (.str (leastW (fr ps) w.length w))), o3]) ?_ ?_
  · refine while_inv (fun n e => ∃ (v z : List Nat) (o3 : Option M), v.length ≤ w.length ∧ z.length + v.length = w.length ∧ n + w.length = fuel + v.length ∧ z ++ leastW (fr ps) v.length v = leastW (fr ps) w.length w ∧ e = [some (.imm (Al L ps)), some (.imm (.str v)), some (.imm (.str z)), o3]) ⟨w, [], none, Nat.le_refl _, by simp, rfl, rfl, rfl⟩ ?_
    rintro n e ⟨v, z, o3, hv, hz, hn, hW, rfl⟩
    have lb : v.length ≤ big := by unfold big; omega
    have hf : fuel = 10000000 := rfl
    simp only [w_tru, w_var, slot, List.getElem?_cons_zero, List.getElem?_cons_succ, List.getElem?_nil, Option.getD_some, Option.getD_none, List.set_cons_zero, List.set_cons_succ, List.set_nil, List.map_cons, List.map_nil, List.cons_append, List.nil_append, List.length_cons, List.length_nil, List.replicate, Option.some.injEq, M.imm.injEq, exists_eq_left, exists_eq_left', datM, immD, frzE, isL, putI, retM, backM, putArgs, getM, intO, itemsD, seqItems, lstItems, List.append_nil, Option.map_some, Option.map_none, Option.bind_some, Option.bind_none, Bool.false_eq_true, if_true, if_false, Nat.reduceAdd, Nat.reduceSub, ↓reduceIte, and_true, true_and, reduceCtorEq, decide_eq_true_eq, addD, subD, mulD, divD, modD, pow_18, negD, intD, ltD, leD, gtD, geD, isND, isnotND, VD.getD, lenD, lenM, cutD, truD, atL_0, atL_1, atL_2, atL_3, atL_4, ix2_0, ix2_1, scountD, min2D, max2D, rng1D, rng2D, yes_some, yes_ite, lb]
    cases v with
    | nil =>
      have hW : z = leastW (fr ps) w.length w := by simpa [leastW] using hW
      subst hW
      simp only [List.isEmpty_nil, Bool.not_true, slot, List.getElem?_cons_zero, List.getElem?_cons_succ, List.getElem?_nil, Option.getD_some, Option.getD_none, List.set_cons_zero, List.set_cons_succ, List.set_nil, List.map_cons, List.map_nil, List.cons_append, List.nil_append, List.length_cons, List.length_nil, List.replicate, Option.some.injEq, M.imm.injEq, exists_eq_left, exists_eq_left', datM, immD, frzE, isL, putI, retM, backM, putArgs, getM, intO, itemsD, seqItems, lstItems, List.append_nil, Option.map_some, Option.map_none, Option.bind_some, Option.bind_none, Bool.false_eq_true, if_true, if_false, Nat.reduceAdd, Nat.reduceSub, ↓reduceIte, and_true, true_and, reduceCtorEq, decide_eq_true_eq]
      exact ⟨by simp at hn; omega, _, _, rfl⟩
    | cons a u =>
      simp only [List.isEmpty_cons, Bool.not_false, slot, List.getElem?_cons_zero, List.getElem?_cons_succ, List.getElem?_nil, Option.getD_some, Option.getD_none, List.set_cons_zero, List.set_cons_succ, List.set_nil, List.map_cons, List.map_nil, List.cons_append, List.nil_append, List.length_cons, List.length_nil, List.replicate, Option.some.injEq, M.imm.injEq, exists_eq_left, exists_eq_left', datM, immD, frzE, isL, putI, retM, backM, putArgs, getM, intO, itemsD, seqItems, lstItems, List.append_nil, Option.map_some, Option.map_none, Option.bind_some, Option.bind_none, Bool.false_eq_true, if_true, if_false, Nat.reduceAdd, Nat.reduceSub, ↓reduceIte, and_true, true_and, reduceCtorEq, decide_eq_true_eq]
      refine ⟨n - 1, by simp at hn; omega, ?_⟩
      generalize hvv : a :: u = v at *
      have hne : v ≠ [] := by rw [← hvv]; simp
      have hlen : v.length = (v.length - 1) + 1 := by have := List.length_pos_iff.mpr hne; omega
      obtain ⟨c, F, hF⟩ : ∃ c F, fst (fr ps) v = c :: F := by
        cases hF : fst (fr ps) v with
        | nil => exact absurd hF (fst_ne hne)
        | cons c F => exact ⟨c, F, rfl⟩
      have hc : c ∈ fst (fr ps) v := by rw [hF]; simp
      have hl := wof_len (fst_mem hc)
      have hWv : leastW (fr ps) v.length v = c :: leastW (fr ps) (wof v c).length (wof v c) := by
        have : v.length = (wof v c).length + 1 := by omega
        rw [this]
        simp [leastW, hF]
      have hFl : (fst (fr ps) v).length ≤ big := by
        rw [(fst_eq (fr ps) v).2.length_eq]
        unfold fsts
        rw [List.length_map]
        have := List.length_filter_le (fun i => (v.take i).all fun y => fr ps (v[i]?.getD 0) y) (List.range v.length)
        rw [List.length_range] at this
        omega
      have g : atL (fst (fr ps) v) (0) = some c := by rw [hF]; exact atL_0
      refine seq_mid (fun e => e = [some (.imm (Al L ps)), some (.imm (.str v)), some (.imm (.str z)), some (.imm (.str [c]))]) ?_ ?_
      · simp only [w_var, w_c, w_op2, w_op1, w_ts2, w_ts1, w_and, w_or, w_not, w_tru, w_val, w_if, w_nilA, w_consA, w_tup, w_lst, w_imm, w_frzM, w_immF, w_frz, w_getS, w_lenS, w_len, w_noF, w_someF, w_cut, w_slotM, w_tupFM, w_lenOfM, w_srtFM, w_call, w_arNil, w_arE, w_arS, w_nx, w_seq, w_set, w_setM, w_asg, w_ret, w_retM, w_drop, w_ifS, w_retN, w_bk, w_ct, w_app, w_put, w_aug, w_for, w_it, w_rng1, w_rng2, w_enum, w_zip, wG_name, wG_tup, w_def, yes_some, yes_none, yes_bind, yes_map, yes_ite, slot, List.getElem?_cons_zero, List.getElem?_cons_succ, List.getElem?_nil, Option.getD_some, Option.getD_none, List.set_cons_zero, List.set_cons_succ, List.set_nil, List.map_cons, List.map_nil, List.cons_append, List.nil_append, List.length_cons, List.length_nil, List.replicate, Option.some.injEq, M.imm.injEq, exists_eq_left, exists_eq_left', datM, immD, frzE, isL, putI, retM, backM, putArgs, getM, intO, itemsD, seqItems, lstItems, List.append_nil, Option.map_some, Option.map_none, Option.bind_some, Option.bind_none, Bool.false_eq_true, if_true, if_false, Nat.reduceAdd, Nat.reduceSub, ↓reduceIte, and_true, true_and, reduceCtorEq, decide_eq_true_eq, addD, subD, mulD, divD, modD, pow_18, negD, intD, ltD, leD, gtD, geD, isND, isnotND, VD.getD, lenD, lenM, cutD, truD, atL_0, atL_1, atL_2, atL_3, atL_4, ix2_0, ix2_1, scountD, min2D, max2D, rng1D, rng2D, w_yesT, w_comp, w_dc, w_all1, w_any1, w_all2, w_any2, w_tupG1, w_tupG2, w_joinG1, w_getDS, w_itemS, w_inDS, w_notInDS, w_done1, w_putK, w_dnew, w_inR, w_notInR, w_lstFM, wipeE, backE, keepO, namesG, sepD, inRM, dctM, isDct, augAdd]
        refine wpF_mono (firsts_ok ha (w := v) (by omega)) ?_
        rintro r l ⟨rfl, rfl⟩
        simp only [w_var, w_c, w_op2, w_op1, w_ts2, w_ts1, w_and, w_or, w_not, w_tru, w_val, w_if, w_nilA, w_consA, w_tup, w_lst, w_imm, w_frzM, w_immF, w_frz, w_getS, w_lenS, w_len, w_noF, w_someF, w_cut, w_slotM, w_tupFM, w_lenOfM, w_srtFM, w_call, w_arNil, w_arE, w_arS, w_nx, w_seq, w_set, w_setM, w_asg, w_ret, w_retM, w_drop, w_ifS, w_retN, w_bk, w_ct, w_app, w_put, w_aug, w_for, w_it, w_rng1, w_rng2, w_enum, w_zip, wG_name, wG_tup, w_def, yes_some, yes_none, yes_bind, yes_map, yes_ite, slot, List.getElem?_cons_zero, List.getElem?_cons_succ, List.getElem?_nil, Option.getD_some, Option.getD_none, List.set_cons_zero, List.set_cons_succ, List.set_nil, List.map_cons, List.map_nil, List.cons_append, List.nil_append, List.length_cons, List.length_nil, List.replicate, Option.some.injEq, M.imm.injEq, exists_eq_left, exists_eq_left', datM, immD, frzE, isL, putI, retM, backM, putArgs, getM, intO, itemsD, seqItems, lstItems, List.append_nil, Option.map_some, Option.map_none, Option.bind_some, Option.bind_none, Bool.false_eq_true, if_true, if_false, Nat.reduceAdd, Nat.reduceSub, ↓reduceIte, and_true, true_and, reduceCtorEq, decide_eq_true_eq, addD, subD, mulD, divD, modD, pow_18, negD, intD, ltD, leD, gtD, geD, isND, isnotND, VD.getD, lenD, lenM, cutD, truD, atL_0, atL_1, atL_2, atL_3, atL_4, ix2_0, ix2_1, scountD, min2D, max2D, rng1D, rng2D, w_yesT, w_comp, w_dc, w_all1, w_any1, w_all2, w_any2, w_tupG1, w_tupG2, w_joinG1, w_getDS, w_itemS, w_inDS, w_notInDS, w_done1, w_putK, w_dnew, w_inR, w_notInR, w_lstFM, wipeE, backE, keepO, namesG, sepD, inRM, dctM, isDct, augAdd, hFl, g]
      rintro e rfl
      refine seq_mid (fun e => e = [some (.imm (Al L ps)), some (.imm (.str v)), some (.imm (.str (z ++ [c]))), some (.imm (.str [c]))]) ?_ ?_
      · simp only [w_var, w_c, w_op2, w_op1, w_ts2, w_ts1, w_and, w_or, w_not, w_tru, w_val, w_if, w_nilA, w_consA, w_tup, w_lst, w_imm, w_frzM, w_immF, w_frz, w_getS, w_lenS, w_len, w_noF, w_someF, w_cut, w_slotM, w_tupFM, w_lenOfM, w_srtFM, w_call, w_arNil, w_arE, w_arS, w_nx, w_seq, w_set, w_setM, w_asg, w_ret, w_retM, w_drop, w_ifS, w_retN, w_bk, w_ct, w_app, w_put, w_aug, w_for, w_it, w_rng1, w_rng2, w_enum, w_zip, wG_name, wG_tup, w_def, yes_some, yes_none, yes_bind, yes_map, yes_ite, slot, List.getElem?_cons_zero, List.getElem?_cons_succ, List.getElem?_nil, Option.getD_some, Option.getD_none, List.set_cons_zero, List.set_cons_succ, List.set_nil, List.map_cons, List.map_nil, List.cons_append, List.nil_append, List.length_cons, List.length_nil, List.replicate, Option.some.injEq, M.imm.injEq, exists_eq_left, exists_eq_left', datM, immD, frzE, isL, putI, retM, backM, putArgs, getM, intO, itemsD, seqItems, lstItems, List.append_nil, Option.map_some, Option.map_none, Option.bind_some, Option.bind_none, Bool.false_eq_true, if_true, if_false, Nat.reduceAdd, Nat.reduceSub, ↓reduceIte, and_true, true_and, reduceCtorEq, decide_eq_true_eq, addD, subD, mulD, divD, modD, pow_18, negD, intD, ltD, leD, gtD, geD, isND, isnotND, VD.getD, lenD, lenM, cutD, truD, atL_0, atL_1, atL_2, atL_3, atL_4, ix2_0, ix2_1, scountD, min2D, max2D, rng1D, rng2D, w_yesT, w_comp, w_dc, w_all1, w_any1, w_all2, w_any2, w_tupG1, w_tupG2, w_joinG1, w_getDS, w_itemS, w_inDS, w_notInDS, w_done1, w_putK, w_dnew, w_inR, w_notInR, w_lstFM, wipeE, backE, keepO, namesG, sepD, inRM, dctM, isDct, augAdd]
        unfold big; omega
      rintro e rfl
      simp only [w_var, w_c, w_op2, w_op1, w_ts2, w_ts1, w_and, w_or, w_not, w_tru, w_val, w_if, w_nilA, w_consA, w_tup, w_lst, w_imm, w_frzM, w_immF, w_frz, w_getS, w_lenS, w_len, w_noF, w_someF, w_cut, w_slotM, w_tupFM, w_lenOfM, w_srtFM, w_call, w_arNil, w_arE, w_arS, w_nx, w_seq, w_set, w_setM, w_asg, w_ret, w_retM, w_drop, w_ifS, w_retN, w_bk, w_ct, w_app, w_put, w_aug, w_for, w_it, w_rng1, w_rng2, w_enum, w_zip, wG_name, wG_tup, w_def, yes_some, yes_none, yes_bind, yes_map, yes_ite, slot, List.getElem?_cons_zero, List.getElem?_cons_succ, List.getElem?_nil, Option.getD_some, Option.getD_none, List.set_cons_zero, List.set_cons_succ, List.set_nil, List.map_cons, List.map_nil, List.cons_append, List.nil_append, List.length_cons, List.length_nil, List.replicate, Option.some.injEq, M.imm.injEq, exists_eq_left, exists_eq_left', datM, immD, frzE, isL, putI, retM, backM, putArgs, getM, intO, itemsD, seqItems, lstItems, List.append_nil, Option.map_some, Option.map_none, Option.bind_some, Option.bind_none, Bool.false_eq_true, if_true, if_false, Nat.reduceAdd, Nat.reduceSub, ↓reduceIte, and_true, true_and, reduceCtorEq, decide_eq_true_eq, addD, subD, mulD, divD, modD, pow_18, negD, intD, ltD, leD, gtD, geD, isND, isnotND, VD.getD, lenD, lenM, cutD, truD, atL_0, atL_1, atL_2, atL_3, atL_4, ix2_0, ix2_1, scountD, min2D, max2D, rng1D, rng2D, w_yesT, w_comp, w_dc, w_all1, w_any1, w_all2, w_any2, w_tupG1, w_tupG2, w_joinG1, w_getDS, w_itemS, w_inDS, w_notInDS, w_done1, w_putK, w_dnew, w_inR, w_notInR, w_lstFM, wipeE, backE, keepO, namesG, sepD, inRM, dctM, isDct, augAdd]
      refine wpF_mono (without_ok (fst_mem hc) (by omega)) ?_
      rintro r l ⟨rfl, rfl⟩
      simp only [w_var, w_c, w_op2, w_op1, w_ts2, w_ts1, w_and, w_or, w_not, w_tru, w_val, w_if, w_nilA, w_consA, w_tup, w_lst, w_imm, w_frzM, w_immF, w_frz, w_getS, w_lenS, w_len, w_noF, w_someF, w_cut, w_slotM, w_tupFM, w_lenOfM, w_srtFM, w_call, w_arNil, w_arE, w_arS, w_nx, w_seq, w_set, w_setM, w_asg, w_ret, w_retM, w_drop, w_ifS, w_retN, w_bk, w_ct, w_app, w_put, w_aug, w_for, w_it, w_rng1, w_rng2, w_enum, w_zip, wG_name, wG_tup, w_def, yes_some, yes_none, yes_bind, yes_map, yes_ite, slot, List.getElem?_cons_zero, List.getElem?_cons_succ, List.getElem?_nil, Option.getD_some, Option.getD_none, List.set_cons_zero, List.set_cons_succ, List.set_nil, List.map_cons, List.map_nil, List.cons_append, List.nil_append, List.length_cons, List.length_nil, List.replicate, Option.some.injEq, M.imm.injEq, exists_eq_left, exists_eq_left', datM, immD, frzE, isL, putI, retM, backM, putArgs, getM, intO, itemsD, seqItems, lstItems, List.append_nil, Option.map_some, Option.map_none, Option.bind_some, Option.bind_none, Bool.false_eq_true, if_true, if_false, Nat.reduceAdd, Nat.reduceSub, ↓reduceIte, and_true, true_and, reduceCtorEq, decide_eq_true_eq, addD, subD, mulD, divD, modD, pow_18, negD, intD, ltD, leD, gtD, geD, isND, isnotND, VD.getD, lenD, lenM, cutD, truD, atL_0, atL_1, atL_2, atL_3, atL_4, ix2_0, ix2_1, scountD, min2D, max2D, rng1D, rng2D, w_yesT, w_comp, w_dc, w_all1, w_any1, w_all2, w_any2, w_tupG1, w_tupG2, w_joinG1, w_getDS, w_itemS, w_inDS, w_notInDS, w_done1, w_putK, w_dnew, w_inR, w_notInR, w_lstFM, wipeE, backE, keepO, namesG, sepD, inRM, dctM, isDct, augAdd]
      refine ⟨wof v c, z ++ [c], _, by omega, by simp; omega, by omega, ?_, rfl⟩
      rw [← hW, hWv]
      simp
  rintro e ⟨o1, o3, rfl⟩
  simp only [w_var, w_c, w_op2, w_op1, w_ts2, w_ts1, w_and, w_or, w_not, w_tru, w_val, w_if, w_nilA, w_consA, w_tup, w_lst, w_imm, w_frzM, w_immF, w_frz, w_getS, w_lenS, w_len, w_noF, w_someF, w_cut, w_slotM, w_tupFM, w_lenOfM, w_srtFM, w_call, w_arNil, w_arE, w_arS, w_nx, w_seq, w_set, w_setM, w_asg, w_ret, w_retM, w_drop, w_ifS, w_retN, w_bk, w_ct, w_app, w_put, w_aug, w_for, w_it, w_rng1, w_rng2, w_enum, w_zip, wG_name, wG_tup, w_def, yes_some, yes_none, yes_bind, yes_map, yes_ite, slot, List.getElem?_cons_zero, List.getElem?_cons_succ, List.getElem?_nil, Option.getD_some, Option.getD_none, List.set_cons_zero, List.set_cons_succ, List.set_nil, List.map_cons, List.map_nil, List.cons_append, List.nil_append, List.length_cons, List.length_nil, List.replicate, Option.some.injEq, M.imm.injEq, exists_eq_left, exists_eq_left', datM, immD, frzE, isL, putI, retM, backM, putArgs, getM, intO, itemsD, seqItems, lstItems, List.append_nil, Option.map_some, Option.map_none, Option.bind_some, Option.bind_none, Bool.false_eq_true, if_true, if_false, Nat.reduceAdd, Nat.reduceSub, ↓reduceIte, and_true, true_and, reduceCtorEq, decide_eq_true_eq, addD, subD, mulD, divD, modD, pow_18, negD, intD, ltD, leD, gtD, geD, isND, isnotND, VD.getD, lenD, lenM, cutD, truD, atL_0, atL_1, atL_2, atL_3, atL_4, ix2_0, ix2_1, scountD, min2D, max2D, rng1D, rng2D, w_yesT, w_comp, w_dc, w_all1, w_any1, w_all2, w_any2, w_tupG1, w_tupG2, w_joinG1, w_getDS, w_itemS, w_inDS, w_notInDS, w_done1, w_putK, w_dnew, w_inR, w_notInR, w_lstFM, wipeE, backE, keepO, namesG, sepD, inRM, dctM, isDct, augAdd]
theorem greatest_ok (ha : AlOk L ps) {w : List Nat} (hw : w.length ≤ 100) : wpF f_greatest [.imm (Al L ps), .imm (.str w)] fun r l => r = .imm (.str (greatW (fr ps) w.length w)) ∧ l = [.imm (Al L ps), .imm (.str w)] := by
  have ir := fr_irr ha
  simp only [f_greatest, b_greatest, w_def]
  refine seq_mid (fun e => e = [some (.imm (Al L ps)), some (.imm (.str w)), some (.imm (.str [])), none]) ?_ ?_
  · simp only [w_var, w_c, w_op2, w_op1, w_ts2, w_ts1, w_and, w_or, w_not, w_tru, w_val, w_if, w_nilA, w_consA, w_tup, w_lst, w_imm, w_frzM, w_immF, w_frz, w_getS, w_lenS, w_len, w_noF, w_someF, w_cut, w_slotM, w_tupFM, w_lenOfM, w_srtFM, w_call, w_arNil, w_arE, w_arS, w_nx, w_seq, w_set, w_setM, w_asg, w_ret, w_retM, w_drop, w_ifS, w_retN, w_bk, w_ct, w_app, w_put, w_aug, w_for, w_it, w_rng1, w_rng2, w_enum, w_zip, wG_name, wG_tup, w_def, yes_some, yes_none, yes_bind, yes_map, yes_ite, slot, List.getElem?_cons_zero, List.getElem?_cons_succ, List.getElem?_nil, Option.getD_some, Option.getD_none, List.set_cons_zero, List.set_cons_succ, List.set_nil, List.map_cons, List.map_nil, List.cons_append, List.nil_append, List.length_cons, List.length_nil, List.replicate, Option.some.injEq, M.imm.injEq, exists_eq_left, exists_eq_left', datM, immD, frzE, isL, putI, retM, backM, putArgs, getM, intO, itemsD, seqItems, lstItems, List.append_nil, Option.map_some, Option.map_none, Option.bind_some, Option.bind_none, Bool.false_eq_true, if_true, if_false, Nat.reduceAdd, Nat.reduceSub, ↓reduceIte, and_true, true_and, reduceCtorEq, decide_eq_true_eq, addD, subD, mulD, divD, modD, pow_18, negD, intD, ltD, leD, gtD, geD, isND, isnotND, VD.getD, lenD, lenM, cutD, truD, atL_0, atL_1, atL_2, atL_3, atL_4, ix2_0, ix2_1, scountD, min2D, max2D, rng1D, rng2D, w_yesT, w_comp, w_dc, w_all1, w_any1, w_all2, w_any2, w_tupG1, w_tupG2, w_joinG1, w_getDS, w_itemS, w_inDS, w_notInDS, w_done1, w_putK, w_dnew, w_inR, w_notInR, w_lstFM, wipeE, backE, keepO, namesG, sepD, inRM, dctM, isDct, augAdd]
  rintro e rfl
  refine seq_mid (fun e => ∃ o1 o3, e = [some (.imm (Al L ps)), o1, some (.imm (.str (greatW (fr ps) w.length w))), o3]) ?_ ?_
  · refine while_inv (fun n e => ∃ (v z : List Nat) (o3 : Option M), v.length ≤ w.length ∧ z.length + v.length = w.length ∧ n + w.length = fuel + v.length ∧ z ++ greatW (fr ps) v.length v = greatW (fr ps) w.length w ∧ e = [some (.imm (Al L ps)), some (.imm (.str v)), some (.imm (.str z)), o3]) ⟨w, [], none, Nat.le_refl _, by simp, rfl, rfl, rfl⟩ ?_
    rintro n e ⟨v, z, o3, hv, hz, hn, hW, rfl⟩
    have lb : v.length ≤ big := by unfold big; omega
    have hf : fuel = 10000000 := rfl
    simp only [w_tru, w_var, slot, List.getElem?_cons_zero, List.getElem?_cons_succ, List.getElem?_nil, Option.getD_some, Option.getD_none, List.set_cons_zero, List.set_cons_succ, List.set_nil, List.map_cons, List.map_nil, List.cons_append, List.nil_append, List.length_cons, List.length_nil, List.replicate, Option.some.injEq, M.imm.injEq, exists_eq_left, exists_eq_left', datM, immD, frzE, isL, putI, retM, backM, putArgs, getM, intO, itemsD, seqItems, lstItems, List.append_nil, Option.map_some, Option.map_none, Option.bind_some, Option.bind_none, Bool.false_eq_true, if_true, if_false, Nat.reduceAdd, Nat.reduceSub, ↓reduceIte, and_true, true_and, reduceCtorEq, decide_eq_true_eq, addD, subD, mulD, divD, modD, pow_18, negD, intD, ltD, leD, gtD, geD, isND, isnotND, VD.getD, lenD, lenM, cutD, truD, atL_0, atL_1, atL_2, atL_3, atL_4, ix2_0, ix2_1, scountD, min2D, max2D, rng1D, rng2D, yes_some, yes_ite, lb]
    cases v with
    | nil =>
      have hW : z = greatW (fr ps) w.length w := by simpa [greatW] using hW
      subst hW
      simp only [List.isEmpty_nil, Bool.not_true, slot, List.getElem?_cons_zero, List.getElem?_cons_succ, List.getElem?_nil, Option.getD_some, Option.getD_none, List.set_cons_zero, List.set_cons_succ, List.set_nil, List.map_cons, List.map_nil, List.cons_append, List.nil_append, List.length_cons, List.length_nil, List.replicate, Option.some.injEq, M.imm.injEq, exists_eq_left, exists_eq_left', datM, immD, frzE, isL, putI, retM, backM, putArgs, getM, intO, itemsD, seqItems, lstItems, List.append_nil, Option.map_some, Option.map_none, Option.bind_some, Option.bind_none, Bool.false_eq_true, if_true, if_false, Nat.reduceAdd, Nat.reduceSub, ↓reduceIte, and_true, true_and, reduceCtorEq, decide_eq_true_eq]
      exact ⟨by simp at hn; omega, _, _, rfl⟩
    | cons a u =>
      simp only [List.isEmpty_cons, Bool.not_false, slot, List.getElem?_cons_zero, List.getElem?_cons_succ, List.getElem?_nil, Option.getD_some, Option.getD_none, List.set_cons_zero, List.set_cons_succ, List.set_nil, List.map_cons, List.map_nil, List.cons_append, List.nil_append, List.length_cons, List.length_nil, List.replicate, Option.some.injEq, M.imm.injEq, exists_eq_left, exists_eq_left', datM, immD, frzE, isL, putI, retM, backM, putArgs, getM, intO, itemsD, seqItems, lstItems, List.append_nil, Option.map_some, Option.map_none, Option.bind_some, Option.bind_none, Bool.false_eq_true, if_true, if_false, Nat.reduceAdd, Nat.reduceSub, ↓reduceIte, and_true, true_and, reduceCtorEq, decide_eq_true_eq]
      refine ⟨n - 1, by simp at hn; omega, ?_⟩
      generalize hvv : a :: u = v at *
      have hne : v ≠ [] := by rw [← hvv]; simp
      have hlen : v.length = (v.length - 1) + 1 := by have := List.length_pos_iff.mpr hne; omega
      obtain ⟨c, F, hF⟩ : ∃ c F, fst (fr ps) v = F ++ [c] := ⟨_, _, (List.dropLast_concat_getLast (fst_ne (f := fr ps) hne)).symm⟩
      have hc : c ∈ fst (fr ps) v := by rw [hF]; simp
      have hl := wof_len (fst_mem hc)
      have hWv : greatW (fr ps) v.length v = c :: greatW (fr ps) (wof v c).length (wof v c) := by
        have : v.length = (wof v c).length + 1 := by omega
        rw [this]
        simp [greatW, hF]
      have hFl : (fst (fr ps) v).length ≤ big := by
        rw [(fst_eq (fr ps) v).2.length_eq]
        unfold fsts
        rw [List.length_map]
        have := List.length_filter_le (fun i => (v.take i).all fun y => fr ps (v[i]?.getD 0) y) (List.range v.length)
        rw [List.length_range] at this
        omega
      have g : atL (fst (fr ps) v) (-1) = some c := by rw [hF]; exact atL_last F c
      refine seq_mid (fun e => e = [some (.imm (Al L ps)), some (.imm (.str v)), some (.imm (.str z)), some (.imm (.str [c]))]) ?_ ?_
      · simp only [w_var, w_c, w_op2, w_op1, w_ts2, w_ts1, w_and, w_or, w_not, w_tru, w_val, w_if, w_nilA, w_consA, w_tup, w_lst, w_imm, w_frzM, w_immF, w_frz, w_getS, w_lenS, w_len, w_noF, w_someF, w_cut, w_slotM, w_tupFM, w_lenOfM, w_srtFM, w_call, w_arNil, w_arE, w_arS, w_nx, w_seq, w_set, w_setM, w_asg, w_ret, w_retM, w_drop, w_ifS, w_retN, w_bk, w_ct, w_app, w_put, w_aug, w_for, w_it, w_rng1, w_rng2, w_enum, w_zip, wG_name, wG_tup, w_def, yes_some, yes_none, yes_bind, yes_map, yes_ite, slot, List.getElem?_cons_zero, List.getElem?_cons_succ, List.getElem?_nil, Option.getD_some, Option.getD_none, List.set_cons_zero, List.set_cons_succ, List.set_nil, List.map_cons, List.map_nil, List.cons_append, List.nil_append, List.length_cons, List.length_nil, List.replicate, Option.some.injEq, M.imm.injEq, exists_eq_left, exists_eq_left', datM, immD, frzE, isL, putI, retM, backM, putArgs, getM, intO, itemsD, seqItems, lstItems, List.append_nil, Option.map_some, Option.map_none, Option.bind_some, Option.bind_none, Bool.false_eq_true, if_true, if_false, Nat.reduceAdd, Nat.reduceSub, ↓reduceIte, and_true, true_and, reduceCtorEq, decide_eq_true_eq, addD, subD, mulD, divD, modD, pow_18, negD, intD, ltD, leD, gtD, geD, isND, isnotND, VD.getD, lenD, lenM, cutD, truD, atL_0, atL_1, atL_2, atL_3, atL_4, ix2_0, ix2_1, scountD, min2D, max2D, rng1D, rng2D, w_yesT, w_comp, w_dc, w_all1, w_any1, w_all2, w_any2, w_tupG1, w_tupG2, w_joinG1, w_getDS, w_itemS, w_inDS, w_notInDS, w_done1, w_putK, w_dnew, w_inR, w_notInR, w_lstFM, wipeE, backE, keepO, namesG, sepD, inRM, dctM, isDct, augAdd]
        refine wpF_mono (firsts_ok ha (w := v) (by omega)) ?_
        rintro r l ⟨rfl, rfl⟩
        simp only [w_var, w_c, w_op2, w_op1, w_ts2, w_ts1, w_and, w_or, w_not, w_tru, w_val, w_if, w_nilA, w_consA, w_tup, w_lst, w_imm, w_frzM, w_immF, w_frz, w_getS, w_lenS, w_len, w_noF, w_someF, w_cut, w_slotM, w_tupFM, w_lenOfM, w_srtFM, w_call, w_arNil, w_arE, w_arS, w_nx, w_seq, w_set, w_setM, w_asg, w_ret, w_retM, w_drop, w_ifS, w_retN, w_bk, w_ct, w_app, w_put, w_aug, w_for, w_it, w_rng1, w_rng2, w_enum, w_zip, wG_name, wG_tup, w_def, yes_some, yes_none, yes_bind, yes_map, yes_ite, slot, List.getElem?_cons_zero, List.getElem?_cons_succ, List.getElem?_nil, Option.getD_some, Option.getD_none, List.set_cons_zero, List.set_cons_succ, List.set_nil, List.map_cons, List.map_nil, List.cons_append, List.nil_append, List.length_cons, List.length_nil, List.replicate, Option.some.injEq, M.imm.injEq, exists_eq_left, exists_eq_left', datM, immD, frzE, isL, putI, retM, backM, putArgs, getM, intO, itemsD, seqItems, lstItems, List.append_nil, Option.map_some, Option.map_none, Option.bind_some, Option.bind_none, Bool.false_eq_true, if_true, if_false, Nat.reduceAdd, Nat.reduceSub, ↓reduceIte, and_true, true_and, reduceCtorEq, decide_eq_true_eq, addD, subD, mulD, divD, modD, pow_18, negD, intD, ltD, leD, gtD, geD, isND, isnotND, VD.getD, lenD, lenM, cutD, truD, atL_0, atL_1, atL_2, atL_3, atL_4, ix2_0, ix2_1, scountD, min2D, max2D, rng1D, rng2D, w_yesT, w_comp, w_dc, w_all1, w_any1, w_all2, w_any2, w_tupG1, w_tupG2, w_joinG1, w_getDS, w_itemS, w_inDS, w_notInDS, w_done1, w_putK, w_dnew, w_inR, w_notInR, w_lstFM, wipeE, backE, keepO, namesG, sepD, inRM, dctM, isDct, augAdd, hFl, g]
      rintro e rfl
      refine seq_mid (fun e => e = [some (.imm (Al L ps)), some (.imm (.str v)), some (.imm (.str (z ++ [c]))), some (.imm (.str [c]))]) ?_ ?_
      · simp only [w_var, w_c, w_op2, w_op1, w_ts2, w_ts1, w_and, w_or, w_not, w_tru, w_val, w_if, w_nilA, w_consA, w_tup, w_lst, w_imm, w_frzM, w_immF, w_frz, w_getS, w_lenS, w_len, w_noF, w_someF, w_cut, w_slotM, w_tupFM, w_lenOfM, w_srtFM, w_call, w_arNil, w_arE, w_arS, w_nx, w_seq, w_set, w_setM, w_asg, w_ret, w_retM, w_drop, w_ifS, w_retN, w_bk, w_ct, w_app, w_put, w_aug, w_for, w_it, w_rng1, w_rng2, w_enum, w_zip, wG_name, wG_tup, w_def, yes_some, yes_none, yes_bind, yes_map, yes_ite, slot, List.getElem?_cons_zero, List.getElem?_cons_succ, List.getElem?_nil, Option.getD_some, Option.getD_none, List.set_cons_zero, List.set_cons_succ, List.set_nil, List.map_cons, List.map_nil, List.cons_append, List.nil_append, List.length_cons, List.length_nil, List.replicate, Option.some.injEq, M.imm.injEq, exists_eq_left, exists_eq_left', datM, immD, frzE, isL, putI, retM, backM, putArgs, getM, intO, itemsD, seqItems, lstItems, List.append_nil, Option.map_some, Option.map_none, Option.bind_some, Option.bind_none, Bool.false_eq_true, if_true, if_false, Nat.reduceAdd, Nat.reduceSub, ↓reduceIte, and_true, true_and, reduceCtorEq, decide_eq_true_eq, addD, subD, mulD, divD, modD, pow_18, negD, intD, ltD, leD, gtD, geD, isND, isnotND, VD.getD, lenD, lenM, cutD, truD, atL_0, atL_1, atL_2, atL_3, atL_4, ix2_0, ix2_1, scountD, min2D, max2D, rng1D, rng2D, w_yesT, w_comp, w_dc, w_all1, w_any1, w_all2, w_any2, w_tupG1, w_tupG2, w_joinG1, w_getDS, w_itemS, w_inDS, w_notInDS, w_done1, w_putK, w_dnew, w_inR, w_notInR, w_lstFM, wipeE, backE, keepO, namesG, sepD, inRM, dctM, isDct, augAdd]
        unfold big; omega
      rintro e rfl
      simp only [w_var, w_c, w_op2, w_op1, w_ts2, w_ts1, w_and, w_or, w_not, w_tru, w_val, w_if, w_nilA, w_consA, w_tup, w_lst, w_imm, w_frzM, w_immF, w_frz, w_getS, w_lenS, w_len, w_noF, w_someF, w_cut, w_slotM, w_tupFM, w_lenOfM, w_srtFM, w_call, w_arNil, w_arE, w_arS, w_nx, w_seq, w_set, w_setM, w_asg, w_ret, w_retM, w_drop, w_ifS, w_retN, w_bk, w_ct, w_app, w_put, w_aug, w_for, w_it, w_rng1, w_rng2, w_enum, w_zip, wG_name, wG_tup, w_def, yes_some, yes_none, yes_bind, yes_map, yes_ite, slot, List.getElem?_cons_zero, List.getElem?_cons_succ, List.getElem?_nil, Option.getD_some, Option.getD_none, List.set_cons_zero, List.set_cons_succ, List.set_nil, List.map_cons, List.map_nil, List.cons_append, List.nil_append, List.length_cons, List.length_nil, List.replicate, Option.some.injEq, M.imm.injEq, exists_eq_left, exists_eq_left', datM, immD, frzE, isL, putI, retM, backM, putArgs, getM, intO, itemsD, seqItems, lstItems, List.append_nil, Option.map_some, Option.map_none, Option.bind_some, Option.bind_none, Bool.false_eq_true, if_true, if_false, Nat.reduceAdd, Nat.reduceSub, ↓reduceIte, and_true, true_and, reduceCtorEq, decide_eq_true_eq, addD, subD, mulD, divD, modD, pow_18, negD, intD, ltD, leD, gtD, geD, isND, isnotND, VD.getD, lenD, lenM, cutD, truD, atL_0, atL_1, atL_2, atL_3, atL_4, ix2_0, ix2_1, scountD, min2D, max2D, rng1D, rng2D, w_yesT, w_comp, w_dc, w_all1, w_any1, w_all2, w_any2, w_tupG1, w_tupG2, w_joinG1, w_getDS, w_itemS, w_inDS, w_notInDS, w_done1, w_putK, w_dnew, w_inR, w_notInR, w_lstFM, wipeE, backE, keepO, namesG, sepD, inRM, dctM, isDct, augAdd]
      refine wpF_mono (without_ok (fst_mem hc) (by omega)) ?_
      rintro r l ⟨rfl, rfl⟩
      simp only [w_var, w_c, w_op2, w_op1, w_ts2, w_ts1, w_and, w_or, w_not, w_tru, w_val, w_if, w_nilA, w_consA, w_tup, w_lst, w_imm, w_frzM, w_immF, w_frz, w_getS, w_lenS, w_len, w_noF, w_someF, w_cut, w_slotM, w_tupFM, w_lenOfM, w_srtFM, w_call, w_arNil, w_arE, w_arS, w_nx, w_seq, w_set, w_setM, w_asg, w_ret, w_retM, w_drop, w_ifS, w_retN, w_bk, w_ct, w_app, w_put, w_aug, w_for, w_it, w_rng1, w_rng2, w_enum, w_zip, wG_name, wG_tup, w_def, yes_some, yes_none, yes_bind, yes_map, yes_ite, slot, List.getElem?_cons_zero, List.getElem?_cons_succ, List.getElem?_nil, Option.getD_some, Option.getD_none, List.set_cons_zero, List.set_cons_succ, List.set_nil, List.map_cons, List.map_nil, List.cons_append, List.nil_append, List.length_cons, List.length_nil, List.replicate, Option.some.injEq, M.imm.injEq, exists_eq_left, exists_eq_left', datM, immD, frzE, isL, putI, retM, backM, putArgs, getM, intO, itemsD, seqItems, lstItems, List.append_nil, Option.map_some, Option.map_none, Option.bind_some, Option.bind_none, Bool.false_eq_true, if_true, if_false, Nat.reduceAdd, Nat.reduceSub, ↓reduceIte, and_true, true_and, reduceCtorEq, decide_eq_true_eq, addD, subD, mulD, divD, modD, pow_18, negD, intD, ltD, leD, gtD, geD, isND, isnotND, VD.getD, lenD, lenM, cutD, truD, atL_0, atL_1, atL_2, atL_3, atL_4, ix2_0, ix2_1, scountD, min2D, max2D, rng1D, rng2D, w_yesT, w_comp, w_dc, w_all1, w_any1, w_all2, w_any2, w_tupG1, w_tupG2, w_joinG1, w_getDS, w_itemS, w_inDS, w_notInDS, w_done1, w_putK, w_dnew, w_inR, w_notInR, w_lstFM, wipeE, backE, keepO, namesG, sepD, inRM, dctM, isDct, augAdd]
      refine ⟨wof v c, z ++ [c], _, by omega, by simp; omega, by omega, ?_, rfl⟩
      rw [← hW, hWv]
      simp
  rintro e ⟨o1, o3, rfl⟩
  simp only [w_var, w_c, w_op2, w_op1, w_ts2, w_ts1, w_and, w_or, w_not, w_tru, w_val, w_if, w_nilA, w_consA, w_tup, w_lst, w_imm, w_frzM, w_immF, w_frz, w_getS, w_lenS, w_len, w_noF, w_someF, w_cut, w_slotM, w_tupFM, w_lenOfM, w_srtFM, w_call, w_arNil, w_arE, w_arS, w_nx, w_seq, w_set, w_setM, w_asg, w_ret, w_retM, w_drop, w_ifS, w_retN, w_bk, w_ct, w_app, w_put, w_aug, w_for, w_it, w_rng1, w_rng2, w_enum, w_zip, wG_name, wG_tup, w_def, yes_some, yes_none, yes_bind, yes_map, yes_ite, slot, List.getElem?_cons_zero, List.getElem?_cons_succ, List.getElem?_nil, Option.getD_some, Option.getD_none, List.set_cons_zero, List.set_cons_succ, List.set_nil, List.map_cons, List.map_nil, List.cons_append, List.nil_append, List.length_cons, List.length_nil, List.replicate, Option.some.injEq, M.imm.injEq, exists_eq_left, exists_eq_left', datM, immD, frzE, isL, putI, retM, backM, putArgs, getM, intO, itemsD, seqItems, lstItems, List.append_nil, Option.map_some, Option.map_none, Option.bind_some, Option.bind_none, Bool.false_eq_true, if_true, if_false, Nat.reduceAdd, Nat.reduceSub, ↓reduceIte, and_true, true_and, reduceCtorEq, decide_eq_true_eq, addD, subD, mulD, divD, modD, pow_18, negD, intD, ltD, leD, gtD, geD, isND, isnotND, VD.getD, lenD, lenM, cutD, truD, atL_0, atL_1, atL_2, atL_3, atL_4, ix2_0, ix2_1, scountD, min2D, max2D, rng1D, rng2D, w_yesT, w_comp, w_dc, w_all1, w_any1, w_all2, w_any2, w_tupG1, w_tupG2, w_joinG1, w_getDS, w_itemS, w_inDS, w_notInDS, w_done1, w_putK, w_dnew, w_inR, w_notInR, w_lstFM, wipeE, backE, keepO, namesG, sepD, inRM, dctM, isDct, augAdd]

end
theorem words_ok {L ps} (ha : AlOk L ps) : ∀ (n z : Nat) (w : List Nat), w.length = n → n ≤ 7 → n < z → wpF (f_words_of z) [.imm (Al L ps), .imm (.str w)] fun r l => r = .imm (.tup ((allW (fr ps) n w).map .str)) ∧ l = [.imm (Al L ps), .imm (.str w)]
  | n, 0, _, _, _, h => absurd h (Nat.not_lt_zero _)
  | 0, z + 1, w, hw, _, _ => by
    have : w = [] := List.length_eq_zero_iff.mp hw
    subst this
    rw [f_words_of]
    simp only [w_var, w_c, w_op2, w_op1, w_ts2, w_ts1, w_and, w_or, w_not, w_tru, w_val, w_if, w_nilA, w_consA, w_tup, w_lst, w_imm, w_frzM, w_immF, w_frz, w_getS, w_lenS, w_len, w_noF, w_someF, w_cut, w_slotM, w_tupFM, w_lenOfM, w_srtFM, w_call, w_arNil, w_arE, w_arS, w_nx, w_seq, w_set, w_setM, w_asg, w_ret, w_retM, w_drop, w_ifS, w_retN, w_bk, w_ct, w_app, w_put, w_aug, w_for, w_it, w_rng1, w_rng2, w_enum, w_zip, wG_name, wG_tup, w_def, yes_some, yes_none, yes_bind, yes_map, yes_ite, slot, List.getElem?_cons_zero, List.getElem?_cons_succ, List.getElem?_nil, Option.getD_some, Option.getD_none, List.set_cons_zero, List.set_cons_succ, List.set_nil, List.map_cons, List.map_nil, List.cons_append, List.nil_append, List.length_cons, List.length_nil, List.replicate, Option.some.injEq, M.imm.injEq, exists_eq_left, exists_eq_left', datM, immD, frzE, isL, putI, retM, backM, putArgs, getM, intO, itemsD, seqItems, lstItems, List.append_nil, Option.map_some, Option.map_none, Option.bind_some, Option.bind_none, Bool.false_eq_true, if_true, if_false, Nat.reduceAdd, Nat.reduceSub, ↓reduceIte, and_true, true_and, reduceCtorEq, decide_eq_true_eq, addD, subD, mulD, divD, modD, pow_18, negD, intD, ltD, leD, gtD, geD, isND, isnotND, VD.getD, lenD, lenM, cutD, truD, atL_0, atL_1, atL_2, atL_3, atL_4, ix2_0, ix2_1, scountD, min2D, max2D, rng1D, rng2D, w_yesT, w_comp, w_dc, w_all1, w_any1, w_all2, w_any2, w_tupG1, w_tupG2, w_joinG1, w_getDS, w_itemS, w_inDS, w_notInDS, w_done1, w_putK, w_dnew, w_inR, w_notInR, w_lstFM, wipeE, backE, keepO, namesG, sepD, inRM, dctM, isDct, augAdd, List.isEmpty_nil, Bool.not_true, Bool.not_false]
    exact ⟨by decide, by decide, rfl⟩
  | n + 1, z + 1, w, hw, hn, hz => by
    have lb : w.length ≤ big := by unfold big; omega
    have hem : w.isEmpty = false := by cases w with
      | nil => simp at hw
      | cons _ _ => rfl
    have hfl := fst_len (f := fr ps) w
    rw [f_words_of]
    simp only [w_var, w_c, w_op2, w_op1, w_ts2, w_ts1, w_and, w_or, w_not, w_tru, w_val, w_if, w_nilA, w_consA, w_tup, w_lst, w_imm, w_frzM, w_immF, w_frz, w_getS, w_lenS, w_len, w_noF, w_someF, w_cut, w_slotM, w_tupFM, w_lenOfM, w_srtFM, w_call, w_arNil, w_arE, w_arS, w_nx, w_seq, w_set, w_setM, w_asg, w_ret, w_retM, w_drop, w_ifS, w_retN, w_bk, w_ct, w_app, w_put, w_aug, w_for, w_it, w_rng1, w_rng2, w_enum, w_zip, wG_name, wG_tup, w_def, yes_some, yes_none, yes_bind, yes_map, yes_ite, slot, List.getElem?_cons_zero, List.getElem?_cons_succ, List.getElem?_nil, Option.getD_some, Option.getD_none, List.set_cons_zero, List.set_cons_succ, List.set_nil, List.map_cons, List.map_nil, List.cons_append, List.nil_append, List.length_cons, List.length_nil, List.replicate, Option.some.injEq, M.imm.injEq, exists_eq_left, exists_eq_left', datM, immD, frzE, isL, putI, retM, backM, putArgs, getM, intO, itemsD, seqItems, lstItems, List.append_nil, Option.map_some, Option.map_none, Option.bind_some, Option.bind_none, Bool.false_eq_true, if_true, if_false, Nat.reduceAdd, Nat.reduceSub, ↓reduceIte, and_true, true_and, reduceCtorEq, decide_eq_true_eq, addD, subD, mulD, divD, modD, pow_18, negD, intD, ltD, leD, gtD, geD, isND, isnotND, VD.getD, lenD, lenM, cutD, truD, atL_0, atL_1, atL_2, atL_3, atL_4, ix2_0, ix2_1, scountD, min2D, max2D, rng1D, rng2D, w_yesT, w_comp, w_dc, w_all1, w_any1, w_all2, w_any2, w_tupG1, w_tupG2, w_joinG1, w_getDS, w_itemS, w_inDS, w_notInDS, w_done1, w_putK, w_dnew, w_inR, w_notInR, w_lstFM, wipeE, backE, keepO, namesG, sepD, inRM, dctM, isDct, augAdd, lb, hem, Bool.not_true, Bool.not_false]
    refine wpF_mono (firsts_ok ha (by omega)) ?_
    rintro r l ⟨rfl, rfl⟩
    simp only [w_var, w_c, w_op2, w_op1, w_ts2, w_ts1, w_and, w_or, w_not, w_tru, w_val, w_if, w_nilA, w_consA, w_tup, w_lst, w_imm, w_frzM, w_immF, w_frz, w_getS, w_lenS, w_len, w_noF, w_someF, w_cut, w_slotM, w_tupFM, w_lenOfM, w_srtFM, w_call, w_arNil, w_arE, w_arS, w_nx, w_seq, w_set, w_setM, w_asg, w_ret, w_retM, w_drop, w_ifS, w_retN, w_bk, w_ct, w_app, w_put, w_aug, w_for, w_it, w_rng1, w_rng2, w_enum, w_zip, wG_name, wG_tup, w_def, yes_some, yes_none, yes_bind, yes_map, yes_ite, slot, List.getElem?_cons_zero, List.getElem?_cons_succ, List.getElem?_nil, Option.getD_some, Option.getD_none, List.set_cons_zero, List.set_cons_succ, List.set_nil, List.map_cons, List.map_nil, List.cons_append, List.nil_append, List.length_cons, List.length_nil, List.replicate, Option.some.injEq, M.imm.injEq, exists_eq_left, exists_eq_left', datM, immD, frzE, isL, putI, retM, backM, putArgs, getM, intO, itemsD, seqItems, lstItems, List.append_nil, Option.map_some, Option.map_none, Option.bind_some, Option.bind_none, Bool.false_eq_true, if_true, if_false, Nat.reduceAdd, Nat.reduceSub, ↓reduceIte, and_true, true_and, reduceCtorEq, decide_eq_true_eq, addD, subD, mulD, divD, modD, pow_18, negD, intD, ltD, leD, gtD, geD, isND, isnotND, VD.getD, lenD, lenM, cutD, truD, atL_0, atL_1, atL_2, atL_3, atL_4, ix2_0, ix2_1, scountD, min2D, max2D, rng1D, rng2D, w_yesT, w_comp, w_dc, w_all1, w_any1, w_all2, w_any2, w_tupG1, w_tupG2, w_joinG1, w_getDS, w_itemS, w_inDS, w_notInDS, w_done1, w_putK, w_dnew, w_inR, w_notInR, w_lstFM, wipeE, backE, keepO, namesG, sepD, inRM, dctM, isDct, augAdd]
    rw [gen2_go (fun d => match d with | .str [c] => (allW (fr ps) n (wof w c)).map fun r => .str (c :: r) | _ => []) (fun d hd => ?_)]
    · have e : ((fst (fr ps) w).map fun c => D.str [c]).flatMap (fun d => match d with | .str [c] => (allW (fr ps) n (wof w c)).map fun r => D.str (c :: r) | _ => []) = (allW (fr ps) (n + 1) w).map .str := by
        rw [List.flatMap_map]
        simp only [allW, List.map_flatMap, List.map_map]
        rfl
      have hl := allW_len (f := fr ps) hw (by omega)
      have h8 : 8 ^ (n + 1) ≤ 8 ^ 7 := Nat.pow_le_pow_right (by decide) hn
      have h9 : 8 ^ 7 ≤ big := by decide
      simp only [e, w_var, w_c, w_op2, w_op1, w_ts2, w_ts1, w_and, w_or, w_not, w_tru, w_val, w_if, w_nilA, w_consA, w_tup, w_lst, w_imm, w_frzM, w_immF, w_frz, w_getS, w_lenS, w_len, w_noF, w_someF, w_cut, w_slotM, w_tupFM, w_lenOfM, w_srtFM, w_call, w_arNil, w_arE, w_arS, w_nx, w_seq, w_set, w_setM, w_asg, w_ret, w_retM, w_drop, w_ifS, w_retN, w_bk, w_ct, w_app, w_put, w_aug, w_for, w_it, w_rng1, w_rng2, w_enum, w_zip, wG_name, wG_tup, w_def, yes_some, yes_none, yes_bind, yes_map, yes_ite, slot, List.getElem?_cons_zero, List.getElem?_cons_succ, List.getElem?_nil, Option.getD_some, Option.getD_none, List.set_cons_zero, List.set_cons_succ, List.set_nil, List.map_cons, List.map_nil, List.cons_append, List.nil_append, List.length_cons, List.length_nil, List.replicate, Option.some.injEq, M.imm.injEq, exists_eq_left, exists_eq_left', datM, immD, frzE, isL, putI, retM, backM, putArgs, getM, intO, itemsD, seqItems, lstItems, List.append_nil, Option.map_some, Option.map_none, Option.bind_some, Option.bind_none, Bool.false_eq_true, if_true, if_false, Nat.reduceAdd, Nat.reduceSub, ↓reduceIte, and_true, true_and, reduceCtorEq, decide_eq_true_eq, addD, subD, mulD, divD, modD, pow_18, negD, intD, ltD, leD, gtD, geD, isND, isnotND, VD.getD, lenD, lenM, cutD, truD, atL_0, atL_1, atL_2, atL_3, atL_4, ix2_0, ix2_1, scountD, min2D, max2D, rng1D, rng2D, w_yesT, w_comp, w_dc, w_all1, w_any1, w_all2, w_any2, w_tupG1, w_tupG2, w_joinG1, w_getDS, w_itemS, w_inDS, w_notInDS, w_done1, w_putK, w_dnew, w_inR, w_notInR, w_lstFM, wipeE, backE, keepO, namesG, sepD, inRM, dctM, isDct, augAdd, List.length_map]
      omega
    · obtain ⟨c, hc, rfl⟩ := List.mem_map.mp hd
      have hcw := fst_mem hc
      have hwl := wof_len hcw
      simp only [turn2, w_var, w_c, w_op2, w_op1, w_ts2, w_ts1, w_and, w_or, w_not, w_tru, w_val, w_if, w_nilA, w_consA, w_tup, w_lst, w_imm, w_frzM, w_immF, w_frz, w_getS, w_lenS, w_len, w_noF, w_someF, w_cut, w_slotM, w_tupFM, w_lenOfM, w_srtFM, w_call, w_arNil, w_arE, w_arS, w_nx, w_seq, w_set, w_setM, w_asg, w_ret, w_retM, w_drop, w_ifS, w_retN, w_bk, w_ct, w_app, w_put, w_aug, w_for, w_it, w_rng1, w_rng2, w_enum, w_zip, wG_name, wG_tup, w_def, yes_some, yes_none, yes_bind, yes_map, yes_ite, slot, List.getElem?_cons_zero, List.getElem?_cons_succ, List.getElem?_nil, Option.getD_some, Option.getD_none, List.set_cons_zero, List.set_cons_succ, List.set_nil, List.map_cons, List.map_nil, List.cons_append, List.nil_append, List.length_cons, List.length_nil, List.replicate, Option.some.injEq, M.imm.injEq, exists_eq_left, exists_eq_left', datM, immD, frzE, isL, putI, retM, backM, putArgs, getM, intO, itemsD, seqItems, lstItems, List.append_nil, Option.map_some, Option.map_none, Option.bind_some, Option.bind_none, Bool.false_eq_true, if_true, if_false, Nat.reduceAdd, Nat.reduceSub, ↓reduceIte, and_true, true_and, reduceCtorEq, decide_eq_true_eq, addD, subD, mulD, divD, modD, pow_18, negD, intD, ltD, leD, gtD, geD, isND, isnotND, VD.getD, lenD, lenM, cutD, truD, atL_0, atL_1, atL_2, atL_3, atL_4, ix2_0, ix2_1, scountD, min2D, max2D, rng1D, rng2D, w_yesT, w_comp, w_dc, w_all1, w_any1, w_all2, w_any2, w_tupG1, w_tupG2, w_joinG1, w_getDS, w_itemS, w_inDS, w_notInDS, w_done1, w_putK, w_dnew, w_inR, w_notInR, w_lstFM, wipeE, backE, keepO, namesG, sepD, inRM, dctM, isDct, augAdd]
      refine wpF_mono (without_ok hcw (by omega)) ?_
      rintro r l ⟨rfl, rfl⟩
      simp only [w_var, w_c, w_op2, w_op1, w_ts2, w_ts1, w_and, w_or, w_not, w_tru, w_val, w_if, w_nilA, w_consA, w_tup, w_lst, w_imm, w_frzM, w_immF, w_frz, w_getS, w_lenS, w_len, w_noF, w_someF, w_cut, w_slotM, w_tupFM, w_lenOfM, w_srtFM, w_call, w_arNil, w_arE, w_arS, w_nx, w_seq, w_set, w_setM, w_asg, w_ret, w_retM, w_drop, w_ifS, w_retN, w_bk, w_ct, w_app, w_put, w_aug, w_for, w_it, w_rng1, w_rng2, w_enum, w_zip, wG_name, wG_tup, w_def, yes_some, yes_none, yes_bind, yes_map, yes_ite, slot, List.getElem?_cons_zero, List.getElem?_cons_succ, List.getElem?_nil, Option.getD_some, Option.getD_none, List.set_cons_zero, List.set_cons_succ, List.set_nil, List.map_cons, List.map_nil, List.cons_append, List.nil_append, List.length_cons, List.length_nil, List.replicate, Option.some.injEq, M.imm.injEq, exists_eq_left, exists_eq_left', datM, immD, frzE, isL, putI, retM, backM, putArgs, getM, intO, itemsD, seqItems, lstItems, List.append_nil, Option.map_some, Option.map_none, Option.bind_some, Option.bind_none, Bool.false_eq_true, if_true, if_false, Nat.reduceAdd, Nat.reduceSub, ↓reduceIte, and_true, true_and, reduceCtorEq, decide_eq_true_eq, addD, subD, mulD, divD, modD, pow_18, negD, intD, ltD, leD, gtD, geD, isND, isnotND, VD.getD, lenD, lenM, cutD, truD, atL_0, atL_1, atL_2, atL_3, atL_4, ix2_0, ix2_1, scountD, min2D, max2D, rng1D, rng2D, w_yesT, w_comp, w_dc, w_all1, w_any1, w_all2, w_any2, w_tupG1, w_tupG2, w_joinG1, w_getDS, w_itemS, w_inDS, w_notInDS, w_done1, w_putK, w_dnew, w_inR, w_notInR, w_lstFM, wipeE, backE, keepO, namesG, sepD, inRM, dctM, isDct, augAdd]
      refine wpF_mono (words_ok ha n z (wof w c) (by omega) (by omega) (by omega)) ?_
      rintro r l ⟨rfl, rfl⟩
      simp only [w_var, w_c, w_op2, w_op1, w_ts2, w_ts1, w_and, w_or, w_not, w_tru, w_val, w_if, w_nilA, w_consA, w_tup, w_lst, w_imm, w_frzM, w_immF, w_frz, w_getS, w_lenS, w_len, w_noF, w_someF, w_cut, w_slotM, w_tupFM, w_lenOfM, w_srtFM, w_call, w_arNil, w_arE, w_arS, w_nx, w_seq, w_set, w_setM, w_asg, w_ret, w_retM, w_drop, w_ifS, w_retN, w_bk, w_ct, w_app, w_put, w_aug, w_for, w_it, w_rng1, w_rng2, w_enum, w_zip, wG_name, wG_tup, w_def, yes_some, yes_none, yes_bind, yes_map, yes_ite, slot, List.getElem?_cons_zero, List.getElem?_cons_succ, List.getElem?_nil, Option.getD_some, Option.getD_none, List.set_cons_zero, List.set_cons_succ, List.set_nil, List.map_cons, List.map_nil, List.cons_append, List.nil_append, List.length_cons, List.length_nil, List.replicate, Option.some.injEq, M.imm.injEq, exists_eq_left, exists_eq_left', datM, immD, frzE, isL, putI, retM, backM, putArgs, getM, intO, itemsD, seqItems, lstItems, List.append_nil, Option.map_some, Option.map_none, Option.bind_some, Option.bind_none, Bool.false_eq_true, if_true, if_false, Nat.reduceAdd, Nat.reduceSub, ↓reduceIte, and_true, true_and, reduceCtorEq, decide_eq_true_eq, addD, subD, mulD, divD, modD, pow_18, negD, intD, ltD, leD, gtD, geD, isND, isnotND, VD.getD, lenD, lenM, cutD, truD, atL_0, atL_1, atL_2, atL_3, atL_4, ix2_0, ix2_1, scountD, min2D, max2D, rng1D, rng2D, w_yesT, w_comp, w_dc, w_all1, w_any1, w_all2, w_any2, w_tupG1, w_tupG2, w_joinG1, w_getDS, w_itemS, w_inDS, w_notInDS, w_done1, w_putK, w_dnew, w_inR, w_notInR, w_lstFM, wipeE, backE, keepO, namesG, sepD, inRM, dctM, isDct, augAdd]
      refine ⟨fun d => match d with | .str r => some (.str (c :: r)) | _ => none, ?_, fun d1 hd1 => ?_⟩
      · rw [List.filterMap_map]
        have : ((fun d => match d with | D.str r => some (D.str (c :: r)) | _ => none) ∘ D.str) = fun r => some (D.str (c :: r)) := rfl
        rw [this, fm_some]
      · obtain ⟨r, hr, rfl⟩ := List.mem_map.mp hd1
        have hrl := ((mem_allW (fr_comm ps) (fr_irr ha) (by omega)).mp hr).perm.length_eq
        simp only [turn1, w_var, w_c, w_op2, w_op1, w_ts2, w_ts1, w_and, w_or, w_not, w_tru, w_val, w_if, w_nilA, w_consA, w_tup, w_lst, w_imm, w_frzM, w_immF, w_frz, w_getS, w_lenS, w_len, w_noF, w_someF, w_cut, w_slotM, w_tupFM, w_lenOfM, w_srtFM, w_call, w_arNil, w_arE, w_arS, w_nx, w_seq, w_set, w_setM, w_asg, w_ret, w_retM, w_drop, w_ifS, w_retN, w_bk, w_ct, w_app, w_put, w_aug, w_for, w_it, w_rng1, w_rng2, w_enum, w_zip, wG_name, wG_tup, w_def, yes_some, yes_none, yes_bind, yes_map, yes_ite, slot, List.getElem?_cons_zero, List.getElem?_cons_succ, List.getElem?_nil, Option.getD_some, Option.getD_none, List.set_cons_zero, List.set_cons_succ, List.set_nil, List.map_cons, List.map_nil, List.cons_append, List.nil_append, List.length_cons, List.length_nil, List.replicate, Option.some.injEq, M.imm.injEq, exists_eq_left, exists_eq_left', datM, immD, frzE, isL, putI, retM, backM, putArgs, getM, intO, itemsD, seqItems, lstItems, List.append_nil, Option.map_some, Option.map_none, Option.bind_some, Option.bind_none, Bool.false_eq_true, if_true, if_false, Nat.reduceAdd, Nat.reduceSub, ↓reduceIte, and_true, true_and, reduceCtorEq, decide_eq_true_eq, addD, subD, mulD, divD, modD, pow_18, negD, intD, ltD, leD, gtD, geD, isND, isnotND, VD.getD, lenD, lenM, cutD, truD, atL_0, atL_1, atL_2, atL_3, atL_4, ix2_0, ix2_1, scountD, min2D, max2D, rng1D, rng2D, w_yesT, w_comp, w_dc, w_all1, w_any1, w_all2, w_any2, w_tupG1, w_tupG2, w_joinG1, w_getDS, w_itemS, w_inDS, w_notInDS, w_done1, w_putK, w_dnew, w_inR, w_notInR, w_lstFM, wipeE, backE, keepO, namesG, sepD, inRM, dctM, isDct, augAdd]
        unfold big; omega
theorem law_ok (ns : List Int) {m : M} (hm : m = .imm (.lst (ns.map .int)) ∨ m = .lst (ns.map .int)) : wpF f_law [m] fun r l => r = .imm (.bl true) := by
  simp only [f_law, b_law, w_def]
  refine seq_mid (fun e => ∃ box, IsBox box ∧ e = [some (.imm (.lst (ns.map .int))), some box, none, none, none, none, none]) ?_ ?_
  · rcases hm with rfl | rfl
    all_goals
      simp only [w_var, w_c, w_op2, w_op1, w_ts2, w_ts1, w_and, w_or, w_not, w_tru, w_val, w_if, w_nilA, w_consA, w_tup, w_lst, w_imm, w_frzM, w_immF, w_frz, w_getS, w_lenS, w_len, w_noF, w_someF, w_cut, w_slotM, w_tupFM, w_lenOfM, w_srtFM, w_call, w_arNil, w_arE, w_arS, w_nx, w_seq, w_set, w_setM, w_asg, w_ret, w_retM, w_drop, w_ifS, w_retN, w_bk, w_ct, w_app, w_put, w_aug, w_for, w_it, w_rng1, w_rng2, w_enum, w_zip, wG_name, wG_tup, w_def, yes_some, yes_none, yes_bind, yes_map, yes_ite, slot, List.getElem?_cons_zero, List.getElem?_cons_succ, List.getElem?_nil, Option.getD_some, Option.getD_none, List.set_cons_zero, List.set_cons_succ, List.set_nil, List.map_cons, List.map_nil, List.cons_append, List.nil_append, List.length_cons, List.length_nil, List.replicate, Option.some.injEq, M.imm.injEq, exists_eq_left, exists_eq_left', datM, immD, frzE, isL, putI, retM, backM, putArgs, getM, intO, itemsD, seqItems, lstItems, List.append_nil, Option.map_some, Option.map_none, Option.bind_some, Option.bind_none, Bool.false_eq_true, if_true, if_false, Nat.reduceAdd, Nat.reduceSub, ↓reduceIte, and_true, true_and, reduceCtorEq, decide_eq_true_eq, addD, subD, mulD, divD, modD, pow_18, negD, intD, ltD, leD, gtD, geD, isND, isnotND, VD.getD, lenD, lenM, cutD, truD, atL_0, atL_1, atL_2, atL_3, atL_4, ix2_0, ix2_1, scountD, min2D, max2D, rng1D, rng2D, w_yesT, w_comp, w_dc, w_all1, w_any1, w_all2, w_any2, w_tupG1, w_tupG2, w_joinG1, w_getDS, w_itemS, w_inDS, w_notInDS, w_done1, w_putK, w_dnew, w_inR, w_notInR, w_lstFM, wipeE, backE, keepO, namesG, sepD, inRM, dctM, isDct, augAdd]
      refine wpF_mono (box_ok ns) ?_
      rintro r l ⟨hb, rfl⟩
      simp only [w_var, w_c, w_op2, w_op1, w_ts2, w_ts1, w_and, w_or, w_not, w_tru, w_val, w_if, w_nilA, w_consA, w_tup, w_lst, w_imm, w_frzM, w_immF, w_frz, w_getS, w_lenS, w_len, w_noF, w_someF, w_cut, w_slotM, w_tupFM, w_lenOfM, w_srtFM, w_call, w_arNil, w_arE, w_arS, w_nx, w_seq, w_set, w_setM, w_asg, w_ret, w_retM, w_drop, w_ifS, w_retN, w_bk, w_ct, w_app, w_put, w_aug, w_for, w_it, w_rng1, w_rng2, w_enum, w_zip, wG_name, wG_tup, w_def, yes_some, yes_none, yes_bind, yes_map, yes_ite, slot, List.getElem?_cons_zero, List.getElem?_cons_succ, List.getElem?_nil, Option.getD_some, Option.getD_none, List.set_cons_zero, List.set_cons_succ, List.set_nil, List.map_cons, List.map_nil, List.cons_append, List.nil_append, List.length_cons, List.length_nil, List.replicate, Option.some.injEq, M.imm.injEq, exists_eq_left, exists_eq_left', datM, immD, frzE, isL, putI, retM, backM, putArgs, getM, intO, itemsD, seqItems, lstItems, List.append_nil, Option.map_some, Option.map_none, Option.bind_some, Option.bind_none, Bool.false_eq_true, if_true, if_false, Nat.reduceAdd, Nat.reduceSub, ↓reduceIte, and_true, true_and, reduceCtorEq, decide_eq_true_eq, addD, subD, mulD, divD, modD, pow_18, negD, intD, ltD, leD, gtD, geD, isND, isnotND, VD.getD, lenD, lenM, cutD, truD, atL_0, atL_1, atL_2, atL_3, atL_4, ix2_0, ix2_1, scountD, min2D, max2D, rng1D, rng2D, w_yesT, w_comp, w_dc, w_all1, w_any1, w_all2, w_any2, w_tupG1, w_tupG2, w_joinG1, w_getDS, w_itemS, w_inDS, w_notInDS, w_done1, w_putK, w_dnew, w_inR, w_notInR, w_lstFM, wipeE, backE, keepO, namesG, sepD, inRM, dctM, isDct, augAdd]
      exact ⟨r, hb, rfl⟩
  rintro e ⟨box, hb, rfl⟩
  refine seq_mid (fun e => ∃ box r, IsBox box ∧ e = some (.imm (.lst (ns.map .int))) :: some box :: r) ?_ ?_
  · simp only [w_for, w_rng1, w_c, slot, List.getElem?_cons_zero, List.getElem?_cons_succ, List.getElem?_nil, Option.getD_some, Option.getD_none, List.set_cons_zero, List.set_cons_succ, List.set_nil, List.map_cons, List.map_nil, List.cons_append, List.nil_append, List.length_cons, List.length_nil, List.replicate, Option.some.injEq, M.imm.injEq, exists_eq_left, exists_eq_left', datM, immD, frzE, isL, putI, retM, backM, putArgs, getM, intO, itemsD, seqItems, lstItems, List.append_nil, Option.map_some, Option.map_none, Option.bind_some, Option.bind_none, Bool.false_eq_true, if_true, if_false, Nat.reduceAdd, Nat.reduceSub, ↓reduceIte, and_true, true_and, reduceCtorEq, decide_eq_true_eq, addD, subD, mulD, divD, modD, pow_18, negD, intD, ltD, leD, gtD, geD, isND, isnotND, VD.getD, lenD, lenM, cutD, truD, atL_0, atL_1, atL_2, atL_3, atL_4, ix2_0, ix2_1, scountD, min2D, max2D, rng1D, rng2D, yes_some, yes_ite]
    refine ⟨by decide, ?_⟩
    refine for_inv (fun i e => ∃ box o2 o3 o4 o5 o6, IsBox box ∧ e = [some (.imm (.lst (ns.map .int))), some box, o2, o3, o4, o5, o6]) ⟨box, none, none, none, none, none, hb, rfl⟩ ?_ ?_
    · rintro i d e hi ⟨box, o2, o3, o4, o5, o6, hb, rfl⟩
      rw [wG_name]
      refine seq_mid (fun e => ∃ L ps box, AlOk L ps ∧ IsBox box ∧ e = [some (.imm (.lst (ns.map .int))), some box, some (.imm d), some (.imm (Al L ps)), o4, o5, o6]) ?_ ?_
      · simp only [w_var, w_c, w_op2, w_op1, w_ts2, w_ts1, w_and, w_or, w_not, w_tru, w_val, w_if, w_nilA, w_consA, w_tup, w_lst, w_imm, w_frzM, w_immF, w_frz, w_getS, w_lenS, w_len, w_noF, w_someF, w_cut, w_slotM, w_tupFM, w_lenOfM, w_srtFM, w_call, w_arNil, w_arE, w_arS, w_nx, w_seq, w_set, w_setM, w_asg, w_ret, w_retM, w_drop, w_ifS, w_retN, w_bk, w_ct, w_app, w_put, w_aug, w_for, w_it, w_rng1, w_rng2, w_enum, w_zip, wG_name, wG_tup, w_def, yes_some, yes_none, yes_bind, yes_map, yes_ite, slot, List.getElem?_cons_zero, List.getElem?_cons_succ, List.getElem?_nil, Option.getD_some, Option.getD_none, List.set_cons_zero, List.set_cons_succ, List.set_nil, List.map_cons, List.map_nil, List.cons_append, List.nil_append, List.length_cons, List.length_nil, List.replicate, Option.some.injEq, M.imm.injEq, exists_eq_left, exists_eq_left', datM, immD, frzE, isL, putI, retM, backM, putArgs, getM, intO, itemsD, seqItems, lstItems, List.append_nil, Option.map_some, Option.map_none, Option.bind_some, Option.bind_none, Bool.false_eq_true, if_true, if_false, Nat.reduceAdd, Nat.reduceSub, ↓reduceIte, and_true, true_and, reduceCtorEq, decide_eq_true_eq, addD, subD, mulD, divD, modD, pow_18, negD, intD, ltD, leD, gtD, geD, isND, isnotND, VD.getD, lenD, lenM, cutD, truD, atL_0, atL_1, atL_2, atL_3, atL_4, ix2_0, ix2_1, scountD, min2D, max2D, rng1D, rng2D, w_yesT, w_comp, w_dc, w_all1, w_any1, w_all2, w_any2, w_tupG1, w_tupG2, w_joinG1, w_getDS, w_itemS, w_inDS, w_notInDS, w_done1, w_putK, w_dnew, w_inR, w_notInR, w_lstFM, wipeE, backE, keepO, namesG, sepD, inRM, dctM, isDct, augAdd]
        refine wpF_mono (alphabet_ok hb (by decide) (by decide)) ?_
        rintro r l ⟨L, ps, ha, rfl, m', hm', rfl⟩
        simp only [w_var, w_c, w_op2, w_op1, w_ts2, w_ts1, w_and, w_or, w_not, w_tru, w_val, w_if, w_nilA, w_consA, w_tup, w_lst, w_imm, w_frzM, w_immF, w_frz, w_getS, w_lenS, w_len, w_noF, w_someF, w_cut, w_slotM, w_tupFM, w_lenOfM, w_srtFM, w_call, w_arNil, w_arE, w_arS, w_nx, w_seq, w_set, w_setM, w_asg, w_ret, w_retM, w_drop, w_ifS, w_retN, w_bk, w_ct, w_app, w_put, w_aug, w_for, w_it, w_rng1, w_rng2, w_enum, w_zip, wG_name, wG_tup, w_def, yes_some, yes_none, yes_bind, yes_map, yes_ite, slot, List.getElem?_cons_zero, List.getElem?_cons_succ, List.getElem?_nil, Option.getD_some, Option.getD_none, List.set_cons_zero, List.set_cons_succ, List.set_nil, List.map_cons, List.map_nil, List.cons_append, List.nil_append, List.length_cons, List.length_nil, List.replicate, Option.some.injEq, M.imm.injEq, exists_eq_left, exists_eq_left', datM, immD, frzE, isL, putI, retM, backM, putArgs, getM, intO, itemsD, seqItems, lstItems, List.append_nil, Option.map_some, Option.map_none, Option.bind_some, Option.bind_none, Bool.false_eq_true, if_true, if_false, Nat.reduceAdd, Nat.reduceSub, ↓reduceIte, and_true, true_and, reduceCtorEq, decide_eq_true_eq, addD, subD, mulD, divD, modD, pow_18, negD, intD, ltD, leD, gtD, geD, isND, isnotND, VD.getD, lenD, lenM, cutD, truD, atL_0, atL_1, atL_2, atL_3, atL_4, ix2_0, ix2_1, scountD, min2D, max2D, rng1D, rng2D, w_yesT, w_comp, w_dc, w_all1, w_any1, w_all2, w_any2, w_tupG1, w_tupG2, w_joinG1, w_getDS, w_itemS, w_inDS, w_notInDS, w_done1, w_putK, w_dnew, w_inR, w_notInR, w_lstFM, wipeE, backE, keepO, namesG, sepD, inRM, dctM, isDct, augAdd]
        exact ⟨L, ps, m', ha, hm', rfl⟩
      rintro e ⟨L, ps, box, ha, hb, rfl⟩
      have ir := fr_irr ha
      have sy := fr_comm ps
      refine seq_mid (fun e => ∃ w box, Wd L w ∧ w.length ≤ 7 ∧ IsBox box ∧ e = [some (.imm (.lst (ns.map .int))), some box, some (.imm d), some (.imm (Al L ps)), some (.imm (.str w)), o5, o6]) ?_ ?_
      · simp only [w_var, w_c, w_op2, w_op1, w_ts2, w_ts1, w_and, w_or, w_not, w_tru, w_val, w_if, w_nilA, w_consA, w_tup, w_lst, w_imm, w_frzM, w_immF, w_frz, w_getS, w_lenS, w_len, w_noF, w_someF, w_cut, w_slotM, w_tupFM, w_lenOfM, w_srtFM, w_call, w_arNil, w_arE, w_arS, w_nx, w_seq, w_set, w_setM, w_asg, w_ret, w_retM, w_drop, w_ifS, w_retN, w_bk, w_ct, w_app, w_put, w_aug, w_for, w_it, w_rng1, w_rng2, w_enum, w_zip, wG_name, wG_tup, w_def, yes_some, yes_none, yes_bind, yes_map, yes_ite, slot, List.getElem?_cons_zero, List.getElem?_cons_succ, List.getElem?_nil, Option.getD_some, Option.getD_none, List.set_cons_zero, List.set_cons_succ, List.set_nil, List.map_cons, List.map_nil, List.cons_append, List.nil_append, List.length_cons, List.length_nil, List.replicate, Option.some.injEq, M.imm.injEq, exists_eq_left, exists_eq_left', datM, immD, frzE, isL, putI, retM, backM, putArgs, getM, intO, itemsD, seqItems, lstItems, List.append_nil, Option.map_some, Option.map_none, Option.bind_some, Option.bind_none, Bool.false_eq_true, if_true, if_false, Nat.reduceAdd, Nat.reduceSub, ↓reduceIte, and_true, true_and, reduceCtorEq, decide_eq_true_eq, addD, subD, mulD, divD, modD, pow_18, negD, intD, ltD, leD, gtD, geD, isND, isnotND, VD.getD, lenD, lenM, cutD, truD, atL_0, atL_1, atL_2, atL_3, atL_4, ix2_0, ix2_1, scountD, min2D, max2D, rng1D, rng2D, w_yesT, w_comp, w_dc, w_all1, w_any1, w_all2, w_any2, w_tupG1, w_tupG2, w_joinG1, w_getDS, w_itemS, w_inDS, w_notInDS, w_done1, w_putK, w_dnew, w_inR, w_notInR, w_lstFM, wipeE, backE, keepO, namesG, sepD, inRM, dctM, isDct, augAdd]
        refine wpF_mono (word_ok hb ha (by decide) (by decide)) ?_
        rintro r l ⟨w, hw, hl, rfl, m', hm', rfl⟩
        simp only [w_var, w_c, w_op2, w_op1, w_ts2, w_ts1, w_and, w_or, w_not, w_tru, w_val, w_if, w_nilA, w_consA, w_tup, w_lst, w_imm, w_frzM, w_immF, w_frz, w_getS, w_lenS, w_len, w_noF, w_someF, w_cut, w_slotM, w_tupFM, w_lenOfM, w_srtFM, w_call, w_arNil, w_arE, w_arS, w_nx, w_seq, w_set, w_setM, w_asg, w_ret, w_retM, w_drop, w_ifS, w_retN, w_bk, w_ct, w_app, w_put, w_aug, w_for, w_it, w_rng1, w_rng2, w_enum, w_zip, wG_name, wG_tup, w_def, yes_some, yes_none, yes_bind, yes_map, yes_ite, slot, List.getElem?_cons_zero, List.getElem?_cons_succ, List.getElem?_nil, Option.getD_some, Option.getD_none, List.set_cons_zero, List.set_cons_succ, List.set_nil, List.map_cons, List.map_nil, List.cons_append, List.nil_append, List.length_cons, List.length_nil, List.replicate, Option.some.injEq, M.imm.injEq, exists_eq_left, exists_eq_left', datM, immD, frzE, isL, putI, retM, backM, putArgs, getM, intO, itemsD, seqItems, lstItems, List.append_nil, Option.map_some, Option.map_none, Option.bind_some, Option.bind_none, Bool.false_eq_true, if_true, if_false, Nat.reduceAdd, Nat.reduceSub, ↓reduceIte, and_true, true_and, reduceCtorEq, decide_eq_true_eq, addD, subD, mulD, divD, modD, pow_18, negD, intD, ltD, leD, gtD, geD, isND, isnotND, VD.getD, lenD, lenM, cutD, truD, atL_0, atL_1, atL_2, atL_3, atL_4, ix2_0, ix2_1, scountD, min2D, max2D, rng1D, rng2D, w_yesT, w_comp, w_dc, w_all1, w_any1, w_all2, w_any2, w_tupG1, w_tupG2, w_joinG1, w_getDS, w_itemS, w_inDS, w_notInDS, w_done1, w_putK, w_dnew, w_inR, w_notInR, w_lstFM, wipeE, backE, keepO, namesG, sepD, inRM, dctM, isDct, augAdd]
        exact ⟨w, m', hw, by omega, hm', rfl⟩
      rintro e ⟨w, box, hw, hwl, hb, rfl⟩
      have hX := allW_lt (f := fr ps) ir w.length w
      have mX := fun u => mem_allW sy ir (u := u) (rfl : w.length = w.length)
      have hXl : (allW (fr ps) w.length w).length ≤ big := by
        have h1 := allW_len (f := fr ps) (rfl : w.length = w.length) (by omega)
        have h8 : 8 ^ w.length ≤ 8 ^ 7 := Nat.pow_le_pow_right (by decide) hwl
        have h9 : 8 ^ 7 ≤ big := by decide
        omega
      obtain ⟨l1, l2⟩ := leastW_ok sy ir (rfl : w.length = w.length)
      obtain ⟨g1, g2⟩ := greatW_ok sy ir (rfl : w.length = w.length)
      have h0 := head_min hX ((mX _).mpr l1) fun u hu => l2 u ((mX u).mp hu)
      have hz := last_max hX ((mX _).mpr g1) fun u hu => g2 u ((mX u).mp hu)
      have hXpos : 0 < (allW (fr ps) w.length w).length := List.length_pos_of_mem ((mX _).mpr l1)
      have lo := least_ok ha (w := w) (by omega)
      have go := greatest_ok ha (w := w) (by omega)
      have wo := words_ok ha w.length 12 w rfl hwl (by omega)
      generalize hXX : allW (fr ps) w.length w = X at *
      generalize hl0 : leastW (fr ps) w.length w = w0 at *
      generalize hgg : greatW (fr ps) w.length w = wz at *
      refine seq_mid (fun e => e = [some (.imm (.lst (ns.map .int))), some box, some (.imm d), some (.imm (Al L ps)), some (.imm (.str w)), some (.imm (.lst (X.map .str))), o6]) ?_ ?_
      · simp only [w_var, w_c, w_op2, w_op1, w_ts2, w_ts1, w_and, w_or, w_not, w_tru, w_val, w_if, w_nilA, w_consA, w_tup, w_lst, w_imm, w_frzM, w_immF, w_frz, w_getS, w_lenS, w_len, w_noF, w_someF, w_cut, w_slotM, w_tupFM, w_lenOfM, w_srtFM, w_call, w_arNil, w_arE, w_arS, w_nx, w_seq, w_set, w_setM, w_asg, w_ret, w_retM, w_drop, w_ifS, w_retN, w_bk, w_ct, w_app, w_put, w_aug, w_for, w_it, w_rng1, w_rng2, w_enum, w_zip, wG_name, wG_tup, w_def, yes_some, yes_none, yes_bind, yes_map, yes_ite, slot, List.getElem?_cons_zero, List.getElem?_cons_succ, List.getElem?_nil, Option.getD_some, Option.getD_none, List.set_cons_zero, List.set_cons_succ, List.set_nil, List.map_cons, List.map_nil, List.cons_append, List.nil_append, List.length_cons, List.length_nil, List.replicate, Option.some.injEq, M.imm.injEq, exists_eq_left, exists_eq_left', datM, immD, frzE, isL, putI, retM, backM, putArgs, getM, intO, itemsD, seqItems, lstItems, List.append_nil, Option.map_some, Option.map_none, Option.bind_some, Option.bind_none, Bool.false_eq_true, if_true, if_false, Nat.reduceAdd, Nat.reduceSub, ↓reduceIte, and_true, true_and, reduceCtorEq, decide_eq_true_eq, addD, subD, mulD, divD, modD, pow_18, negD, intD, ltD, leD, gtD, geD, isND, isnotND, VD.getD, lenD, lenM, cutD, truD, atL_0, atL_1, atL_2, atL_3, atL_4, ix2_0, ix2_1, scountD, min2D, max2D, rng1D, rng2D, w_yesT, w_comp, w_dc, w_all1, w_any1, w_all2, w_any2, w_tupG1, w_tupG2, w_joinG1, w_getDS, w_itemS, w_inDS, w_notInDS, w_done1, w_putK, w_dnew, w_inR, w_notInR, w_lstFM, wipeE, backE, keepO, namesG, sepD, inRM, dctM, isDct, augAdd]
        refine wpF_mono (class_ok ha hw (by omega)) ?_
        rintro r l ⟨⟨S, rfl, hnd, hS⟩, rfl⟩
        have hSX : srtW S = X := srt_ext (srtW_lt hnd) hX fun u => by rw [(srtW_perm S).mem_iff, hS u, mX u]
        have hSl : S.length ≤ big := by rw [← (srtW_perm S).length_eq, hSX]; exact hXl
        simp only [w_var, w_c, w_op2, w_op1, w_ts2, w_ts1, w_and, w_or, w_not, w_tru, w_val, w_if, w_nilA, w_consA, w_tup, w_lst, w_imm, w_frzM, w_immF, w_frz, w_getS, w_lenS, w_len, w_noF, w_someF, w_cut, w_slotM, w_tupFM, w_lenOfM, w_srtFM, w_call, w_arNil, w_arE, w_arS, w_nx, w_seq, w_set, w_setM, w_asg, w_ret, w_retM, w_drop, w_ifS, w_retN, w_bk, w_ct, w_app, w_put, w_aug, w_for, w_it, w_rng1, w_rng2, w_enum, w_zip, wG_name, wG_tup, w_def, yes_some, yes_none, yes_bind, yes_map, yes_ite, slot, List.getElem?_cons_zero, List.getElem?_cons_succ, List.getElem?_nil, Option.getD_some, Option.getD_none, List.set_cons_zero, List.set_cons_succ, List.set_nil, List.map_cons, List.map_nil, List.cons_append, List.nil_append, List.length_cons, List.length_nil, List.replicate, Option.some.injEq, M.imm.injEq, exists_eq_left, exists_eq_left', datM, immD, frzE, isL, putI, retM, backM, putArgs, getM, intO, itemsD, seqItems, lstItems, List.append_nil, Option.map_some, Option.map_none, Option.bind_some, Option.bind_none, Bool.false_eq_true, if_true, if_false, Nat.reduceAdd, Nat.reduceSub, ↓reduceIte, and_true, true_and, reduceCtorEq, decide_eq_true_eq, addD, subD, mulD, divD, modD, pow_18, negD, intD, ltD, leD, gtD, geD, isND, isnotND, VD.getD, lenD, lenM, cutD, truD, atL_0, atL_1, atL_2, atL_3, atL_4, ix2_0, ix2_1, scountD, min2D, max2D, rng1D, rng2D, w_yesT, w_comp, w_dc, w_all1, w_any1, w_all2, w_any2, w_tupG1, w_tupG2, w_joinG1, w_getDS, w_itemS, w_inDS, w_notInDS, w_done1, w_putK, w_dnew, w_inR, w_notInR, w_lstFM, wipeE, backE, keepO, namesG, sepD, inRM, dctM, isDct, augAdd, sort_strs hSl, hSX]
      rintro e rfl
      have hXd : (X.map D.str)[0]? = some (.str w0) := by rw [List.getElem?_map, h0]; rfl
      have hXz : (X.map D.str)[X.length - 1]? = some (.str wz) := by rw [List.getElem?_map, hz]; rfl
      have a0 : atL (X.map D.str) 0 = some (.str w0) := atL_nat (k := 0) hXd
      have az : atL (X.map D.str) ((X.length : Int) - 1) = some (.str wz) := by
        have : (X.length : Int) - 1 = ((X.length - 1 : Nat) : Int) := by omega
        rw [this]; exact atL_nat hXz
      have sX : smp (.tup (X.map .str)) = true := by
        simp only [smp, Bool.and_eq_true, decide_eq_true_eq, List.length_map]
        exact ⟨smpL_of fun d hd => by obtain ⟨u, _, rfl⟩ := List.mem_map.mp hd; rfl, hXl⟩
      have dX : dep (.tup (X.map .str)) < 12 := by
        simp only [dep, depL_strs]; omega
      have ss : ∀ u : List Nat, wpF (f__law_same 12) [.imm (.str u), .imm (.str u)] fun r l => r = .imm (.bl true) ∧ l = [.imm (.str u), .imm (.str u)] := fun u => same_refl 12 (.str u) rfl (by simp [dep])
      refine seq_mid (fun e => e = [some (.imm (.lst (ns.map .int))), some box, some (.imm d), some (.imm (Al L ps)), some (.imm (.str w)), some (.imm (.lst (X.map .str))), o6]) ?_ ?_
      · simp only [w_var, w_c, w_op2, w_op1, w_ts2, w_ts1, w_and, w_or, w_not, w_tru, w_val, w_if, w_nilA, w_consA, w_tup, w_lst, w_imm, w_frzM, w_immF, w_frz, w_getS, w_lenS, w_len, w_noF, w_someF, w_cut, w_slotM, w_tupFM, w_lenOfM, w_srtFM, w_call, w_arNil, w_arE, w_arS, w_nx, w_seq, w_set, w_setM, w_asg, w_ret, w_retM, w_drop, w_ifS, w_retN, w_bk, w_ct, w_app, w_put, w_aug, w_for, w_it, w_rng1, w_rng2, w_enum, w_zip, wG_name, wG_tup, w_def, yes_some, yes_none, yes_bind, yes_map, yes_ite, slot, List.getElem?_cons_zero, List.getElem?_cons_succ, List.getElem?_nil, Option.getD_some, Option.getD_none, List.set_cons_zero, List.set_cons_succ, List.set_nil, List.map_cons, List.map_nil, List.cons_append, List.nil_append, List.length_cons, List.length_nil, List.replicate, Option.some.injEq, M.imm.injEq, exists_eq_left, exists_eq_left', datM, immD, frzE, isL, putI, retM, backM, putArgs, getM, intO, itemsD, seqItems, lstItems, List.append_nil, Option.map_some, Option.map_none, Option.bind_some, Option.bind_none, Bool.false_eq_true, if_true, if_false, Nat.reduceAdd, Nat.reduceSub, ↓reduceIte, and_true, true_and, reduceCtorEq, decide_eq_true_eq, addD, subD, mulD, divD, modD, pow_18, negD, intD, ltD, leD, gtD, geD, isND, isnotND, VD.getD, lenD, lenM, cutD, truD, atL_0, atL_1, atL_2, atL_3, atL_4, ix2_0, ix2_1, scountD, min2D, max2D, rng1D, rng2D, w_yesT, w_comp, w_dc, w_all1, w_any1, w_all2, w_any2, w_tupG1, w_tupG2, w_joinG1, w_getDS, w_itemS, w_inDS, w_notInDS, w_done1, w_putK, w_dnew, w_inR, w_notInR, w_lstFM, wipeE, backE, keepO, namesG, sepD, inRM, dctM, isDct, augAdd]
        refine wpF_mono wo ?_
        rintro r l ⟨rfl, rfl⟩
        simp only [w_var, w_c, w_op2, w_op1, w_ts2, w_ts1, w_and, w_or, w_not, w_tru, w_val, w_if, w_nilA, w_consA, w_tup, w_lst, w_imm, w_frzM, w_immF, w_frz, w_getS, w_lenS, w_len, w_noF, w_someF, w_cut, w_slotM, w_tupFM, w_lenOfM, w_srtFM, w_call, w_arNil, w_arE, w_arS, w_nx, w_seq, w_set, w_setM, w_asg, w_ret, w_retM, w_drop, w_ifS, w_retN, w_bk, w_ct, w_app, w_put, w_aug, w_for, w_it, w_rng1, w_rng2, w_enum, w_zip, wG_name, wG_tup, w_def, yes_some, yes_none, yes_bind, yes_map, yes_ite, slot, List.getElem?_cons_zero, List.getElem?_cons_succ, List.getElem?_nil, Option.getD_some, Option.getD_none, List.set_cons_zero, List.set_cons_succ, List.set_nil, List.map_cons, List.map_nil, List.cons_append, List.nil_append, List.length_cons, List.length_nil, List.replicate, Option.some.injEq, M.imm.injEq, exists_eq_left, exists_eq_left', datM, immD, frzE, isL, putI, retM, backM, putArgs, getM, intO, itemsD, seqItems, lstItems, List.append_nil, Option.map_some, Option.map_none, Option.bind_some, Option.bind_none, Bool.false_eq_true, if_true, if_false, Nat.reduceAdd, Nat.reduceSub, ↓reduceIte, and_true, true_and, reduceCtorEq, decide_eq_true_eq, addD, subD, mulD, divD, modD, pow_18, negD, intD, ltD, leD, gtD, geD, isND, isnotND, VD.getD, lenD, lenM, cutD, truD, atL_0, atL_1, atL_2, atL_3, atL_4, ix2_0, ix2_1, scountD, min2D, max2D, rng1D, rng2D, w_yesT, w_comp, w_dc, w_all1, w_any1, w_all2, w_any2, w_tupG1, w_tupG2, w_joinG1, w_getDS, w_itemS, w_inDS, w_notInDS, w_done1, w_putK, w_dnew, w_inR, w_notInR, w_lstFM, wipeE, backE, keepO, namesG, sepD, inRM, dctM, isDct, augAdd]
        refine wpF_mono (same_refl 12 _ sX dX) ?_
        rintro r l ⟨rfl, rfl⟩
        simp only [w_var, w_c, w_op2, w_op1, w_ts2, w_ts1, w_and, w_or, w_not, w_tru, w_val, w_if, w_nilA, w_consA, w_tup, w_lst, w_imm, w_frzM, w_immF, w_frz, w_getS, w_lenS, w_len, w_noF, w_someF, w_cut, w_slotM, w_tupFM, w_lenOfM, w_srtFM, w_call, w_arNil, w_arE, w_arS, w_nx, w_seq, w_set, w_setM, w_asg, w_ret, w_retM, w_drop, w_ifS, w_retN, w_bk, w_ct, w_app, w_put, w_aug, w_for, w_it, w_rng1, w_rng2, w_enum, w_zip, wG_name, wG_tup, w_def, yes_some, yes_none, yes_bind, yes_map, yes_ite, slot, List.getElem?_cons_zero, List.getElem?_cons_succ, List.getElem?_nil, Option.getD_some, Option.getD_none, List.set_cons_zero, List.set_cons_succ, List.set_nil, List.map_cons, List.map_nil, List.cons_append, List.nil_append, List.length_cons, List.length_nil, List.replicate, Option.some.injEq, M.imm.injEq, exists_eq_left, exists_eq_left', datM, immD, frzE, isL, putI, retM, backM, putArgs, getM, intO, itemsD, seqItems, lstItems, List.append_nil, Option.map_some, Option.map_none, Option.bind_some, Option.bind_none, Bool.false_eq_true, if_true, if_false, Nat.reduceAdd, Nat.reduceSub, ↓reduceIte, and_true, true_and, reduceCtorEq, decide_eq_true_eq, addD, subD, mulD, divD, modD, pow_18, negD, intD, ltD, leD, gtD, geD, isND, isnotND, VD.getD, lenD, lenM, cutD, truD, atL_0, atL_1, atL_2, atL_3, atL_4, ix2_0, ix2_1, scountD, min2D, max2D, rng1D, rng2D, w_yesT, w_comp, w_dc, w_all1, w_any1, w_all2, w_any2, w_tupG1, w_tupG2, w_joinG1, w_getDS, w_itemS, w_inDS, w_notInDS, w_done1, w_putK, w_dnew, w_inR, w_notInR, w_lstFM, wipeE, backE, keepO, namesG, sepD, inRM, dctM, isDct, augAdd, Bool.not_true]
      rintro e rfl
      refine seq_mid (fun e => e = [some (.imm (.lst (ns.map .int))), some box, some (.imm d), some (.imm (Al L ps)), some (.imm (.str w)), some (.imm (.lst (X.map .str))), o6]) ?_ ?_
      · simp only [w_var, w_c, w_op2, w_op1, w_ts2, w_ts1, w_and, w_or, w_not, w_tru, w_val, w_if, w_nilA, w_consA, w_tup, w_lst, w_imm, w_frzM, w_immF, w_frz, w_getS, w_lenS, w_len, w_noF, w_someF, w_cut, w_slotM, w_tupFM, w_lenOfM, w_srtFM, w_call, w_arNil, w_arE, w_arS, w_nx, w_seq, w_set, w_setM, w_asg, w_ret, w_retM, w_drop, w_ifS, w_retN, w_bk, w_ct, w_app, w_put, w_aug, w_for, w_it, w_rng1, w_rng2, w_enum, w_zip, wG_name, wG_tup, w_def, yes_some, yes_none, yes_bind, yes_map, yes_ite, slot, List.getElem?_cons_zero, List.getElem?_cons_succ, List.getElem?_nil, Option.getD_some, Option.getD_none, List.set_cons_zero, List.set_cons_succ, List.set_nil, List.map_cons, List.map_nil, List.cons_append, List.nil_append, List.length_cons, List.length_nil, List.replicate, Option.some.injEq, M.imm.injEq, exists_eq_left, exists_eq_left', datM, immD, frzE, isL, putI, retM, backM, putArgs, getM, intO, itemsD, seqItems, lstItems, List.append_nil, Option.map_some, Option.map_none, Option.bind_some, Option.bind_none, Bool.false_eq_true, if_true, if_false, Nat.reduceAdd, Nat.reduceSub, ↓reduceIte, and_true, true_and, reduceCtorEq, decide_eq_true_eq, addD, subD, mulD, divD, modD, pow_18, negD, intD, ltD, leD, gtD, geD, isND, isnotND, VD.getD, lenD, lenM, cutD, truD, atL_0, atL_1, atL_2, atL_3, atL_4, ix2_0, ix2_1, scountD, min2D, max2D, rng1D, rng2D, w_yesT, w_comp, w_dc, w_all1, w_any1, w_all2, w_any2, w_tupG1, w_tupG2, w_joinG1, w_getDS, w_itemS, w_inDS, w_notInDS, w_done1, w_putK, w_dnew, w_inR, w_notInR, w_lstFM, wipeE, backE, keepO, namesG, sepD, inRM, dctM, isDct, augAdd]
        refine wpF_mono lo ?_
        rintro r l ⟨rfl, rfl⟩
        simp only [w_var, w_c, w_op2, w_op1, w_ts2, w_ts1, w_and, w_or, w_not, w_tru, w_val, w_if, w_nilA, w_consA, w_tup, w_lst, w_imm, w_frzM, w_immF, w_frz, w_getS, w_lenS, w_len, w_noF, w_someF, w_cut, w_slotM, w_tupFM, w_lenOfM, w_srtFM, w_call, w_arNil, w_arE, w_arS, w_nx, w_seq, w_set, w_setM, w_asg, w_ret, w_retM, w_drop, w_ifS, w_retN, w_bk, w_ct, w_app, w_put, w_aug, w_for, w_it, w_rng1, w_rng2, w_enum, w_zip, wG_name, wG_tup, w_def, yes_some, yes_none, yes_bind, yes_map, yes_ite, slot, List.getElem?_cons_zero, List.getElem?_cons_succ, List.getElem?_nil, Option.getD_some, Option.getD_none, List.set_cons_zero, List.set_cons_succ, List.set_nil, List.map_cons, List.map_nil, List.cons_append, List.nil_append, List.length_cons, List.length_nil, List.replicate, Option.some.injEq, M.imm.injEq, exists_eq_left, exists_eq_left', datM, immD, frzE, isL, putI, retM, backM, putArgs, getM, intO, itemsD, seqItems, lstItems, List.append_nil, Option.map_some, Option.map_none, Option.bind_some, Option.bind_none, Bool.false_eq_true, if_true, if_false, Nat.reduceAdd, Nat.reduceSub, ↓reduceIte, and_true, true_and, reduceCtorEq, decide_eq_true_eq, addD, subD, mulD, divD, modD, pow_18, negD, intD, ltD, leD, gtD, geD, isND, isnotND, VD.getD, lenD, lenM, cutD, truD, atL_0, atL_1, atL_2, atL_3, atL_4, ix2_0, ix2_1, scountD, min2D, max2D, rng1D, rng2D, w_yesT, w_comp, w_dc, w_all1, w_any1, w_all2, w_any2, w_tupG1, w_tupG2, w_joinG1, w_getDS, w_itemS, w_inDS, w_notInDS, w_done1, w_putK, w_dnew, w_inR, w_notInR, w_lstFM, wipeE, backE, keepO, namesG, sepD, inRM, dctM, isDct, augAdd, a0]
        refine wpF_mono (ss w0) ?_
        rintro r l ⟨rfl, rfl⟩
        simp only [w_var, w_c, w_op2, w_op1, w_ts2, w_ts1, w_and, w_or, w_not, w_tru, w_val, w_if, w_nilA, w_consA, w_tup, w_lst, w_imm, w_frzM, w_immF, w_frz, w_getS, w_lenS, w_len, w_noF, w_someF, w_cut, w_slotM, w_tupFM, w_lenOfM, w_srtFM, w_call, w_arNil, w_arE, w_arS, w_nx, w_seq, w_set, w_setM, w_asg, w_ret, w_retM, w_drop, w_ifS, w_retN, w_bk, w_ct, w_app, w_put, w_aug, w_for, w_it, w_rng1, w_rng2, w_enum, w_zip, wG_name, wG_tup, w_def, yes_some, yes_none, yes_bind, yes_map, yes_ite, slot, List.getElem?_cons_zero, List.getElem?_cons_succ, List.getElem?_nil, Option.getD_some, Option.getD_none, List.set_cons_zero, List.set_cons_succ, List.set_nil, List.map_cons, List.map_nil, List.cons_append, List.nil_append, List.length_cons, List.length_nil, List.replicate, Option.some.injEq, M.imm.injEq, exists_eq_left, exists_eq_left', datM, immD, frzE, isL, putI, retM, backM, putArgs, getM, intO, itemsD, seqItems, lstItems, List.append_nil, Option.map_some, Option.map_none, Option.bind_some, Option.bind_none, Bool.false_eq_true, if_true, if_false, Nat.reduceAdd, Nat.reduceSub, ↓reduceIte, and_true, true_and, reduceCtorEq, decide_eq_true_eq, addD, subD, mulD, divD, modD, pow_18, negD, intD, ltD, leD, gtD, geD, isND, isnotND, VD.getD, lenD, lenM, cutD, truD, atL_0, atL_1, atL_2, atL_3, atL_4, ix2_0, ix2_1, scountD, min2D, max2D, rng1D, rng2D, w_yesT, w_comp, w_dc, w_all1, w_any1, w_all2, w_any2, w_tupG1, w_tupG2, w_joinG1, w_getDS, w_itemS, w_inDS, w_notInDS, w_done1, w_putK, w_dnew, w_inR, w_notInR, w_lstFM, wipeE, backE, keepO, namesG, sepD, inRM, dctM, isDct, augAdd, Bool.not_true]
        refine wpF_mono go ?_
        rintro r l ⟨rfl, rfl⟩
        simp only [w_var, w_c, w_op2, w_op1, w_ts2, w_ts1, w_and, w_or, w_not, w_tru, w_val, w_if, w_nilA, w_consA, w_tup, w_lst, w_imm, w_frzM, w_immF, w_frz, w_getS, w_lenS, w_len, w_noF, w_someF, w_cut, w_slotM, w_tupFM, w_lenOfM, w_srtFM, w_call, w_arNil, w_arE, w_arS, w_nx, w_seq, w_set, w_setM, w_asg, w_ret, w_retM, w_drop, w_ifS, w_retN, w_bk, w_ct, w_app, w_put, w_aug, w_for, w_it, w_rng1, w_rng2, w_enum, w_zip, wG_name, wG_tup, w_def, yes_some, yes_none, yes_bind, yes_map, yes_ite, slot, List.getElem?_cons_zero, List.getElem?_cons_succ, List.getElem?_nil, Option.getD_some, Option.getD_none, List.set_cons_zero, List.set_cons_succ, List.set_nil, List.map_cons, List.map_nil, List.cons_append, List.nil_append, List.length_cons, List.length_nil, List.replicate, Option.some.injEq, M.imm.injEq, exists_eq_left, exists_eq_left', datM, immD, frzE, isL, putI, retM, backM, putArgs, getM, intO, itemsD, seqItems, lstItems, List.append_nil, Option.map_some, Option.map_none, Option.bind_some, Option.bind_none, Bool.false_eq_true, if_true, if_false, Nat.reduceAdd, Nat.reduceSub, ↓reduceIte, and_true, true_and, reduceCtorEq, decide_eq_true_eq, addD, subD, mulD, divD, modD, pow_18, negD, intD, ltD, leD, gtD, geD, isND, isnotND, VD.getD, lenD, lenM, cutD, truD, atL_0, atL_1, atL_2, atL_3, atL_4, ix2_0, ix2_1, scountD, min2D, max2D, rng1D, rng2D, w_yesT, w_comp, w_dc, w_all1, w_any1, w_all2, w_any2, w_tupG1, w_tupG2, w_joinG1, w_getDS, w_itemS, w_inDS, w_notInDS, w_done1, w_putK, w_dnew, w_inR, w_notInR, w_lstFM, wipeE, backE, keepO, namesG, sepD, inRM, dctM, isDct, augAdd, List.length_map, az]
        refine wpF_mono (ss wz) ?_
        rintro r l ⟨rfl, rfl⟩
        simp only [w_var, w_c, w_op2, w_op1, w_ts2, w_ts1, w_and, w_or, w_not, w_tru, w_val, w_if, w_nilA, w_consA, w_tup, w_lst, w_imm, w_frzM, w_immF, w_frz, w_getS, w_lenS, w_len, w_noF, w_someF, w_cut, w_slotM, w_tupFM, w_lenOfM, w_srtFM, w_call, w_arNil, w_arE, w_arS, w_nx, w_seq, w_set, w_setM, w_asg, w_ret, w_retM, w_drop, w_ifS, w_retN, w_bk, w_ct, w_app, w_put, w_aug, w_for, w_it, w_rng1, w_rng2, w_enum, w_zip, wG_name, wG_tup, w_def, yes_some, yes_none, yes_bind, yes_map, yes_ite, slot, List.getElem?_cons_zero, List.getElem?_cons_succ, List.getElem?_nil, Option.getD_some, Option.getD_none, List.set_cons_zero, List.set_cons_succ, List.set_nil, List.map_cons, List.map_nil, List.cons_append, List.nil_append, List.length_cons, List.length_nil, List.replicate, Option.some.injEq, M.imm.injEq, exists_eq_left, exists_eq_left', datM, immD, frzE, isL, putI, retM, backM, putArgs, getM, intO, itemsD, seqItems, lstItems, List.append_nil, Option.map_some, Option.map_none, Option.bind_some, Option.bind_none, Bool.false_eq_true, if_true, if_false, Nat.reduceAdd, Nat.reduceSub, ↓reduceIte, and_true, true_and, reduceCtorEq, decide_eq_true_eq, addD, subD, mulD, divD, modD, pow_18, negD, intD, ltD, leD, gtD, geD, isND, isnotND, VD.getD, lenD, lenM, cutD, truD, atL_0, atL_1, atL_2, atL_3, atL_4, ix2_0, ix2_1, scountD, min2D, max2D, rng1D, rng2D, w_yesT, w_comp, w_dc, w_all1, w_any1, w_all2, w_any2, w_tupG1, w_tupG2, w_joinG1, w_getDS, w_itemS, w_inDS, w_notInDS, w_done1, w_putK, w_dnew, w_inR, w_notInR, w_lstFM, wipeE, backE, keepO, namesG, sepD, inRM, dctM, isDct, augAdd, Bool.not_true]
      rintro e rfl
      refine seq_mid (fun e => ∃ v box, Rch (fr ps) w v ∧ IsBox box ∧ e = [some (.imm (.lst (ns.map .int))), some box, some (.imm d), some (.imm (Al L ps)), some (.imm (.str w)), some (.imm (.lst (X.map .str))), some (.imm (.str v))]) ?_ ?_
      · simp only [w_var, w_c, w_op2, w_op1, w_ts2, w_ts1, w_and, w_or, w_not, w_tru, w_val, w_if, w_nilA, w_consA, w_tup, w_lst, w_imm, w_frzM, w_immF, w_frz, w_getS, w_lenS, w_len, w_noF, w_someF, w_cut, w_slotM, w_tupFM, w_lenOfM, w_srtFM, w_call, w_arNil, w_arE, w_arS, w_nx, w_seq, w_set, w_setM, w_asg, w_ret, w_retM, w_drop, w_ifS, w_retN, w_bk, w_ct, w_app, w_put, w_aug, w_for, w_it, w_rng1, w_rng2, w_enum, w_zip, wG_name, wG_tup, w_def, yes_some, yes_none, yes_bind, yes_map, yes_ite, slot, List.getElem?_cons_zero, List.getElem?_cons_succ, List.getElem?_nil, Option.getD_some, Option.getD_none, List.set_cons_zero, List.set_cons_succ, List.set_nil, List.map_cons, List.map_nil, List.cons_append, List.nil_append, List.length_cons, List.length_nil, List.replicate, Option.some.injEq, M.imm.injEq, exists_eq_left, exists_eq_left', datM, immD, frzE, isL, putI, retM, backM, putArgs, getM, intO, itemsD, seqItems, lstItems, List.append_nil, Option.map_some, Option.map_none, Option.bind_some, Option.bind_none, Bool.false_eq_true, if_true, if_false, Nat.reduceAdd, Nat.reduceSub, ↓reduceIte, and_true, true_and, reduceCtorEq, decide_eq_true_eq, addD, subD, mulD, divD, modD, pow_18, negD, intD, ltD, leD, gtD, geD, isND, isnotND, VD.getD, lenD, lenM, cutD, truD, atL_0, atL_1, atL_2, atL_3, atL_4, ix2_0, ix2_1, scountD, min2D, max2D, rng1D, rng2D, w_yesT, w_comp, w_dc, w_all1, w_any1, w_all2, w_any2, w_tupG1, w_tupG2, w_joinG1, w_getDS, w_itemS, w_inDS, w_notInDS, w_done1, w_putK, w_dnew, w_inR, w_notInR, w_lstFM, wipeE, backE, keepO, namesG, sepD, inRM, dctM, isDct, augAdd]
        refine wpF_mono (mixed_ok hb ha (w := w) (by omega)) ?_
        rintro r l ⟨u, hr, rfl, m', hm', rfl⟩
        simp only [w_var, w_c, w_op2, w_op1, w_ts2, w_ts1, w_and, w_or, w_not, w_tru, w_val, w_if, w_nilA, w_consA, w_tup, w_lst, w_imm, w_frzM, w_immF, w_frz, w_getS, w_lenS, w_len, w_noF, w_someF, w_cut, w_slotM, w_tupFM, w_lenOfM, w_srtFM, w_call, w_arNil, w_arE, w_arS, w_nx, w_seq, w_set, w_setM, w_asg, w_ret, w_retM, w_drop, w_ifS, w_retN, w_bk, w_ct, w_app, w_put, w_aug, w_for, w_it, w_rng1, w_rng2, w_enum, w_zip, wG_name, wG_tup, w_def, yes_some, yes_none, yes_bind, yes_map, yes_ite, slot, List.getElem?_cons_zero, List.getElem?_cons_succ, List.getElem?_nil, Option.getD_some, Option.getD_none, List.set_cons_zero, List.set_cons_succ, List.set_nil, List.map_cons, List.map_nil, List.cons_append, List.nil_append, List.length_cons, List.length_nil, List.replicate, Option.some.injEq, M.imm.injEq, exists_eq_left, exists_eq_left', datM, immD, frzE, isL, putI, retM, backM, putArgs, getM, intO, itemsD, seqItems, lstItems, List.append_nil, Option.map_some, Option.map_none, Option.bind_some, Option.bind_none, Bool.false_eq_true, if_true, if_false, Nat.reduceAdd, Nat.reduceSub, ↓reduceIte, and_true, true_and, reduceCtorEq, decide_eq_true_eq, addD, subD, mulD, divD, modD, pow_18, negD, intD, ltD, leD, gtD, geD, isND, isnotND, VD.getD, lenD, lenM, cutD, truD, atL_0, atL_1, atL_2, atL_3, atL_4, ix2_0, ix2_1, scountD, min2D, max2D, rng1D, rng2D, w_yesT, w_comp, w_dc, w_all1, w_any1, w_all2, w_any2, w_tupG1, w_tupG2, w_joinG1, w_getDS, w_itemS, w_inDS, w_notInDS, w_done1, w_putK, w_dnew, w_inR, w_notInR, w_lstFM, wipeE, backE, keepO, namesG, sepD, inRM, dctM, isDct, augAdd]
        exact ⟨u, m', hr, hm', rfl⟩
      rintro e ⟨v, box, hr, hb, rfl⟩
      have lv := least_ok ha (w := v) (by have := hr.perm.length_eq; omega)
      rw [least_uni sy ir hr, hl0] at lv
      simp only [w_var, w_c, w_op2, w_op1, w_ts2, w_ts1, w_and, w_or, w_not, w_tru, w_val, w_if, w_nilA, w_consA, w_tup, w_lst, w_imm, w_frzM, w_immF, w_frz, w_getS, w_lenS, w_len, w_noF, w_someF, w_cut, w_slotM, w_tupFM, w_lenOfM, w_srtFM, w_call, w_arNil, w_arE, w_arS, w_nx, w_seq, w_set, w_setM, w_asg, w_ret, w_retM, w_drop, w_ifS, w_retN, w_bk, w_ct, w_app, w_put, w_aug, w_for, w_it, w_rng1, w_rng2, w_enum, w_zip, wG_name, wG_tup, w_def, yes_some, yes_none, yes_bind, yes_map, yes_ite, slot, List.getElem?_cons_zero, List.getElem?_cons_succ, List.getElem?_nil, Option.getD_some, Option.getD_none, List.set_cons_zero, List.set_cons_succ, List.set_nil, List.map_cons, List.map_nil, List.cons_append, List.nil_append, List.length_cons, List.length_nil, List.replicate, Option.some.injEq, M.imm.injEq, exists_eq_left, exists_eq_left', datM, immD, frzE, isL, putI, retM, backM, putArgs, getM, intO, itemsD, seqItems, lstItems, List.append_nil, Option.map_some, Option.map_none, Option.bind_some, Option.bind_none, Bool.false_eq_true, if_true, if_false, Nat.reduceAdd, Nat.reduceSub, ↓reduceIte, and_true, true_and, reduceCtorEq, decide_eq_true_eq, addD, subD, mulD, divD, modD, pow_18, negD, intD, ltD, leD, gtD, geD, isND, isnotND, VD.getD, lenD, lenM, cutD, truD, atL_0, atL_1, atL_2, atL_3, atL_4, ix2_0, ix2_1, scountD, min2D, max2D, rng1D, rng2D, w_yesT, w_comp, w_dc, w_all1, w_any1, w_all2, w_any2, w_tupG1, w_tupG2, w_joinG1, w_getDS, w_itemS, w_inDS, w_notInDS, w_done1, w_putK, w_dnew, w_inR, w_notInR, w_lstFM, wipeE, backE, keepO, namesG, sepD, inRM, dctM, isDct, augAdd]
      refine wpF_mono lv ?_
      rintro r l ⟨rfl, rfl⟩
      simp only [w_var, w_c, w_op2, w_op1, w_ts2, w_ts1, w_and, w_or, w_not, w_tru, w_val, w_if, w_nilA, w_consA, w_tup, w_lst, w_imm, w_frzM, w_immF, w_frz, w_getS, w_lenS, w_len, w_noF, w_someF, w_cut, w_slotM, w_tupFM, w_lenOfM, w_srtFM, w_call, w_arNil, w_arE, w_arS, w_nx, w_seq, w_set, w_setM, w_asg, w_ret, w_retM, w_drop, w_ifS, w_retN, w_bk, w_ct, w_app, w_put, w_aug, w_for, w_it, w_rng1, w_rng2, w_enum, w_zip, wG_name, wG_tup, w_def, yes_some, yes_none, yes_bind, yes_map, yes_ite, slot, List.getElem?_cons_zero, List.getElem?_cons_succ, List.getElem?_nil, Option.getD_some, Option.getD_none, List.set_cons_zero, List.set_cons_succ, List.set_nil, List.map_cons, List.map_nil, List.cons_append, List.nil_append, List.length_cons, List.length_nil, List.replicate, Option.some.injEq, M.imm.injEq, exists_eq_left, exists_eq_left', datM, immD, frzE, isL, putI, retM, backM, putArgs, getM, intO, itemsD, seqItems, lstItems, List.append_nil, Option.map_some, Option.map_none, Option.bind_some, Option.bind_none, Bool.false_eq_true, if_true, if_false, Nat.reduceAdd, Nat.reduceSub, ↓reduceIte, and_true, true_and, reduceCtorEq, decide_eq_true_eq, addD, subD, mulD, divD, modD, pow_18, negD, intD, ltD, leD, gtD, geD, isND, isnotND, VD.getD, lenD, lenM, cutD, truD, atL_0, atL_1, atL_2, atL_3, atL_4, ix2_0, ix2_1, scountD, min2D, max2D, rng1D, rng2D, w_yesT, w_comp, w_dc, w_all1, w_any1, w_all2, w_any2, w_tupG1, w_tupG2, w_joinG1, w_getDS, w_itemS, w_inDS, w_notInDS, w_done1, w_putK, w_dnew, w_inR, w_notInR, w_lstFM, wipeE, backE, keepO, namesG, sepD, inRM, dctM, isDct, augAdd, a0]
      refine wpF_mono (ss w0) ?_
      rintro r l ⟨rfl, rfl⟩
      simp only [w_var, w_c, w_op2, w_op1, w_ts2, w_ts1, w_and, w_or, w_not, w_tru, w_val, w_if, w_nilA, w_consA, w_tup, w_lst, w_imm, w_frzM, w_immF, w_frz, w_getS, w_lenS, w_len, w_noF, w_someF, w_cut, w_slotM, w_tupFM, w_lenOfM, w_srtFM, w_call, w_arNil, w_arE, w_arS, w_nx, w_seq, w_set, w_setM, w_asg, w_ret, w_retM, w_drop, w_ifS, w_retN, w_bk, w_ct, w_app, w_put, w_aug, w_for, w_it, w_rng1, w_rng2, w_enum, w_zip, wG_name, wG_tup, w_def, yes_some, yes_none, yes_bind, yes_map, yes_ite, slot, List.getElem?_cons_zero, List.getElem?_cons_succ, List.getElem?_nil, Option.getD_some, Option.getD_none, List.set_cons_zero, List.set_cons_succ, List.set_nil, List.map_cons, List.map_nil, List.cons_append, List.nil_append, List.length_cons, List.length_nil, List.replicate, Option.some.injEq, M.imm.injEq, exists_eq_left, exists_eq_left', datM, immD, frzE, isL, putI, retM, backM, putArgs, getM, intO, itemsD, seqItems, lstItems, List.append_nil, Option.map_some, Option.map_none, Option.bind_some, Option.bind_none, Bool.false_eq_true, if_true, if_false, Nat.reduceAdd, Nat.reduceSub, ↓reduceIte, and_true, true_and, reduceCtorEq, decide_eq_true_eq, addD, subD, mulD, divD, modD, pow_18, negD, intD, ltD, leD, gtD, geD, isND, isnotND, VD.getD, lenD, lenM, cutD, truD, atL_0, atL_1, atL_2, atL_3, atL_4, ix2_0, ix2_1, scountD, min2D, max2D, rng1D, rng2D, w_yesT, w_comp, w_dc, w_all1, w_any1, w_all2, w_any2, w_tupG1, w_tupG2, w_joinG1, w_getDS, w_itemS, w_inDS, w_notInDS, w_done1, w_putK, w_dnew, w_inR, w_notInR, w_lstFM, wipeE, backE, keepO, namesG, sepD, inRM, dctM, isDct, augAdd, Bool.not_true]
      exact ⟨box, _, _, _, _, _, hb, rfl⟩
    · rintro e ⟨box, o2, o3, o4, o5, o6, hb, rfl⟩
      exact ⟨rfl, box, _, hb, rfl⟩
  rintro e ⟨box, r, hb, rfl⟩
  rcases hm with rfl | rfl
  · simp only [w_var, w_c, w_op2, w_op1, w_ts2, w_ts1, w_and, w_or, w_not, w_tru, w_val, w_if, w_nilA, w_consA, w_tup, w_lst, w_imm, w_frzM, w_immF, w_frz, w_getS, w_lenS, w_len, w_noF, w_someF, w_cut, w_slotM, w_tupFM, w_lenOfM, w_srtFM, w_call, w_arNil, w_arE, w_arS, w_nx, w_seq, w_set, w_setM, w_asg, w_ret, w_retM, w_drop, w_ifS, w_retN, w_bk, w_ct, w_app, w_put, w_aug, w_for, w_it, w_rng1, w_rng2, w_enum, w_zip, wG_name, wG_tup, w_def, yes_some, yes_none, yes_bind, yes_map, yes_ite, slot, List.getElem?_cons_zero, List.getElem?_cons_succ, List.getElem?_nil, Option.getD_some, Option.getD_none, List.set_cons_zero, List.set_cons_succ, List.set_nil, List.map_cons, List.map_nil, List.cons_append, List.nil_append, List.length_cons, List.length_nil, List.replicate, Option.some.injEq, M.imm.injEq, exists_eq_left, exists_eq_left', datM, immD, frzE, isL, putI, retM, backM, putArgs, getM, intO, itemsD, seqItems, lstItems, List.append_nil, Option.map_some, Option.map_none, Option.bind_some, Option.bind_none, Bool.false_eq_true, if_true, if_false, Nat.reduceAdd, Nat.reduceSub, ↓reduceIte, and_true, true_and, reduceCtorEq, decide_eq_true_eq, addD, subD, mulD, divD, modD, pow_18, negD, intD, ltD, leD, gtD, geD, isND, isnotND, VD.getD, lenD, lenM, cutD, truD, atL_0, atL_1, atL_2, atL_3, atL_4, ix2_0, ix2_1, scountD, min2D, max2D, rng1D, rng2D, w_yesT, w_comp, w_dc, w_all1, w_any1, w_all2, w_any2, w_tupG1, w_tupG2, w_joinG1, w_getDS, w_itemS, w_inDS, w_notInDS, w_done1, w_putK, w_dnew, w_inR, w_notInR, w_lstFM, wipeE, backE, keepO, namesG, sepD, inRM, dctM, isDct, augAdd]
  · simp only [w_var, w_c, w_op2, w_op1, w_ts2, w_ts1, w_and, w_or, w_not, w_tru, w_val, w_if, w_nilA, w_consA, w_tup, w_lst, w_imm, w_frzM, w_immF, w_frz, w_getS, w_lenS, w_len, w_noF, w_someF, w_cut, w_slotM, w_tupFM, w_lenOfM, w_srtFM, w_call, w_arNil, w_arE, w_arS, w_nx, w_seq, w_set, w_setM, w_asg, w_ret, w_retM, w_drop, w_ifS, w_retN, w_bk, w_ct, w_app, w_put, w_aug, w_for, w_it, w_rng1, w_rng2, w_enum, w_zip, wG_name, wG_tup, w_def, yes_some, yes_none, yes_bind, yes_map, yes_ite, slot, List.getElem?_cons_zero, List.getElem?_cons_succ, List.getElem?_nil, Option.getD_some, Option.getD_none, List.set_cons_zero, List.set_cons_succ, List.set_nil, List.map_cons, List.map_nil, List.cons_append, List.nil_append, List.length_cons, List.length_nil, List.replicate, Option.some.injEq, M.imm.injEq, exists_eq_left, exists_eq_left', datM, immD, frzE, isL, putI, retM, backM, putArgs, getM, intO, itemsD, seqItems, lstItems, List.append_nil, Option.map_some, Option.map_none, Option.bind_some, Option.bind_none, Bool.false_eq_true, if_true, if_false, Nat.reduceAdd, Nat.reduceSub, ↓reduceIte, and_true, true_and, reduceCtorEq, decide_eq_true_eq, addD, subD, mulD, divD, modD, pow_18, negD, intD, ltD, leD, gtD, geD, isND, isnotND, VD.getD, lenD, lenM, cutD, truD, atL_0, atL_1, atL_2, atL_3, atL_4, ix2_0, ix2_1, scountD, min2D, max2D, rng1D, rng2D, w_yesT, w_comp, w_dc, w_all1, w_any1, w_all2, w_any2, w_tupG1, w_tupG2, w_joinG1, w_getDS, w_itemS, w_inDS, w_notInDS, w_done1, w_putK, w_dnew, w_inR, w_notInR, w_lstFM, wipeE, backE, keepO, namesG, sepD, inRM, dctM, isDct, augAdd]
theorem law_t (ns : List Int) : (∃ ms, f_law [.imm (.lst (ns.map .int))] = some (.imm (.bl true), ms)) ∧ ∃ ms, f_law [.lst (ns.map .int)] = some (.imm (.bl true), ms) := by
  constructor
  · obtain ⟨r, l, h, rfl⟩ := law_ok ns (.inl rfl)
    exact ⟨l, h⟩
  · obtain ⟨r, l, h, rfl⟩ := law_ok ns (.inr rfl)
    exact ⟨l, h⟩

end LL
end

section
set_option Elab.async false
set_option linter.all false
set_option maxRecDepth 100000
set_option maxHeartbeats 0
namespace LWk10
open PySem PySem.Spec L2 VD VL PLk10
def top (i : Nat) : Stmt := PySem.Challenge.pw_tracehouse_k10_least_and_greatest_words.main.body.getD i (.Pass ⟨0, 0, 0, 0⟩)
abbrev s_independent : Stmt := top 1
abbrev s_free : Stmt := top 2
abbrev s_firsts : Stmt := top 4
abbrev s_without_first : Stmt := top 6
abbrev s_least : Stmt := top 7
abbrev s_greatest : Stmt := top 8
abbrev s_words_of : Stmt := top 9
abbrev s__law_cell : Stmt := top 11
abbrev s__law_digits : Stmt := top 12
abbrev s__law_box : Stmt := top 13
abbrev s__law_draw : Stmt := top 14
abbrev s__law_alphabet : Stmt := top 15
abbrev s__law_word : Stmt := top 16
abbrev s__law_free : Stmt := top 17
abbrev s__law_class : Stmt := top 18
abbrev s__law_same : Stmt := top 19
abbrev s__law_mixed : Stmt := top 20
abbrev s_law : Stmt := top 21
structure Fr (mg : Str → Option Value) : Prop where
  z_all : mg "all" = none
  z_bool : mg "bool" = none
  z_enumerate : mg "enumerate" = none
  z_int : mg "int" = none
  z_isinstance : mg "isinstance" = none
  z_len : mg "len" = none
  z_max : mg "max" = none
  z_min : mg "min" = none
  z_range : mg "range" = none
  z_sorted : mg "sorted" = none
  z_str : mg "str" = none
  z_tuple : mg "tuple" = none
section
variable {P : Program} {w : World} {K : PySem.W.Frag} {mg : Str → Option Value} {base : Heap} {T : List Addr}
theorem sc_independent : FnScope ["alphabet", "x", "y"] ["alphabet", "x", "y"] (defScope s_independent) := fnScope_byW (by decide +kernel)
theorem ok_independent (Z : Fr mg) {f : Addr} {fd : FuncData} (F : FnD K "independent" s_independent f fd) (hm : mg "independent" = some (.ref f)) : Df ⟨K, P, w⟩ mg base T 1 "independent" [] 3 f_independent :=
  df_mk F hm sc_independent (fun _ _ _ _ _ _ us hl => match us, hl with | [_, _, _], _ => rfl) fun A outer s H E hr => by
    exact (b_one (s_ret (c_in (v_add (v_min2 rfl (l_cons (v_var 1) (l_cons (v_var 2) l_nil)) rfl Z.z_min) (v_max2 rfl (l_cons (v_var 1) (l_cons (v_var 2) l_nil)) rfl Z.z_max) rfl) (v_get (v_var 0) v_int rfl) rfl (hr.mono (by decide)))))
theorem sc_free : FnScope ["alphabet", "word", "other", "x", "y"] ["alphabet", "word", "other"] (defScope s_free) := fnScope_byW (by decide +kernel)
theorem ok_free (Z : Fr mg) {f : Addr} {fd : FuncData} (F : FnD K "free" s_free f fd) (hm : mg "free" = some (.ref f)) (D_independent : Df ⟨K, P, w⟩ mg base T 1 "independent" [] 3 f_independent) {c Pt : Addr} (TB : GxR.TabB base mg c Pt) (hc : fd.code = .ref c) (hPt : Pt ∈ T) : Df ⟨K, P, w⟩ mg base T 5 "free" [] 3 f_free :=
  df_mk F hm sc_free (fun _ _ _ _ _ _ us hl => match us, hl with | [_, _, _], _ => rfl) fun A outer s H E hr => by
    have hcode := hc
    exact (b_one (s_ret (t_all (hr.mono (by decide)) rfl Z.z_all (pgs2 (pgn2 (k := 1) (own := [("x", 3), ("y", 4)]) (own1 := [4]) rfl sc_free.nd (hr.mono (by decide)) TB hPt hcode (i_it (v_var 1) rfl) (blkOk_by (by kernel_rfl)) (by decide +kernel) (by decide +kernel) rfl rfl (by decide) rfl rfl rfl (fun _ _ _ _ _ _ => (g_name 3 sc_free.nd (npL rfl))) (fun _ _ _ _ _ _ hr => t_yes) (fun _ _ _ _ _ _ hr => (i_it (v_var 2) rfl)) (fun _ _ _ _ _ _ => (g_name 4 sc_free.nd (npL rfl))) (fun _ _ _ _ _ _ hr => t_yes) (fun _ _ _ _ _ _ hr => (v_of_m (m_callD D_independent rfl (hr.mono (by decide)) (a_e (v_var 0) (a_e (v_var 3) (a_e (v_var 4) a_nil)))))))))))
theorem sc_firsts : FnScope ["alphabet", "word", "found", "place", "letter"] ["alphabet", "word"] (defScope s_firsts) := fnScope_byW (by decide +kernel)
theorem ok_firsts (Z : Fr mg) {f : Addr} {fd : FuncData} (F : FnD K "firsts" s_firsts f fd) (hm : mg "firsts" = some (.ref f)) (D_free : Df ⟨K, P, w⟩ mg base T 5 "free" [] 3 f_free) : Df ⟨K, P, w⟩ mg base T 6 "firsts" [] 2 f_firsts :=
  df_mk F hm sc_firsts (fun _ _ _ _ _ _ us hl => match us, hl with | [_, _], _ => rfl) fun A outer s H E hr => by
    exact (b_cons (s_setLc 2 (own := [("place", 3), ("letter", 4)]) rfl sc_firsts.nd (i_enum rfl Z.z_enumerate (v_var 1) rfl) (blkOk_by (by kernel_rfl)) (fun _ _ _ _ _ => (g_tup rfl rfl (gs_cons 3 sc_firsts.nd (npL rfl) (gs_cons 4 sc_firsts.nd (npL rfl) gs_nil)))) (fun _ _ _ _ _ => (t_ifs (t_tru (v_of_m (m_callD D_free rfl (hr.mono (by decide)) (a_e (v_var 0) (a_e (v_var 4) (a_e (v_cut (v_var 1) o_none (o_some (v_var 3)) rfl) a_nil))))) rfl))) (fun _ _ _ _ _ => (v_var 4)) rfl (by decide) rfl (npL rfl)) (b_one (s_ret (v_joinR v_str (r_m (m_srtR (hr.mono (by decide)) (r_slot 2) rfl rfl Z.z_sorted)) rfl))))
theorem sc_without_first : FnScope ["word", "letter", "place"] ["word", "letter"] (defScope s_without_first) := fnScope_byW (by decide +kernel)
theorem ok_without_first (Z : Fr mg) {f : Addr} {fd : FuncData} (F : FnD K "without_first" s_without_first f fd) (hm : mg "without_first" = some (.ref f)) : Df ⟨K, P, w⟩ mg base T 1 "without_first" [] 2 f_without_first :=
  df_mk F hm sc_without_first (fun _ _ _ _ _ _ us hl => match us, hl with | [_, _], _ => rfl) fun A outer s H E hr => by
    exact (b_cons (s_set 2 sc_without_first.nd (v_sidx rfl (v_var 0) (v_var 1)) (npL rfl)) (b_one (s_ret (v_add (v_cut (v_var 0) o_none (o_some (v_var 2)) rfl) (v_cut (v_var 0) (o_some (v_add (v_var 2) v_int rfl)) o_none rfl) rfl))))
theorem sc_least : FnScope ["alphabet", "word", "found", "letter"] ["alphabet", "word"] (defScope s_least) := fnScope_byW (by decide +kernel)
theorem ok_least (Z : Fr mg) {f : Addr} {fd : FuncData} (F : FnD K "least" s_least f fd) (hm : mg "least" = some (.ref f)) (D_firsts : Df ⟨K, P, w⟩ mg base T 6 "firsts" [] 2 f_firsts) (D_without_first : Df ⟨K, P, w⟩ mg base T 1 "without_first" [] 2 f_without_first) : Df ⟨K, P, w⟩ mg base T 7 "least" [] 2 f_least :=
  df_mk F hm sc_least (fun _ _ _ _ _ _ us hl => match us, hl with | [_, _], _ => rfl) fun A outer s H E hr => by
    exact (b_cons (s_set 2 sc_least.nd v_str (npL rfl)) (b_cons (s_while PassesOwn.never (t_tru (v_var 1) rfl) (b_cons (s_set 3 sc_least.nd (v_get (v_of_m (m_callD D_firsts rfl (hr.mono (by decide)) (a_e (v_var 0) (a_e (v_var 1) a_nil)))) v_int rfl) (npL rfl)) (b_cons (s_augAdd 2 sc_least.nd (v_var 3) (npL rfl)) (b_one (s_set 1 sc_least.nd (v_of_m (m_callD D_without_first rfl (hr.mono (by decide)) (a_e (v_var 1) (a_e (v_var 3) a_nil)))) (npL rfl)))))) (b_one (s_ret (v_var 2)))))
theorem sc_greatest : FnScope ["alphabet", "word", "found", "letter"] ["alphabet", "word"] (defScope s_greatest) := fnScope_byW (by decide +kernel)
theorem ok_greatest (Z : Fr mg) {f : Addr} {fd : FuncData} (F : FnD K "greatest" s_greatest f fd) (hm : mg "greatest" = some (.ref f)) (D_firsts : Df ⟨K, P, w⟩ mg base T 6 "firsts" [] 2 f_firsts) (D_without_first : Df ⟨K, P, w⟩ mg base T 1 "without_first" [] 2 f_without_first) : Df ⟨K, P, w⟩ mg base T 7 "greatest" [] 2 f_greatest :=
  df_mk F hm sc_greatest (fun _ _ _ _ _ _ us hl => match us, hl with | [_, _], _ => rfl) fun A outer s H E hr => by
    exact (b_cons (s_set 2 sc_greatest.nd v_str (npL rfl)) (b_cons (s_while PassesOwn.never (t_tru (v_var 1) rfl) (b_cons (s_set 3 sc_greatest.nd (v_get (v_of_m (m_callD D_firsts rfl (hr.mono (by decide)) (a_e (v_var 0) (a_e (v_var 1) a_nil)))) (v_neg v_int) rfl) (npL rfl)) (b_cons (s_augAdd 2 sc_greatest.nd (v_var 3) (npL rfl)) (b_one (s_set 1 sc_greatest.nd (v_of_m (m_callD D_without_first rfl (hr.mono (by decide)) (a_e (v_var 1) (a_e (v_var 3) a_nil)))) (npL rfl)))))) (b_one (s_ret (v_var 2)))))
theorem sc_words_of : FnScope ["alphabet", "word", "letter", "rest"] ["alphabet", "word"] (defScope s_words_of) := fnScope_byW (by decide +kernel)
theorem ok_words_of (Z : Fr mg) {f : Addr} {fd : FuncData} (F : FnD K "words_of" s_words_of f fd) (hm : mg "words_of" = some (.ref f)) (D_firsts : Df ⟨K, P, w⟩ mg base T 6 "firsts" [] 2 f_firsts) (D_without_first : Df ⟨K, P, w⟩ mg base T 1 "without_first" [] 2 f_without_first) {c Pt : Addr} (TB : GxR.TabB base mg c Pt) (hc : fd.code = .ref c) (hPt : Pt ∈ T) : ∀ z, Df ⟨K, P, w⟩ mg base T (6 + 6 * z) "words_of" [] 2 (f_words_of z)
  | 0 => df_none (ps := ["alphabet", "word"]) F hm (fun _ _ _ _ _ _ us hl => match us, hl with | [_, _], _ => rfl) _
  | z + 1 => by
    have D_rec := ok_words_of Z F hm D_firsts D_without_first TB hc hPt z
    have hcode := hc
    show Df ⟨K, P, w⟩ mg base T ((6 + 6 * z + 5) + 1) "words_of" [] 2 (f_words_of (z + 1))
    exact df_mk F hm sc_words_of (fun _ _ _ _ _ _ us hl => match us, hl with | [_, _], _ => rfl) fun A outer s H E hr => (b_cons (s_if (t_not (t_tru (v_var 1) rfl)) (b_one (s_ret (v_tup (l_cons v_str l_nil)))) b_nil) (b_one (s_ret (v_tupG (hr.mono (by omega)) rfl Z.z_tuple (pgs2 (pgn2 (k := (6 + 6 * z)) (own := [("letter", 2), ("rest", 3)]) (own1 := [3]) rfl sc_words_of.nd (hr.mono (by omega)) TB hPt hcode (i_it (v_of_m (m_callD D_firsts rfl (hr.mono (by omega)) (a_e (v_var 0) (a_e (v_var 1) a_nil)))) rfl) (blkOk_by (by kernel_rfl)) (by decide +kernel) (by decide +kernel) rfl rfl (by decide) rfl rfl rfl (fun _ _ _ _ _ _ => (g_name 2 sc_words_of.nd (npL rfl))) (fun _ _ _ _ _ _ hr => t_yes) (fun _ _ _ _ _ _ hr => (i_it (v_of_m (m_callD D_rec rfl hr (a_e (v_var 0) (a_e (v_of_m (m_callD D_without_first rfl (hr.mono (by omega)) (a_e (v_var 1) (a_e (v_var 2) a_nil)))) a_nil)))) rfl)) (fun _ _ _ _ _ _ => (g_name 3 sc_words_of.nd (npL rfl))) (fun _ _ _ _ _ _ hr => t_yes) (fun _ _ _ _ _ _ hr => (v_add (v_var 2) (v_var 3) rfl))))))))
theorem sc__law_cell : FnScope ["script", "k"] ["script", "k"] (defScope s__law_cell) := fnScope_byW (by decide +kernel)
theorem ok__law_cell (Z : Fr mg) {f : Addr} {fd : FuncData} (F : FnD K "_law_cell" s__law_cell f fd) (hm : mg "_law_cell" = some (.ref f)) : Df ⟨K, P, w⟩ mg base T 1 "_law_cell" [] 2 f__law_cell :=
  df_mk F hm sc__law_cell (fun _ _ _ _ _ _ us hl => match us, hl with | [_, _], _ => rfl) fun A outer s H E hr => by
    exact (b_cons (s_if (t_cmpC (c_lt (v_var 1) (v_len (l_cons (v_var 0) l_nil) rfl rfl Z.z_len))) (b_one (s_ret (v_get (v_var 0) (v_var 1) rfl))) b_nil) (b_one (s_ret v_int)))
theorem sc__law_digits : FnScope ["script", "first", "last", "digits", "k", "cell", "turn", "seed"] ["script", "first", "last"] (defScope s__law_digits) := fnScope_byW (by decide +kernel)
theorem ok__law_digits (Z : Fr mg) {f : Addr} {fd : FuncData} (F : FnD K "_law_digits" s__law_digits f fd) (hm : mg "_law_digits" = some (.ref f)) (D__law_cell : Df ⟨K, P, w⟩ mg base T 1 "_law_cell" [] 2 f__law_cell) : Df ⟨K, P, w⟩ mg base T 2 "_law_digits" [] 3 f__law_digits :=
  df_mk F hm sc__law_digits (fun _ _ _ _ _ _ us hl => match us, hl with | [_, _, _], _ => rfl) fun A outer s H E hr => by
    exact (b_cons (s_setM 3 sc__law_digits.nd (m_lst l_nil) (npL rfl)) (b_cons (s_for PassesOwn.never rfl (i_rng2 rfl Z.z_range (v_var 1) (v_var 2)) (g_name 4 sc__law_digits.nd (npL rfl)) (b_cons (s_set 5 sc__law_digits.nd (v_of_m (m_callD D__law_cell rfl (hr.mono (by decide)) (a_e (v_var 0) (a_e (v_var 4) a_nil)))) (npL rfl)) (b_cons (s_if (t_cmpC (c_lt (v_var 5) v_int)) (b_one (s_set 5 sc__law_digits.nd (v_sub v_int (v_mul v_int (v_var 5))) (npL rfl))) b_nil) (b_one (s_if (t_cmpC (c_ge (v_var 5) (v_pow v_int v_int))) (b_one (s_for PassesOwn.never rfl (i_rng1 rfl Z.z_range v_int) (g_name 6 sc__law_digits.nd (npL rfl)) (b_one (s_if (t_cmpC (c_gt (v_var 5) v_int)) (b_cons (s_app 3 (v_mod (v_intc (v_var 5) rfl Z.z_int) v_int) rfl (hst := ps_expr (pe_bm PySem.F.plainAttrs_list PySem.F.slot_list_append PySem.F.type_list_append mt_append (pv 3) (pa_cons (v_mod (v_intc (v_var 5) rfl Z.z_int) v_int) pa_nil)))) (b_one (s_set 5 sc__law_digits.nd (v_fdiv (v_var 5) v_int) (npL rfl)))) b_nil)))) (b_cons (s_set 7 sc__law_digits.nd (v_mod (v_intc (v_add (v_add (v_mul (v_var 5) v_int) (v_mul (v_var 4) v_int) rfl) v_int rfl) rfl Z.z_int) v_int) (npL rfl)) (b_one (s_for PassesOwn.never rfl (i_rng1 rfl Z.z_range v_int) (g_name 6 sc__law_digits.nd (npL rfl)) (b_cons (s_set 7 sc__law_digits.nd (v_mod (v_intc (v_add (v_add (v_mul (v_var 7) v_int) (v_mul v_int (v_var 6)) rfl) v_int rfl) rfl Z.z_int) v_int) (npL rfl)) (b_one (s_app 3 (v_mod (v_intc (v_fdiv (v_var 7) v_int) rfl Z.z_int) v_int) rfl (hst := ps_expr (pe_bm PySem.F.plainAttrs_list PySem.F.slot_list_append PySem.F.type_list_append mt_append (pv 3) (pa_cons (v_mod (v_intc (v_fdiv (v_var 7) v_int) rfl Z.z_int) v_int) pa_nil)))))))))))))) (b_one (s_ret (v_varz 3)))))
theorem sc__law_box : FnScope ["script", "first", "last"] ["script", "first", "last"] (defScope s__law_box) := fnScope_byW (by decide +kernel)
theorem ok__law_box (Z : Fr mg) {f : Addr} {fd : FuncData} (F : FnD K "_law_box" s__law_box f fd) (hm : mg "_law_box" = some (.ref f)) (D__law_digits : Df ⟨K, P, w⟩ mg base T 2 "_law_digits" [] 3 f__law_digits) : Df ⟨K, P, w⟩ mg base T 3 "_law_box" [] 3 f__law_box :=
  df_mk F hm sc__law_box (fun _ _ _ _ _ _ us hl => match us, hl with | [_, _, _], _ => rfl) fun A outer s H E hr => by
    exact (b_one (s_retM (m_lst (l_cons (v_of_m (m_callD D__law_digits rfl (hr.mono (by decide)) (a_e (v_var 0) (a_e (v_var 1) (a_e (v_var 2) a_nil))))) (l_cons v_int l_nil)))))
theorem sc__law_draw : FnScope ["box", "many", "at"] ["box", "many"] (defScope s__law_draw) := fnScope_byW (by decide +kernel)
theorem ok__law_draw (Z : Fr mg) {f : Addr} {fd : FuncData} (F : FnD K "_law_draw" s__law_draw f fd) (hm : mg "_law_draw" = some (.ref f)) : Df ⟨K, P, w⟩ mg base T 1 "_law_draw" [0] 2 f__law_draw :=
  df_mk F hm sc__law_draw (fun _ _ _ _ _ _ us hl => match us, hl with | [_, _], _ => rfl) fun A outer s H E hr => by
    exact (b_cons (s_set 2 sc__law_draw.nd (v_getS 0 v_int rfl) (npL rfl)) (b_cons (s_put 0 (v_add (v_var 2) v_int rfl) v_int (hst := ps_asg (v_add (v_var 2) v_int rfl) (pg_sub (pv 0) v_int set_list))) (b_cons (s_if (t_cmpC (c_lt (v_var 2) (v_len (l_cons (v_getS 0 v_int rfl) l_nil) rfl rfl Z.z_len))) (b_one (s_ret (v_mod (v_intc (v_get (v_getS 0 v_int rfl) (v_var 2) rfl) rfl Z.z_int) (v_var 1)))) b_nil) (b_one (s_ret v_int)))))
theorem sc__law_alphabet : FnScope ["box", "most", "letters", "pairs", "j", "k"] ["box", "most"] (defScope s__law_alphabet) := fnScope_byW (by decide +kernel)
theorem ok__law_alphabet (Z : Fr mg) {f : Addr} {fd : FuncData} (F : FnD K "_law_alphabet" s__law_alphabet f fd) (hm : mg "_law_alphabet" = some (.ref f)) (D__law_draw : Df ⟨K, P, w⟩ mg base T 1 "_law_draw" [0] 2 f__law_draw) : Df ⟨K, P, w⟩ mg base T 2 "_law_alphabet" [0] 2 f__law_alphabet :=
  df_mk F hm sc__law_alphabet (fun _ _ _ _ _ _ us hl => match us, hl with | [_, _], _ => rfl) fun A outer s H E hr => by
    exact (b_cons (s_set 2 sc__law_alphabet.nd (v_cut v_str o_none (o_some (v_add v_int (v_of_m (m_callD D__law_draw rfl (hr.mono (by decide)) (a_s 0 (a_e (v_var 1) a_nil)))) rfl)) rfl) (npL rfl)) (b_cons (s_setM 3 sc__law_alphabet.nd (m_lst l_nil) (npL rfl)) (b_cons (s_for PassesOwn.never rfl (i_rng1 rfl Z.z_range (v_len (l_cons (v_var 2) l_nil) rfl rfl Z.z_len)) (g_name 4 sc__law_alphabet.nd (npL rfl)) (b_one (s_for PassesOwn.never rfl (i_rng2 rfl Z.z_range (v_add (v_var 4) v_int rfl) (v_len (l_cons (v_var 2) l_nil) rfl rfl Z.z_len)) (g_name 5 sc__law_alphabet.nd (npL rfl)) (b_one (s_if (t_cmpC (c_lt (v_of_m (m_callD D__law_draw rfl (hr.mono (by decide)) (a_s 0 (a_e v_int a_nil)))) v_int)) (b_one (s_app 3 (v_add (v_get (v_var 2) (v_var 4) rfl) (v_get (v_var 2) (v_var 5) rfl) rfl) rfl (hst := ps_expr (pe_bm PySem.F.plainAttrs_list PySem.F.slot_list_append PySem.F.type_list_append mt_append (pv 3) (pa_cons (v_add (v_get (v_var 2) (v_var 4) rfl) (v_get (v_var 2) (v_var 5) rfl) rfl) pa_nil))))) b_nil))))) (b_one (s_ret (v_tup (l_cons v_str (l_cons (v_var 2) (l_cons (v_tupR (r_m (m_srtR (hr.mono (by decide)) (r_slot 3) rfl rfl Z.z_sorted)) rfl rfl Z.z_tuple) l_nil)))))))))
theorem sc__law_word : FnScope ["box", "alphabet", "most", "word", "k"] ["box", "alphabet", "most"] (defScope s__law_word) := fnScope_byW (by decide +kernel)
theorem ok__law_word (Z : Fr mg) {f : Addr} {fd : FuncData} (F : FnD K "_law_word" s__law_word f fd) (hm : mg "_law_word" = some (.ref f)) (D__law_draw : Df ⟨K, P, w⟩ mg base T 1 "_law_draw" [0] 2 f__law_draw) : Df ⟨K, P, w⟩ mg base T 2 "_law_word" [0] 3 f__law_word :=
  df_mk F hm sc__law_word (fun _ _ _ _ _ _ us hl => match us, hl with | [_, _, _], _ => rfl) fun A outer s H E hr => by
    exact (b_cons (s_set 3 sc__law_word.nd v_str (npL rfl)) (b_cons (s_for PassesOwn.never rfl (i_rng1 rfl Z.z_range (v_of_m (m_callD D__law_draw rfl (hr.mono (by decide)) (a_s 0 (a_e (v_add (v_var 2) v_int rfl) a_nil))))) (g_name 4 sc__law_word.nd (npL rfl)) (b_one (s_set 3 sc__law_word.nd (v_add (v_var 3) (v_get (v_get (v_var 1) v_int rfl) (v_of_m (m_callD D__law_draw rfl (hr.mono (by decide)) (a_s 0 (a_e (v_len (l_cons (v_get (v_var 1) v_int rfl) l_nil) rfl rfl Z.z_len) a_nil)))) rfl) rfl) (npL rfl)))) (b_one (s_ret (v_var 3)))))
theorem sc__law_free : FnScope ["alphabet", "x", "y"] ["alphabet", "x", "y"] (defScope s__law_free) := fnScope_byW (by decide +kernel)
theorem ok__law_free (Z : Fr mg) {f : Addr} {fd : FuncData} (F : FnD K "_law_free" s__law_free f fd) (hm : mg "_law_free" = some (.ref f)) : Df ⟨K, P, w⟩ mg base T 1 "_law_free" [] 3 f__law_free :=
  df_mk F hm sc__law_free (fun _ _ _ _ _ _ us hl => match us, hl with | [_, _, _], _ => rfl) fun A outer s H E hr => by
    exact (b_one (s_ret (w_or (c_in (v_add (v_var 1) (v_var 2) rfl) (v_get (v_var 0) v_int rfl) rfl (hr.mono (by decide))) (w_one (c_in (v_add (v_var 2) (v_var 1) rfl) (v_get (v_var 0) v_int rfl) rfl (hr.mono (by decide)))))))
theorem sc__law_class : FnScope ["alphabet", "word", "found", "at", "known", "here", "k", "there"] ["alphabet", "word"] (defScope s__law_class) := fnScope_byW (by decide +kernel)
theorem ok__law_class (Z : Fr mg) {f : Addr} {fd : FuncData} (F : FnD K "_law_class" s__law_class f fd) (hm : mg "_law_class" = some (.ref f)) (D__law_free : Df ⟨K, P, w⟩ mg base T 1 "_law_free" [] 3 f__law_free) : Df ⟨K, P, w⟩ mg base T 2 "_law_class" [] 2 f__law_class :=
  df_mk F hm sc__law_class (fun _ _ _ _ _ _ us hl => match us, hl with | [_, _], _ => rfl) fun A outer s H E hr => by
    exact (b_cons (s_setM 2 sc__law_class.nd (m_lst (l_cons (v_var 1) l_nil)) (npL rfl)) (b_cons (s_set 3 sc__law_class.nd v_int (npL rfl)) (b_cons (s_setM 4 sc__law_class.nd (m_done1 (v_var 1) v_bl) (npL rfl)) (b_cons (s_while PassesOwn.never (t_cmpC (c_lt (v_var 3) (v_lenS 2 rfl rfl Z.z_len))) (b_cons (s_set 5 sc__law_class.nd (v_getS 2 (v_var 3) rfl) (npL rfl)) (b_cons (s_set 3 sc__law_class.nd (v_add (v_var 3) v_int rfl) (npL rfl)) (b_one (s_for PassesOwn.never rfl (i_rng1 rfl Z.z_range (v_sub (v_len (l_cons (v_var 5) l_nil) rfl rfl Z.z_len) v_int)) (g_name 6 sc__law_class.nd (npL rfl)) (b_one (s_if (t_tru (v_of_m (m_callD D__law_free rfl (hr.mono (by decide)) (a_e (v_var 0) (a_e (v_get (v_var 5) (v_var 6) rfl) (a_e (v_get (v_var 5) (v_add (v_var 6) v_int rfl) rfl) a_nil))))) rfl) (b_cons (s_set 7 sc__law_class.nd (v_add (v_add (v_add (v_cut (v_var 5) o_none (o_some (v_var 6)) rfl) (v_get (v_var 5) (v_add (v_var 6) v_int rfl) rfl) rfl) (v_get (v_var 5) (v_var 6) rfl) rfl) (v_cut (v_var 5) (o_some (v_add (v_var 6) v_int rfl)) o_none rfl) rfl) (npL rfl)) (b_one (s_if (t_cmpC (c_notInD 4 (v_var 7) rfl (hr.mono (by decide)))) (b_cons (s_putK 4 v_bl (v_var 7) rfl (hr.mono (by decide)) (hst := fun hs => ps_asg v_bl (pg_sub (pv 4) (v_var 7) hs))) (b_one (s_app 2 (v_var 7) rfl (hst := ps_expr (pe_bm PySem.F.plainAttrs_list PySem.F.slot_list_append PySem.F.type_list_append mt_append (pv 2) (pa_cons (v_var 7) pa_nil)))))) b_nil))) b_nil))))))) (b_one (s_ret (v_varz 2)))))))
theorem sc__law_same : FnScope ["actual", "expected", "k"] ["actual", "expected"] (defScope s__law_same) := fnScope_byW (by decide +kernel)
theorem ok__law_same (Z : Fr mg) {f : Addr} {fd : FuncData} (F : FnD K "_law_same" s__law_same f fd) (hm : mg "_law_same" = some (.ref f)) : ∀ z, Df ⟨K, P, w⟩ mg base T (0 + z) "_law_same" [] 2 (f__law_same z)
  | 0 => df_none (ps := ["actual", "expected"]) F hm (fun _ _ _ _ _ _ us hl => match us, hl with | [_, _], _ => rfl) _
  | z + 1 => by
    have D_rec := ok__law_same Z F hm  z
    exact df_mk F hm sc__law_same (fun _ _ _ _ _ _ us hl => match us, hl with | [_, _], _ => rfl) fun A outer s H E hr => (b_cons (s_if (t_val (c_isi (T := "tuple") (v_var 1) rfl rfl Z.z_isinstance rfl Z.z_tuple (by decide +kernel))) (b_cons (s_if (PW.pt (t_or (t_not (t_val (c_isi (T := "tuple") (v_var 0) rfl rfl Z.z_isinstance rfl Z.z_tuple (by decide +kernel)))) (t_or1 (t_cmpC (c_ne (v_len (l_cons (v_var 0) l_nil) rfl rfl Z.z_len) (v_len (l_cons (v_var 1) l_nil) rfl rfl Z.z_len) rfl (hr.mono (Nat.le_trans (by decide) (Nat.le_add_right _ _)))))))) (b_one (s_ret v_bl)) b_nil) (b_cons (s_for PassesOwn.never rfl (i_rng1 rfl Z.z_range (v_len (l_cons (v_var 1) l_nil) rfl rfl Z.z_len)) (g_name 2 sc__law_same.nd (npL rfl)) (b_one (s_if (t_not (t_tru (v_of_m (m_callD D_rec rfl hr (a_e (v_get (v_var 0) (v_var 2) rfl) (a_e (v_get (v_var 1) (v_var 2) rfl) a_nil)))) rfl)) (b_one (s_ret v_bl)) b_nil))) (b_one (s_ret v_bl)))) b_nil) (b_cons (s_if (t_cmpC (c_isN (v_var 1))) (b_one (s_ret (c_isN (v_var 0)))) b_nil) (b_cons (s_if (t_val (c_isi (T := "bool") (v_var 1) rfl rfl Z.z_isinstance rfl Z.z_bool (by decide +kernel))) (b_one (s_ret (w_and (c_isi (T := "bool") (v_var 0) rfl rfl Z.z_isinstance rfl Z.z_bool (by decide +kernel)) (w_one (c_eq (v_var 0) (v_var 1) rfl (hr.mono (Nat.le_trans (by decide) (Nat.le_add_right _ _)))))))) b_nil) (b_cons (s_if (t_val (c_isi (T := "int") (v_var 1) rfl rfl Z.z_isinstance rfl Z.z_int (by decide +kernel))) (b_one (s_ret (w_and (c_isi (T := "int") (v_var 0) rfl rfl Z.z_isinstance rfl Z.z_int (by decide +kernel)) (w_and (w_not (c_isi (T := "bool") (v_var 0) rfl rfl Z.z_isinstance rfl Z.z_bool (by decide +kernel))) (w_one (c_eq (v_var 0) (v_var 1) rfl (hr.mono (Nat.le_trans (by decide) (Nat.le_add_right _ _))))))))) b_nil) (b_one (s_ret (w_and (c_isi (T := "str") (v_var 0) rfl rfl Z.z_isinstance rfl Z.z_str (by decide +kernel)) (w_one (c_eq (v_var 0) (v_var 1) rfl (hr.mono (Nat.le_trans (by decide) (Nat.le_add_right _ _))))))))))))
theorem sc__law_mixed : FnScope ["box", "alphabet", "word", "turn", "k"] ["box", "alphabet", "word"] (defScope s__law_mixed) := fnScope_byW (by decide +kernel)
theorem ok__law_mixed (Z : Fr mg) {f : Addr} {fd : FuncData} (F : FnD K "_law_mixed" s__law_mixed f fd) (hm : mg "_law_mixed" = some (.ref f)) (D__law_draw : Df ⟨K, P, w⟩ mg base T 1 "_law_draw" [0] 2 f__law_draw) (D__law_free : Df ⟨K, P, w⟩ mg base T 1 "_law_free" [] 3 f__law_free) : Df ⟨K, P, w⟩ mg base T 2 "_law_mixed" [0] 3 f__law_mixed :=
  df_mk F hm sc__law_mixed (fun _ _ _ _ _ _ us hl => match us, hl with | [_, _, _], _ => rfl) fun A outer s H E hr => by
    exact (b_cons (s_for PassesOwn.never rfl (i_rng1 rfl Z.z_range (v_mul v_int (v_len (l_cons (v_var 2) l_nil) rfl rfl Z.z_len))) (g_name 3 sc__law_mixed.nd (npL rfl)) (b_cons (s_set 4 sc__law_mixed.nd (v_of_m (m_callD D__law_draw rfl (hr.mono (by decide)) (a_s 0 (a_e (v_len (l_cons (v_var 2) l_nil) rfl rfl Z.z_len) a_nil)))) (npL rfl)) (b_one (s_if (PW.pt (t_and (t_cmpC (c_lt (v_add (v_var 4) v_int rfl) (v_len (l_cons (v_var 2) l_nil) rfl rfl Z.z_len))) (t_and1 (t_tru (v_of_m (m_callD D__law_free rfl (hr.mono (by decide)) (a_e (v_var 1) (a_e (v_get (v_var 2) (v_var 4) rfl) (a_e (v_get (v_var 2) (v_add (v_var 4) v_int rfl) rfl) a_nil))))) rfl)))) (b_one (s_set 2 sc__law_mixed.nd (v_add (v_add (v_add (v_cut (v_var 2) o_none (o_some (v_var 4)) rfl) (v_get (v_var 2) (v_add (v_var 4) v_int rfl) rfl) rfl) (v_get (v_var 2) (v_var 4) rfl) rfl) (v_cut (v_var 2) (o_some (v_add (v_var 4) v_int rfl)) o_none rfl) rfl) (npL rfl))) b_nil)))) (b_one (s_ret (v_var 2))))
theorem sc_law : FnScope ["script", "box", "turn", "alphabet", "word", "due", "other"] ["script"] (defScope s_law) := fnScope_byW (by decide +kernel)
theorem ok_law (Z : Fr mg) {f : Addr} {fd : FuncData} (F : FnD K "law" s_law f fd) (hm : mg "law" = some (.ref f)) (D__law_box : Df ⟨K, P, w⟩ mg base T 3 "_law_box" [] 3 f__law_box) (D__law_alphabet : Df ⟨K, P, w⟩ mg base T 2 "_law_alphabet" [0] 2 f__law_alphabet) (D__law_word : Df ⟨K, P, w⟩ mg base T 2 "_law_word" [0] 3 f__law_word) (D__law_class : Df ⟨K, P, w⟩ mg base T 2 "_law_class" [] 2 f__law_class) (D_words_of : Df ⟨K, P, w⟩ mg base T 87 "words_of" [] 2 (f_words_of 12)) (D__law_same : Df ⟨K, P, w⟩ mg base T 13 "_law_same" [] 2 (f__law_same 12)) (D_least : Df ⟨K, P, w⟩ mg base T 7 "least" [] 2 f_least) (D_greatest : Df ⟨K, P, w⟩ mg base T 7 "greatest" [] 2 f_greatest) (D__law_mixed : Df ⟨K, P, w⟩ mg base T 2 "_law_mixed" [0] 3 f__law_mixed) : FnOk P w K mg base CX0 88 f fd ["script"] (spV ⟨K, P, w⟩ T [0] 1 f_law) :=
  fn_end F sc_law fun A outer s H E hr => by
    exact (b_cons (s_setM 1 sc_law.nd (m_callD D__law_box rfl (hr.mono (by decide)) (a_e (v_varz 0) (a_e v_int (a_e v_int a_nil)))) (npL rfl)) (b_cons (s_for PassesOwn.never rfl (i_rng1 rfl Z.z_range v_int) (g_name 2 sc_law.nd (npL rfl)) (b_cons (s_set 3 sc_law.nd (v_of_m (m_callD D__law_alphabet rfl (hr.mono (by decide)) (a_s 1 (a_e v_int a_nil)))) (npL rfl)) (b_cons (s_set 4 sc_law.nd (v_of_m (m_callD D__law_word rfl (hr.mono (by decide)) (a_s 1 (a_e (v_var 3) (a_e v_int a_nil))))) (npL rfl)) (b_cons (s_set 5 sc_law.nd (v_frz (m_srtR (hr.mono (by decide)) (r_v (v_of_m (m_callD D__law_class rfl (hr.mono (by decide)) (a_e (v_var 3) (a_e (v_var 4) a_nil))))) rfl rfl Z.z_sorted)) (npL rfl)) (b_cons (s_if (t_not (t_tru (v_of_m (m_callD D__law_same rfl (hr.mono (by decide)) (a_e (v_of_m (m_callD D_words_of rfl (hr.mono (by decide)) (a_e (v_var 3) (a_e (v_var 4) a_nil)))) (a_e (v_tupR (r_v (v_var 5)) rfl rfl Z.z_tuple) a_nil)))) rfl)) (b_one (s_ret v_bl)) b_nil) (b_cons (s_if (PW.pt (t_or (t_not (t_tru (v_of_m (m_callD D__law_same rfl (hr.mono (by decide)) (a_e (v_of_m (m_callD D_least rfl (hr.mono (by decide)) (a_e (v_var 3) (a_e (v_var 4) a_nil)))) (a_e (v_get (v_var 5) v_int rfl) a_nil)))) rfl)) (t_or1 (t_not (t_tru (v_of_m (m_callD D__law_same rfl (hr.mono (by decide)) (a_e (v_of_m (m_callD D_greatest rfl (hr.mono (by decide)) (a_e (v_var 3) (a_e (v_var 4) a_nil)))) (a_e (v_get (v_var 5) (v_sub (v_len (l_cons (v_var 5) l_nil) rfl rfl Z.z_len) v_int) rfl) a_nil)))) rfl))))) (b_one (s_ret v_bl)) b_nil) (b_cons (s_set 6 sc_law.nd (v_of_m (m_callD D__law_mixed rfl (hr.mono (by decide)) (a_s 1 (a_e (v_var 3) (a_e (v_var 4) a_nil))))) (npL rfl)) (b_one (s_if (t_not (t_tru (v_of_m (m_callD D__law_same rfl (hr.mono (by decide)) (a_e (v_of_m (m_callD D_least rfl (hr.mono (by decide)) (a_e (v_var 3) (a_e (v_var 6) a_nil)))) (a_e (v_get (v_var 5) v_int rfl) a_nil)))) rfl)) (b_one (s_ret v_bl)) b_nil))))))))) (b_one (s_ret v_bl))))
end
def d_independent : He.DefD := ⟨("independent", none), "independent", "independent", defArgs s_independent, defBody s_independent, defScope s_independent, [], []⟩
def d_free : He.DefD := ⟨("free", none), "free", "free", defArgs s_free, defBody s_free, defScope s_free, [], []⟩
def d_firsts : He.DefD := ⟨("firsts", none), "firsts", "firsts", defArgs s_firsts, defBody s_firsts, defScope s_firsts, [], []⟩
def d_without_first : He.DefD := ⟨("without_first", none), "without_first", "without_first", defArgs s_without_first, defBody s_without_first, defScope s_without_first, [], []⟩
def d_least : He.DefD := ⟨("least", none), "least", "least", defArgs s_least, defBody s_least, defScope s_least, [], []⟩
def d_greatest : He.DefD := ⟨("greatest", none), "greatest", "greatest", defArgs s_greatest, defBody s_greatest, defScope s_greatest, [], []⟩
def d_words_of : He.DefD := ⟨("words_of", none), "words_of", "words_of", defArgs s_words_of, defBody s_words_of, defScope s_words_of, [], []⟩
def d__law_cell : He.DefD := ⟨("_law_cell", none), "_law_cell", "_law_cell", defArgs s__law_cell, defBody s__law_cell, defScope s__law_cell, [], []⟩
def d__law_digits : He.DefD := ⟨("_law_digits", none), "_law_digits", "_law_digits", defArgs s__law_digits, defBody s__law_digits, defScope s__law_digits, [], []⟩
def d__law_box : He.DefD := ⟨("_law_box", none), "_law_box", "_law_box", defArgs s__law_box, defBody s__law_box, defScope s__law_box, [], []⟩
def d__law_draw : He.DefD := ⟨("_law_draw", none), "_law_draw", "_law_draw", defArgs s__law_draw, defBody s__law_draw, defScope s__law_draw, [], []⟩
def d__law_alphabet : He.DefD := ⟨("_law_alphabet", none), "_law_alphabet", "_law_alphabet", defArgs s__law_alphabet, defBody s__law_alphabet, defScope s__law_alphabet, [], []⟩
def d__law_word : He.DefD := ⟨("_law_word", none), "_law_word", "_law_word", defArgs s__law_word, defBody s__law_word, defScope s__law_word, [], []⟩
def d__law_free : He.DefD := ⟨("_law_free", none), "_law_free", "_law_free", defArgs s__law_free, defBody s__law_free, defScope s__law_free, [], []⟩
def d__law_class : He.DefD := ⟨("_law_class", none), "_law_class", "_law_class", defArgs s__law_class, defBody s__law_class, defScope s__law_class, [], []⟩
def d__law_same : He.DefD := ⟨("_law_same", none), "_law_same", "_law_same", defArgs s__law_same, defBody s__law_same, defScope s__law_same, [], []⟩
def d__law_mixed : He.DefD := ⟨("_law_mixed", none), "_law_mixed", "_law_mixed", defArgs s__law_mixed, defBody s__law_mixed, defScope s__law_mixed, [], []⟩
def d_law : He.DefD := ⟨("law", none), "law", "law", defArgs s_law, defBody s_law, defScope s_law, [], []⟩
def fn : List He.DefD := [d_independent, d_free, d_firsts, d_without_first, d_least, d_greatest, d_words_of, d__law_cell, d__law_digits, d__law_box, d__law_draw, d__law_alphabet, d__law_word, d__law_free, d__law_class, d__law_same, d__law_mixed, d_law]
def fa : List He.Fa := [.glo "independent", .glo "free", .glo "firsts", .glo "without_first", .glo "least", .glo "greatest", .glo "words_of", .glo "_law_cell", .glo "_law_digits", .glo "_law_box", .glo "_law_draw", .glo "_law_alphabet", .glo "_law_word", .glo "_law_free", .glo "_law_class", .glo "_law_same", .glo "_law_mixed", .glo "law", .free "all", .free "bool", .free "enumerate", .free "int", .free "isinstance", .free "len", .free "max", .free "min", .free "range", .free "sorted", .free "str", .free "tuple"]
def tf : List He.Defn := [("free", none), ("words_of", none)]
abbrev hk : PySem.W.Hook := He.hookX 6 fa fn [] tf fun _ => true
abbrev R : PySem.W.OpenRow := PySem.W.OpenLaw.row PySem.Challenge.rw_tracehouse_k10_least_and_greatest_words
def ob (s : PySem.W.SharedT) : He.AlX := He.obsX 6 fa fn [] tf (fun _ => true) (HandSHeadRun.getT s)
theorem ob_eq (s : PySem.W.SharedT) : ob s = hk.obs s.abs := He.obsX_eq (HandSHeadRun.getT_eq s)
theorem run (w : World) : HandSHeadRun.RunEq R (PySem.W.view R.prog [21]) hk ob 1500 ["_law_alphabet", "_law_box", "_law_cell", "_law_class", "_law_digits", "_law_draw", "_law_free", "_law_mixed", "_law_same", "_law_word", "firsts", "free", "greatest", "independent", "least", "without_first", "words_of"] w := by
  intro os
  kernel_rfl
theorem facts {P : Program} {w : World} {K : PySem.W.Frag} {h : Heap} {mg : Str → Option Value} {fl : Addr} (X : K.In h) (G : h.Ns mainGlobals mg) (hfa : mg ("law" : Str) = some (.ref fl)) (c : He.SaysX fa fn [] tf (fun _ => true) w h K) :
    ∃ fd : FuncData, FnD K "law" s_law fl fd ∧ ∀ base : Heap, K.In base → base.Ns mainGlobals mg → (∀ p ∈ tf, GxR.TabB base mg (He.cT K p).1 (He.cT K p).2) → FnOk P w K mg base CX0 88 fl fd ["script"] (spV ⟨K, P, w⟩ (tf.map fun p => (He.cT K p).2) [0] 1 f_law) := by
  have D := c.t.d
  obtain ⟨fd_independent, F_independent⟩ := D.def_ 0 (d := d_independent) rfl
  have g_independent := He.glo_ok X G (D.fact 0 (f := .glo "independent") rfl)
  obtain ⟨fd_free, F_free⟩ := D.def_ 1 (d := d_free) rfl
  have g_free := He.glo_ok X G (D.fact 1 (f := .glo "free") rfl)
  obtain ⟨fd_firsts, F_firsts⟩ := D.def_ 2 (d := d_firsts) rfl
  have g_firsts := He.glo_ok X G (D.fact 2 (f := .glo "firsts") rfl)
  obtain ⟨fd_without_first, F_without_first⟩ := D.def_ 3 (d := d_without_first) rfl
  have g_without_first := He.glo_ok X G (D.fact 3 (f := .glo "without_first") rfl)
  obtain ⟨fd_least, F_least⟩ := D.def_ 4 (d := d_least) rfl
  have g_least := He.glo_ok X G (D.fact 4 (f := .glo "least") rfl)
  obtain ⟨fd_greatest, F_greatest⟩ := D.def_ 5 (d := d_greatest) rfl
  have g_greatest := He.glo_ok X G (D.fact 5 (f := .glo "greatest") rfl)
  obtain ⟨fd_words_of, F_words_of⟩ := D.def_ 6 (d := d_words_of) rfl
  have g_words_of := He.glo_ok X G (D.fact 6 (f := .glo "words_of") rfl)
  obtain ⟨fd__law_cell, F__law_cell⟩ := D.def_ 7 (d := d__law_cell) rfl
  have g__law_cell := He.glo_ok X G (D.fact 7 (f := .glo "_law_cell") rfl)
  obtain ⟨fd__law_digits, F__law_digits⟩ := D.def_ 8 (d := d__law_digits) rfl
  have g__law_digits := He.glo_ok X G (D.fact 8 (f := .glo "_law_digits") rfl)
  obtain ⟨fd__law_box, F__law_box⟩ := D.def_ 9 (d := d__law_box) rfl
  have g__law_box := He.glo_ok X G (D.fact 9 (f := .glo "_law_box") rfl)
  obtain ⟨fd__law_draw, F__law_draw⟩ := D.def_ 10 (d := d__law_draw) rfl
  have g__law_draw := He.glo_ok X G (D.fact 10 (f := .glo "_law_draw") rfl)
  obtain ⟨fd__law_alphabet, F__law_alphabet⟩ := D.def_ 11 (d := d__law_alphabet) rfl
  have g__law_alphabet := He.glo_ok X G (D.fact 11 (f := .glo "_law_alphabet") rfl)
  obtain ⟨fd__law_word, F__law_word⟩ := D.def_ 12 (d := d__law_word) rfl
  have g__law_word := He.glo_ok X G (D.fact 12 (f := .glo "_law_word") rfl)
  obtain ⟨fd__law_free, F__law_free⟩ := D.def_ 13 (d := d__law_free) rfl
  have g__law_free := He.glo_ok X G (D.fact 13 (f := .glo "_law_free") rfl)
  obtain ⟨fd__law_class, F__law_class⟩ := D.def_ 14 (d := d__law_class) rfl
  have g__law_class := He.glo_ok X G (D.fact 14 (f := .glo "_law_class") rfl)
  obtain ⟨fd__law_same, F__law_same⟩ := D.def_ 15 (d := d__law_same) rfl
  have g__law_same := He.glo_ok X G (D.fact 15 (f := .glo "_law_same") rfl)
  obtain ⟨fd__law_mixed, F__law_mixed⟩ := D.def_ 16 (d := d__law_mixed) rfl
  have g__law_mixed := He.glo_ok X G (D.fact 16 (f := .glo "_law_mixed") rfl)
  obtain ⟨fd_law, F_law⟩ := D.def_ 17 (d := d_law) rfl
  have g_law := He.glo_ok X G (D.fact 17 (f := .glo "law") rfl)
  have Z : Fr mg := ⟨He.free_ok X G (D.fact 18 (f := .free "all") rfl), He.free_ok X G (D.fact 19 (f := .free "bool") rfl), He.free_ok X G (D.fact 20 (f := .free "enumerate") rfl), He.free_ok X G (D.fact 21 (f := .free "int") rfl), He.free_ok X G (D.fact 22 (f := .free "isinstance") rfl), He.free_ok X G (D.fact 23 (f := .free "len") rfl), He.free_ok X G (D.fact 24 (f := .free "max") rfl), He.free_ok X G (D.fact 25 (f := .free "min") rfl), He.free_ok X G (D.fact 26 (f := .free "range") rfl), He.free_ok X G (D.fact 27 (f := .free "sorted") rfl), He.free_ok X G (D.fact 28 (f := .free "str") rfl), He.free_ok X G (D.fact 29 (f := .free "tuple") rfl)⟩
  have e := hfa.symm.trans g_law
  cases e
  refine ⟨fd_law, F_law, fun base _ _ hT => ?_⟩
  have D_independent : Df ⟨K, P, w⟩ mg base (tf.map fun p => (He.cT K p).2) _ "independent" _ _ f_independent := ok_independent Z F_independent g_independent 
  have D_free : Df ⟨K, P, w⟩ mg base (tf.map fun p => (He.cT K p).2) _ "free" _ _ f_free := ok_free Z F_free g_free (D_independent) (hT ("free", none) (by decide)) (code_of (p := ("free", none)) (x := "free") (st := s_free) F_free) (List.mem_map_of_mem (f := fun p => (He.cT K p).2) (show (("free", none) : He.Defn) ∈ tf by decide))
  have D_firsts : Df ⟨K, P, w⟩ mg base (tf.map fun p => (He.cT K p).2) _ "firsts" _ _ f_firsts := ok_firsts Z F_firsts g_firsts (D_free)
  have D_without_first : Df ⟨K, P, w⟩ mg base (tf.map fun p => (He.cT K p).2) _ "without_first" _ _ f_without_first := ok_without_first Z F_without_first g_without_first 
  have D_least : Df ⟨K, P, w⟩ mg base (tf.map fun p => (He.cT K p).2) _ "least" _ _ f_least := ok_least Z F_least g_least (D_firsts) (D_without_first)
  have D_greatest : Df ⟨K, P, w⟩ mg base (tf.map fun p => (He.cT K p).2) _ "greatest" _ _ f_greatest := ok_greatest Z F_greatest g_greatest (D_firsts) (D_without_first)
  have D_words_of : Df ⟨K, P, w⟩ mg base (tf.map fun p => (He.cT K p).2) 87 "words_of" _ _ (f_words_of 12) := (ok_words_of Z F_words_of g_words_of (D_firsts) (D_without_first) (hT ("words_of", none) (by decide)) (code_of (p := ("words_of", none)) (x := "words_of") (st := s_words_of) F_words_of) (List.mem_map_of_mem (f := fun p => (He.cT K p).2) (show (("words_of", none) : He.Defn) ∈ tf by decide)) 12).up (by decide)
  have D__law_cell : Df ⟨K, P, w⟩ mg base (tf.map fun p => (He.cT K p).2) _ "_law_cell" _ _ f__law_cell := ok__law_cell Z F__law_cell g__law_cell 
  have D__law_digits : Df ⟨K, P, w⟩ mg base (tf.map fun p => (He.cT K p).2) _ "_law_digits" _ _ f__law_digits := ok__law_digits Z F__law_digits g__law_digits (D__law_cell)
  have D__law_box : Df ⟨K, P, w⟩ mg base (tf.map fun p => (He.cT K p).2) _ "_law_box" _ _ f__law_box := ok__law_box Z F__law_box g__law_box (D__law_digits)
  have D__law_draw : Df ⟨K, P, w⟩ mg base (tf.map fun p => (He.cT K p).2) _ "_law_draw" _ _ f__law_draw := ok__law_draw Z F__law_draw g__law_draw 
  have D__law_alphabet : Df ⟨K, P, w⟩ mg base (tf.map fun p => (He.cT K p).2) _ "_law_alphabet" _ _ f__law_alphabet := ok__law_alphabet Z F__law_alphabet g__law_alphabet (D__law_draw)
  have D__law_word : Df ⟨K, P, w⟩ mg base (tf.map fun p => (He.cT K p).2) _ "_law_word" _ _ f__law_word := ok__law_word Z F__law_word g__law_word (D__law_draw)
  have D__law_free : Df ⟨K, P, w⟩ mg base (tf.map fun p => (He.cT K p).2) _ "_law_free" _ _ f__law_free := ok__law_free Z F__law_free g__law_free 
  have D__law_class : Df ⟨K, P, w⟩ mg base (tf.map fun p => (He.cT K p).2) _ "_law_class" _ _ f__law_class := ok__law_class Z F__law_class g__law_class (D__law_free)
  have D__law_same : Df ⟨K, P, w⟩ mg base (tf.map fun p => (He.cT K p).2) 13 "_law_same" _ _ (f__law_same 12) := (ok__law_same Z F__law_same g__law_same  12).up (by decide)
  have D__law_mixed : Df ⟨K, P, w⟩ mg base (tf.map fun p => (He.cT K p).2) _ "_law_mixed" _ _ f__law_mixed := ok__law_mixed Z F__law_mixed g__law_mixed (D__law_draw) (D__law_free)
  exact ok_law Z F_law g_law D__law_box D__law_alphabet D__law_word D__law_class D_words_of D__law_same D_least D_greatest D__law_mixed
end LWk10
open PySem PySem.W PySem.Calls PyProof.Rows VL in
theorem end_k10 (hl : ∀ ns : List Int, ns.length ≤ 63 → (∀ z ∈ ns, Builtin.Int.intBits z ≤ 1048576) → LawT PLk10.f_law ns) : PySem.Challenge.rw_tracehouse_k10_least_and_greatest_words.Holds := by
  w_on; o_law
  refine HandSHeadRun.head_any (r := OpenLaw.row PySem.Challenge.rw_tracehouse_k10_least_and_greatest_words) (q := view (OpenLaw.row PySem.Challenge.rw_tracehouse_k10_least_and_greatest_words).prog [21]) (H := LWk10.hk) (ob := LWk10.ob) (M := 1500) (loose := ["_law_alphabet", "_law_box", "_law_cell", "_law_class", "_law_digits", "_law_draw", "_law_free", "_law_mixed", "_law_same", "_law_word", "firsts", "free", "greatest", "independent", "least", "without_first", "words_of"]) (d := HandSHeadRun.topDef (OpenLaw.row PySem.Challenge.rw_tracehouse_k10_least_and_greatest_words).prog 21) (kwd := []) LWk10.ob_eq
    (by kernel_rfl) (fun s => by kernel_rfl) LWk10.run (by kernel_rfl) (by kernel_rfl) (by kernel_rfl) (by rfl) (by first | assumption | decide +kernel) (by decide +kernel) ⟨rfl, rfl, rfl, rfl, rfl, by decide +kernel⟩ ?hw ?hc
  case hw => w_witness2
  case hc =>
    refine LamX.walk_ofTsE (l := PySem.Challenge.rw_tracehouse_k10_least_and_greatest_words) (n := 63) (k := 88) (x := "script") (CX := fun _ => L2.CX0) rfl (by decide) (by kernel_rfl) ⟨rfl, by decide, by decide⟩ ?F (fun _ _ _ _ _ z => z)
    intro w mg fa h Y G hmg0
    obtain ⟨K, KX, c⟩ := Y
    have hmg : mg ("law" : PySem.Str) = some (.ref fa) := by
      have e : (HandSHeadRun.topDef (OpenLaw.row PySem.Challenge.rw_tracehouse_k10_least_and_greatest_words).prog 21).name = ("law" : PySem.Str) := by kernel_rfl
      rw [← e]
      exact hmg0
    obtain ⟨fd, Fd, hF⟩ := LWk10.facts (P := (PySem.Challenge.rw_tracehouse_k10_least_and_greatest_words).prog) (w := w) KX G hmg c
    exact ⟨K, KX, law_at c Fd KX (fun _ _ _ _ _ _ us hl => match us, hl with | [_], _ => rfl) hF hl⟩
end

section
theorem PySem.Challenge.cw_tracehouse_k10_least_and_greatest_words_holds : PySem.Challenge.rw_tracehouse_k10_least_and_greatest_words.Holds :=
  end_k10 fun ns _ _ => LL.law_t ns
end
