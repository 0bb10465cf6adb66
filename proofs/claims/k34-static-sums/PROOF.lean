import PyProof.Rows.All
import Wide.All
import OpenK.AllK
import Wide.FinOn
import PySem.Str
import HandS.ForMost
import HandS.More
import HandS.Deep
import HandS.TupAny
import HandS.TupLe
import HandS.SortInts
import HandS.TupSets
import HandS.Style
import HandS.Flow
import HandS.Defaults
import HandS.HeadHook1
import HandS.HeadHook2
import HandS.Iter
import HandS.List
import KE.GoesMore
import HandS.Zip
import HandS.NamedTupSort
import HandS.SetFor
import HandS.Strs
import HandS.ExcValue
import HandS.IsInst
import KE.DataMinMax
import HandS.SortKw
import HandS.Codes
import HandS.HeadHook4
import HandS.HeadEnd
import HandS.Head0
import HandS.Head1
import HandS.Head2
import PySem.Challenge.RW_rebut_k34_whole_static_sums_at_assignmen
set_option Elab.async false
set_option linter.all false
section
/-! Md: a small middle language. Data by value, a store of mutable objects, an evaluator that is a plain function. -/
namespace Md
open PySem (Str)

/-! ### data -/
inductive D where
  | non | bl (b : Bool) | int (i : Int) | str (x : Str) | tup (xs : List D) | lst (xs : List D) | ref (n : Nat) | scr (ns : List Int)
  deriving Inhabited

mutual
def eqD : D → D → Bool
  | .non, .non => true
  | .bl a, .bl b => a == b
  | .int a, .int b => a == b
  | .str a, .str b => a == b
  | .tup a, .tup b => eqDs a b
  | .lst a, .lst b => eqDs a b
  | .ref a, .ref b => a == b
  | .scr a, .scr b => a == b
  | _, _ => false
def eqDs : List D → List D → Bool
  | [], [] => true
  | x :: xs, y :: ys => eqD x y && eqDs xs ys
  | _, _ => false
end

mutual
theorem eqD_eq : ∀ {x y : D}, eqD x y = true → x = y
  | .non, y, h => by cases y <;> simp_all [eqD]
  | .bl a, y, h => by cases y <;> simp_all [eqD]
  | .int a, y, h => by cases y <;> simp_all [eqD]
  | .str a, y, h => by cases y <;> simp_all [eqD]
  | .ref a, y, h => by cases y <;> simp_all [eqD]
  | .scr a, y, h => by cases y <;> simp_all [eqD]
  | .tup a, y, h => by
    cases y <;> simp only [eqD, Bool.false_eq_true] at h
    rw [eqDs_eq h]
  | .lst a, y, h => by
    cases y <;> simp only [eqD, Bool.false_eq_true] at h
    rw [eqDs_eq h]
theorem eqDs_eq : ∀ {x y : List D}, eqDs x y = true → x = y
  | [], y, h => by cases y <;> simp_all [eqDs]
  | x :: xs, y, h => by
    cases y with
    | nil => simp [eqDs] at h
    | cons z zs =>
      simp only [eqDs, Bool.and_eq_true] at h
      rw [eqD_eq h.1, eqDs_eq h.2]
end
mutual
theorem eqD_self : ∀ x : D, eqD x x = true
  | .non => by simp [eqD]
  | .bl a => by simp [eqD]
  | .int a => by simp [eqD]
  | .str a => by simp [eqD]
  | .ref a => by simp [eqD]
  | .scr a => by simp [eqD]
  | .tup a => by simp [eqD, eqDs_self a]
  | .lst a => by simp [eqD, eqDs_self a]
theorem eqDs_self : ∀ x : List D, eqDs x x = true
  | [] => by simp [eqDs]
  | x :: xs => by simp [eqDs, eqD_self x, eqDs_self xs]
end
theorem eqD_iff {x y : D} : eqD x y = true ↔ x = y := ⟨eqD_eq, fun h => h ▸ eqD_self x⟩
theorem eqDs_iff {x y : List D} : eqDs x y = true ↔ x = y := ⟨eqDs_eq, fun h => h ▸ eqDs_self x⟩
instance : DecidableEq D := fun x y => if h : eqD x y = true then .isTrue (eqD_eq h) else .isFalse fun e => h (e ▸ eqD_self x)
theorem eqD_dec (x y : D) : eqD x y = decide (x = y) := by
  by_cases h : x = y
  · simp [h, eqD_self]
  · rw [decide_eq_false h]
    cases e : eqD x y with
    | false => rfl
    | true => exact absurd (eqD_eq e) h

/-! what may be compared by ==: no handles, no truth values within, plain texts, not too deep -/
def asc (x : Str) : Bool := x.cps.all fun c => decide (c < 128)
mutual
def eqOk : Nat → D → Bool
  | _, .non => true
  | _, .bl _ => false
  | _, .int _ => true
  | _, .str x => asc x
  | n, .tup xs => match n with
    | 0 => false
    | n + 1 => eqOks n xs
  | n, .lst xs => match n with
    | 0 => false
    | n + 1 => eqOks n xs
  | _, .ref _ => false
  | _, .scr _ => false
def eqOks : Nat → List D → Bool
  | _, [] => true
  | n, x :: xs => eqOk n x && eqOks n xs
end
/-! no handles within -/
mutual
def nr : D → Bool
  | .non => true
  | .bl _ => true
  | .int _ => true
  | .str _ => true
  | .tup xs => nrs xs
  | .lst xs => nrs xs
  | .ref _ => false
  | .scr _ => true
def nrs : List D → Bool
  | [] => true
  | x :: xs => nr x && nrs xs
end
/-! handles below n alone -/
mutual
def nrA (n : Nat) : D → Bool
  | .non => true
  | .bl _ => true
  | .int _ => true
  | .str _ => true
  | .tup xs => nrAs n xs
  | .lst xs => nrAs n xs
  | .ref m => decide (m < n)
  | .scr _ => true
def nrAs (n : Nat) : List D → Bool
  | [] => true
  | x :: xs => nrA n x && nrAs n xs
end

/-! ### the store -/
abbrev KK := Sum Int Str
inductive O where
  | lst (xs : List D)
  | dk (kvs : List (KK × D))
  | dt (kvs : List (List KK × D))
  | ins (c : Str) (fs : List (Str × D))
  deriving Inhabited
abbrev St := List O
abbrev Env := List (Option D)
def nrO (n : Nat) : O → Bool
  | .lst xs => nrAs n xs
  | .dk kvs => nrAs n (kvs.map (·.2))
  | .dt kvs => nrAs n (kvs.map (·.2))
  | .ins _ fs => nrAs n (fs.map (·.2))

def cap : Nat := 1000000
/-- a new list: by value, or a new object -/
def mk (m : Bool) (xs : List D) (s : St) : D × St := if m then (.ref s.length, s ++ [.lst xs]) else (.lst xs, s)
def lstOf (s : St) : D → Option (List D)
  | .lst xs => some xs
  | .ref n => match s[n]? with
    | some (.lst xs) => some xs
    | _ => none
  | _ => none
def seqOf (s : St) : D → Option (List D)
  | .tup xs => some xs
  | d => lstOf s d
/-- a tuple, a list by value -/
def valOf : D → Option (List D)
  | .tup xs => some xs
  | .lst xs => some xs
  | _ => none
def bnd {β : Type} (o : Option (D × St)) (k : D → St → Option β) : Option β := match o with
  | some (d, s) => k d s
  | none => none
@[simp] theorem bnd_some {β : Type} (d : D) (s : St) (k : D → St → Option β) : bnd (some (d, s)) k = k d s := rfl
@[simp] theorem bnd_none {β : Type} (k : D → St → Option β) : bnd none k = none := rfl

/-! ### keys and dicts -/
def keyK : D → Option KK
  | .int i => some (.inl i)
  | .str x => some (.inr x)
  | _ => none
def keysK : List D → Option (List KK)
  | [] => some []
  | x :: xs => match keyK x, keysK xs with
    | some k, some ks => some (k :: ks)
    | _, _ => none
def keyT : D → Option (List KK)
  | .tup xs => keysK xs
  | _ => none
def getK {κ : Type} [DecidableEq κ] : List (κ × D) → κ → Option D
  | [], _ => none
  | (k, v) :: r, q => if k = q then some v else getK r q
def putK {κ : Type} [DecidableEq κ] (kvs : List (κ × D)) (q : κ) (v : D) : List (κ × D) :=
  if kvs.any fun kv => decide (kv.1 = q) then kvs.map fun kv => if kv.1 = q then (kv.1, v) else kv else kvs ++ [(q, v)]
def putF : List (Str × D) → Str → D → List (Str × D)
  | [], f, v => [(f, v)]
  | (g, x) :: r, f, v => if g = f then (g, v) :: r else (g, x) :: putF r f v

/-! ### order -/
mutual
def ltD : D → D → Option Bool
  | .int a, .int b => some (decide (a < b))
  | .tup a, .tup b => ltDs a b
  | _, _ => none
def ltDs : List D → List D → Option Bool
  | [], [] => some false
  | [], _ :: _ => some true
  | _ :: _, [] => some false
  | x :: xs, y :: ys => if eqD x y then ltDs xs ys else ltD x y
end
/-- ints, tuples of ints, tuples of those -/
def homD : Nat → D → Bool
  | 0, .int _ => true
  | n + 1, .tup xs => xs.all (homD n)
  | _, _ => false
def ltB (x y : D) : Bool := (ltD x y).getD false
def insD {α : Type} (lt : α → α → Bool) (x : α) : List α → List α
  | [] => [x]
  | y :: ys => if lt y x then y :: insD lt x ys else x :: y :: ys
def isort {α : Type} (lt : α → α → Bool) : List α → List α
  | [] => []
  | x :: xs => insD lt x (isort lt xs)
def homs (xs : List D) : Bool := xs.all (homD 0) || xs.all (homD 1)
def sortD (xs : List D) : Option (List D) := if homs xs then some (isort ltB xs) else none
def dedup {α : Type} [DecidableEq α] : List α → List α
  | [] => []
  | x :: xs => if x ∈ xs then dedup xs else x :: dedup xs

/-! ### places -/
def ixOf (n : Nat) (i : Int) : Option Nat := if 0 ≤ i then (if i < n then some i.toNat else none) else if -(n : Int) ≤ i then some (i + n).toNat else none
def sIx (n d : Nat) : Option Int → Nat
  | none => d
  | some v => if v < 0 then (v + (n : Int)).toNat else min v.toNat n
def cut {α : Type} (xs : List α) (lo hi : Option Int) : List α := (xs.drop (sIx xs.length 0 lo)).take (sIx xs.length xs.length hi - sIx xs.length 0 lo)
def partOf (h : Bool) : D → Option (Option Int)
  | .non => if h then some none else none
  | .int i => if h then none else some (some i)
  | _ => none

def nthD (xs : List D) (i : Int) (s : St) : Option (D × St) := ((ixOf xs.length i).bind fun j => xs[j]?).map fun d => (d, s)
def idxD (x y : D) (s : St) : Option (D × St) := match x with
  | .scr ns => match y with
    | .int i => nthD (ns.map .int) i s
    | _ => none
  | .ref n => match s[n]? with
    | some (.lst xs) => match y with
      | .int i => nthD xs i s
      | _ => none
    | some (.dk kvs) => ((keyK y).bind fun q => getK kvs q).map fun d => (d, s)
    | some (.dt kvs) => ((keyT y).bind fun q => getK kvs q).map fun d => (d, s)
    | _ => none
  | .lst xs => match y with
    | .int i => nthD xs i s
    | _ => none
  | .tup xs => match y with
    | .int i => nthD xs i s
    | _ => none
  | _ => none
def slcD (m : Bool) (x : D) (l h : Option Int) (s : St) : Option (D × St) := match x with
  | .tup xs => some (.tup (cut xs l h), s)
  | x => (lstOf s x).map fun xs => mk m (cut xs l h) s

/-! ### operators -/
inductive Bo where
  | add | sub | mul | mod | fdiv | pow | shl
inductive Co where
  | eq | ne | lt | le | gt | ge | isIn | notIn | is | isNot
def big : Int := 18446744073709551616
def binI : Bo → Int → Int → Option Int
  | .add, a, b => some (a + b)
  | .sub, a, b => some (a - b)
  | .mul, a, b => if (-big < a ∧ a < big) ∨ (-big < b ∧ b < big) then some (a * b) else none
  | .mod, a, b => if 0 < b then some (a % b) else none
  | .fdiv, a, b => if 0 < b ∧ b < 1073741824 then some (a / b) else none
  | .pow, a, b => if 0 ≤ b ∧ b ≤ 1000 ∧ -big < a ∧ a < big then some (a ^ b.toNat) else none
  | .shl, a, b => if 0 ≤ b ∧ b ≤ 1000 ∧ -big < a ∧ a < big then some (a * 2 ^ b.toNat) else none
def binLL (o : Bo) (m : Bool) (a b : Option (List D)) (s : St) : Option (D × St) := match o, a, b with
  | .add, some a, some b => if a.length + b.length ≤ cap then some (mk m (a ++ b) s) else none
  | _, _, _ => none
def binLK (o : Bo) (m : Bool) (a : Option (List D)) (k : Int) (s : St) : Option (D × St) := match o, a with
  | .mul, some xs => if 0 ≤ k ∧ k ≤ 1000000 ∧ xs.length * k.toNat ≤ cap then some (mk m (List.replicate k.toNat xs).flatten s) else none
  | _, _ => none
def binTT (o : Bo) (a b : List D) (s : St) : Option (D × St) := match o with
  | .add => if a.length + b.length ≤ cap then some (.tup (a ++ b), s) else none
  | _ => none
def binSS (o : Bo) (a b : Str) (s : St) : Option (D × St) := match o with
  | .add => if a.length + b.length ≤ cap then some (.str (a ++ b), s) else none
  | _ => none
def binop (o : Bo) (m : Bool) (x y : D) (s : St) : Option (D × St) := match x, y with
  | .int a, .int b => (binI o a b).map fun i => (.int i, s)
  | .tup a, .tup b => binTT o a b s
  | .str a, .str b => binSS o a b s
  | x, .int k => binLK o m (lstOf s x) k s
  | x, y => binLL o m (lstOf s x) (lstOf s y) s
def truth (s : St) : D → Option Bool
  | .non => some false
  | .bl b => some b
  | .int i => some (i != 0)
  | .tup xs => some (!xs.isEmpty)
  | .lst xs => some (!xs.isEmpty)
  | .ref n => match s[n]? with
    | some (.lst xs) => some (!xs.isEmpty)
    | _ => none
  | .str _ => none
  | .scr _ => none
def memD (s : St) (x y : D) : Option Bool := match y with
  | .ref n => match s[n]? with
    | some (.dk kvs) => (keyK x).map fun k => (getK kvs k).isSome
    | some (.dt kvs) => (keyT x).map fun k => (getK kvs k).isSome
    | some (.lst ys) => if eqOk 60 x && eqOks 59 ys then some (ys.any fun z => eqD z x) else none
    | _ => none
  | .lst ys => if eqOk 60 x && eqOks 59 ys then some (ys.any fun z => eqD z x) else none
  | .tup ys => if eqOk 60 x && eqOks 59 ys then some (ys.any fun z => eqD z x) else none
  | _ => none
def eqvD (x y : D) : Option Bool := match x, y with
  | .bl a, .bl b => some (a == b)
  | x, y => if eqOk 60 x && eqOk 60 y then some (eqD x y) else none
/-- what stands right of is, is not -/
def isD (x y : D) : Option Bool := match y with
  | .non => some (eqD x .non)
  | .bl b => match x with
    | .bl a => some (a == b)
    | _ => none
  | _ => none
def cmpD (o : Co) (s : St) (x y : D) : Option Bool := match o with
  | .eq => eqvD x y
  | .ne => (eqvD x y).map (!·)
  | .isIn => memD s x y
  | .notIn => (memD s x y).map (!·)
  | .is => isD x y
  | .isNot => (isD x y).map (!·)
  | .lt => match x, y with
    | .int a, .int b => some (decide (a < b))
    | x, y => if homD 1 x && homD 1 y then ltD x y else none
  | .le => match x, y with
    | .int a, .int b => some (decide (a ≤ b))
    | _, _ => none
  | .gt => match x, y with
    | .int a, .int b => some (decide (b < a))
    | _, _ => none
  | .ge => match x, y with
    | .int a, .int b => some (decide (b ≤ a))
    | _, _ => none

/-! ### built-ins -/
inductive Bi where
  | len | abs | max2 | min2 | maxD | max | int | list | tuple | sorted | sortSet | lenSet | all | isInst (t : String)
def allB : List D → Option (List Bool)
  | [] => some []
  | .bl b :: r => (allB r).map (b :: ·)
  | _ => none
def allI : List D → Option (List Int)
  | [] => some []
  | .int b :: r => (allI r).map (b :: ·)
  | _ => none
def maxL : List Int → Int → Int
  | [], d => d
  | [x], _ => x
  | x :: xs, d => max x (maxL xs d)
def lenOf (s : St) : D → Option Nat
  | .scr ns => some ns.length
  | .str x => if x.length ≤ cap then some x.length else none
  | .ref n => match s[n]? with
    | some (.lst xs) => some xs.length
    | some (.dk kvs) => some kvs.length
    | _ => none
  | .tup xs => some xs.length
  | .lst xs => some xs.length
  | _ => none
def tyOf (s : St) : D → Option String
  | .scr _ => none
  | .non => some "NoneType"
  | .bl _ => some "bool"
  | .int _ => some "int"
  | .str _ => some "str"
  | .tup _ => some "tuple"
  | .lst _ => some "list"
  | .ref n => match s[n]? with
    | some (.lst _) => some "list"
    | _ => none
def instOf (t : String) (u : String) : Bool := t == u || (t == "int" && u == "bool")
/-- keys that are ints -/
def intKeys : List (KK × D) → Option (List D)
  | [] => some []
  | (.inl i, _) :: r => (intKeys r).map (.int i :: ·)
  | _ => none
/-- what sorted takes -/
def sortArg (s : St) : D → Option (List D)
  | .ref n => match s[n]? with
    | some (.lst xs) => some xs
    | some (.dk kvs) => if kvs.length < 64 then intKeys kvs else none
    | _ => none
  | .lst xs => some xs
  | .tup xs => if xs.all (homD 0) then some xs else none
  | _ => none
def op1 {β : Type} (f : D → Option β) : List D → Option β
  | [x] => f x
  | _ => none
def op2 {β : Type} (f : D → D → Option β) : List D → Option β
  | [x, y] => f x y
  | _ => none
def lenB (s : St) (x : D) : Option (D × St) := (lenOf s x).map fun (n : Nat) => (.int (n : Int), s)
def absB (s : St) : D → Option (D × St)
  | .int i => some (.int (if i < 0 then -i else i), s)
  | _ => none
def max2B (s : St) : D → D → Option (D × St)
  | .int i, .int j => some (.int (if j > i then j else i), s)
  | _, _ => none
def min2B (s : St) : D → D → Option (D × St)
  | .int i, .int j => some (.int (if j < i then j else i), s)
  | _, _ => none
def maxDB (s : St) : D → D → Option (D × St)
  | x, .int d => match lstOf s x with
    | some xs => (allI xs).map fun ns => (.int (maxL ns d), s)
    | none => none
  | _, _ => none
def maxB (s : St) (x : D) : Option (D × St) := match lstOf s x with
  | some xs => match allI xs with
    | some (n :: ns) => some (.int (maxL (n :: ns) 0), s)
    | _ => none
  | none => none
def intB (s : St) : D → Option (D × St)
  | .int i => some (.int i, s)
  | .bl b => some (.int (if b then 1 else 0), s)
  | _ => none
def listB (m : Bool) (s : St) (x : D) : Option (D × St) := (seqOf s x).map fun xs => mk m xs s
def tupleB (s : St) (x : D) : Option (D × St) := (seqOf s x).map fun xs => (.tup xs, s)
def sortedB (m : Bool) (s : St) (x : D) : Option (D × St) := match sortArg s x with
  | some xs => (sortD xs).map fun ys => mk m ys s
  | none => none
def smallT (xs : List D) : Bool := decide (xs.length < 64) && (xs.all (homD 0) || xs.all (homD 1))
def sortSetB (m : Bool) (s : St) (x : D) : Option (D × St) := match seqOf s x with
  | some xs => if smallT xs then some (mk m (isort ltB (dedup xs)) s) else none
  | none => none
def lenSetB (s : St) (x : D) : Option (D × St) := match seqOf s x with
  | some xs => if smallT xs then some (.int (dedup xs).length, s) else none
  | none => none
def allBB (s : St) (x : D) : Option (D × St) := match lstOf s x with
  | some xs => (allB xs).map fun bs => (.bl (bs.all id), s)
  | none => none
def instB (t : String) (s : St) (x : D) : Option (D × St) := (tyOf s x).map fun u => (.bl (instOf t u), s)
def biop (b : Bi) (m : Bool) (vs : List D) (s : St) : Option (D × St) := match b with
  | .len => op1 (lenB s) vs
  | .abs => op1 (absB s) vs
  | .max2 => op2 (max2B s) vs
  | .min2 => op2 (min2B s) vs
  | .maxD => op2 (maxDB s) vs
  | .max => op1 (maxB s) vs
  | .int => op1 (intB s) vs
  | .list => op1 (listB m s) vs
  | .tuple => op1 (tupleB s) vs
  | .sorted => op1 (sortedB m s) vs
  | .sortSet => op1 (sortSetB m s) vs
  | .lenSet => op1 (lenSetB s) vs
  | .all => op1 (allBB s) vs
  | .isInst t => op1 (instB t s) vs
inductive Bm where
  | append | extend | index | pop | pop0 | reverse | get
def idxOf (x : D) : List D → Option Nat
  | [] => none
  | y :: ys => if eqD y x then some 0 else (idxOf x ys).map (· + 1)
def op0 {β : Type} (r : Option β) : List D → Option β
  | [] => r
  | _ => none
/-- what a method may be asked of -/
def bmRecv (b : Bm) (o : D) (s : St) : Bool := match b with
  | .get => match o with
    | .ref n => match s[n]? with
      | some (.dk _) => true
      | some (.dt _) => true
      | _ => false
    | _ => false
  | _ => (lstOf s o).isSome
def appendM (n : Nat) (s : St) (x : D) : Option (D × St) := match s[n]? with
  | some (.lst xs) => if xs.length < cap then some (.non, s.set n (.lst (xs ++ [x]))) else none
  | _ => none
def extendM (n : Nat) (s : St) (y : D) : Option (D × St) := match s[n]? with
  | some (.lst xs) => match lstOf s y with
    | some ys => if xs.length + ys.length ≤ cap then some (.non, s.set n (.lst (xs ++ ys))) else none
    | none => none
  | _ => none
def indexM (o : D) (s : St) (x : D) : Option (D × St) := match lstOf s o with
  | some ys => if eqOk 60 x && eqOks 59 ys then (idxOf x ys).map fun (k : Nat) => (.int (k : Int), s) else none
  | none => none
def popM (n : Nat) (s : St) : Option (D × St) := match s[n]? with
  | some (.lst xs) => (xs[xs.length - 1]?).map fun x => (x, s.set n (.lst xs.dropLast))
  | _ => none
def pop0M (n : Nat) (s : St) : D → Option (D × St)
  | .int i => if i = 0 then match s[n]? with
    | some (.lst (x :: xs)) => some (x, s.set n (.lst xs))
    | _ => none else none
  | _ => none
def reverseM (n : Nat) (s : St) : Option (D × St) := match s[n]? with
  | some (.lst xs) => some (.non, s.set n (.lst xs.reverse))
  | _ => none
def getM (n : Nat) (s : St) (k d : D) : Option (D × St) := match s[n]? with
  | some (.dk kvs) => (keyK k).map fun q => ((getK kvs q).getD d, s)
  | some (.dt kvs) => (keyT k).map fun q => ((getK kvs q).getD d, s)
  | _ => none
def hd (o : D) (f : Nat → Option (D × St)) : Option (D × St) := match o with
  | .ref n => f n
  | _ => none
def bmop (b : Bm) (m : Bool) (o : D) (vs : List D) (s : St) : Option (D × St) := match b with
  | .append => op1 (fun x => hd o fun n => appendM n s x) vs
  | .extend => op1 (fun x => hd o fun n => extendM n s x) vs
  | .index => op1 (fun x => indexM o s x) vs
  | .pop => op0 (hd o fun n => popM n s) vs
  | .pop0 => op1 (fun x => hd o fun n => pop0M n s x) vs
  | .reverse => op0 (hd o fun n => reverseM n s) vs
  | .get => op2 (fun k d => hd o fun n => getM n s k d) vs
/-! ### targets -/
inductive G where
  | v (i : Nat) | nil | cons (a r : G) | t (gs : G)
def bindG : G → D → Env → Option Env
  | .v i, d, ρ => if i < ρ.length then some (ρ.set i (some d)) else none
  | .nil, .tup [], ρ => some ρ
  | .cons a r, .tup (x :: xs), ρ => match bindG a x ρ with
    | some ρ1 => bindG r (.tup xs) ρ1
    | none => none
  | .t gs, .tup xs, ρ => bindG gs (.tup xs) ρ
  | _, _, _ => none
def wipeE (ρ : Env) : List Nat → Env
  | [] => ρ
  | v :: vs => (wipeE ρ vs).set v none
def slots : G → List Nat
  | .v i => [i]
  | .nil => []
  | .cons a r => slots a ++ slots r
  | .t gs => slots gs

/-! ### expressions -/
inductive E where
  | stop
  | var (i : Nat)
  | int (i : Int) | str (x : Str) | bl (b : Bool) | non
  | glo (x : Str)
  | isG (n : Bool) (a : E) (x : Str)   -- a == x, a != x, x the module's tuple
  | bin (o : Bo) (m : Bool) (a b : E)
  | neg (a : E)
  | cmp (o : Co) (a b : E)
  | chain (o p : Co) (a b c : E)
  | and (a r : E) | or (a r : E) | one (a : E)
  | not (a : E)
  | ife (c a b : E)
  | nil | cons (a r : E) | star (a r : E)
  | tup (args : E)
  | lst (m : Bool) (args : E)
  | idx (a i : E)
  | slc (m : Bool) (a lo hi : E)
  | hole
  | fld (a : E) (f : Str) (cs : List Str)
  | call (f : Str) (args : E)
  | meth (o : E) (f : Str) (args : E)
  | make (c : Str) (args : E)
  | bi (b : Bi) (m : Bool) (args : E)
  | bm (b : Bm) (m : Bool) (o args : E)
  | comp (m : Bool) (vs : List Nat) (g : G) (it c elt : E)
  | comp2 (m : Bool) (vs vs1 : List Nat) (g : G) (it c : E) (g1 : G) (it1 c1 elt : E)
  | yes
  | rng (args : E) | enm (a : E) | zip (a b : E) | rev (a : E)
  | dict (m : Bool) (args : E)   -- a dict display: args are key, value, key, value ..; m: tuple keys

def isHole : E → Bool
  | .hole => true
  | _ => false
abbrev FK := Str × Option Str
abbrev Calls := FK → List D → St → Option (D × St)
/-- the items of what is walked -/
def stab (d : D) (items : List D) (s : St) : Bool := match d with
  | .ref n => match s[n]? with
    | some (.lst ys) => eqDs ys items
    | _ => false
  | _ => true
def compL (f : D → St → Option (Option D × St)) : List D → St → Option (List D × St)
  | [], s => some ([], s)
  | x :: xs, s => match f x s with
    | some (o, s1) => match compL f xs s1 with
      | some (ys, s2) => some (o.toList ++ ys, s2)
      | none => none
    | none => none
def rngI (lo : Int) : Nat → Int → List D
  | 0, _ => []
  | n + 1, c => .int lo :: rngI (lo + c) n c
def rngOf : List D → Option (List D)
  | [.int n] => if -1000000 ≤ n ∧ n ≤ 1000000 then some (rngI 0 n.toNat 1) else none
  | [.int a, .int b] => if -500000 ≤ a ∧ a ≤ 500000 ∧ b ≤ 500000 ∧ -500000 ≤ b then some (rngI a (b - a).toNat 1) else none
  | [.int a, .int b, .int (-1)] => if -500000 ≤ a ∧ a ≤ 500000 ∧ b ≤ 500000 ∧ -500000 ≤ b then some (rngI a (a - b).toNat (-1)) else none
  | _ => none
def enmL : Nat → List D → List D
  | _, [] => []
  | k, x :: xs => .tup [.int k, x] :: enmL (k + 1) xs
def zipL : List D → List D → List D
  | x :: xs, y :: ys => .tup [x, y] :: zipL xs ys
  | _, _ => []
/-- the pairs of a dict display -/
def pairsK : List D → Option (List (KK × D))
  | [] => some []
  | k :: v :: r => match keyK k, pairsK r with
    | some k, some r => some ((k, v) :: r)
    | _, _ => none
  | _ => none
def putAll {κ : Type} [DecidableEq κ] : List (κ × D) → List (κ × D) → List (κ × D)
  | [], acc => acc
  | (k, v) :: r, acc => putAll r (putK acc k v)

section
variable (Γ : Calls) (gl : Str → Option D)
def ev : E → Env → St → Option (D × St)
  | .stop, _, _ => none
  | .var i, ρ, s => match ρ[i]? with
    | some (some d) => some (d, s)
    | _ => none
  | .int i, _, s => some (.int i, s)
  | .str x, _, s => some (.str x, s)
  | .bl b, _, s => some (.bl b, s)
  | .non, _, s => some (.non, s)
  | .glo x, _, s => match gl x with
    | some (.int i) => some (.int i, s)
    | _ => none
  | .isG n a x, ρ, s => bnd (ev a ρ s) fun d s => match gl x with
    | some (.tup gs) => if eqOk 60 d && eqOk 60 (.tup gs) then some (.bl (eqD d (.tup gs) != n), s) else none
    | _ => none
  | .bin o m a b, ρ, s => bnd (ev a ρ s) fun x s => bnd (ev b ρ s) fun y s => binop o m x y s
  | .neg a, ρ, s => bnd (ev a ρ s) fun x s => match x with
    | .int i => some (.int (-i), s)
    | _ => none
  | .cmp o a b, ρ, s => bnd (ev a ρ s) fun x s => bnd (ev b ρ s) fun y s => (cmpD o s x y).map fun r => (.bl r, s)
  | .chain o p a b c, ρ, s => bnd (ev a ρ s) fun x s => bnd (ev b ρ s) fun y s => match cmpD o s x y with
    | some true => bnd (ev c ρ s) fun z s => (cmpD p s y z).map fun r => (.bl r, s)
    | some false => some (.bl false, s)
    | none => none
  | .and a r, ρ, s => bnd (ev a ρ s) fun x s => match x with
    | .bl true => ev r ρ s
    | .bl false => some (.bl false, s)
    | _ => none
  | .or a r, ρ, s => bnd (ev a ρ s) fun x s => match x with
    | .bl false => ev r ρ s
    | .bl true => some (.bl true, s)
    | _ => none
  | .one a, ρ, s => ev a ρ s
  | .not a, ρ, s => bnd (ev a ρ s) fun x s => (truth s x).map fun b => (.bl (!b), s)
  | .ife c a b, ρ, s => bnd (ev c ρ s) fun x s => match truth s x with
    | some true => ev a ρ s
    | some false => ev b ρ s
    | none => none
  | .nil, _, s => some (.tup [], s)
  | .cons a r, ρ, s => bnd (ev a ρ s) fun x s => bnd (ev r ρ s) fun y s => match y with
    | .tup xs => some (.tup (x :: xs), s)
    | _ => none
  | .star a r, ρ, s => bnd (ev a ρ s) fun x s => match seqOf s x with
    | some zs => bnd (ev r ρ s) fun y s => match y with
      | .tup xs => some (.tup (zs ++ xs), s)
      | _ => none
    | none => none
  | .tup args, ρ, s => bnd (ev args ρ s) fun x s => match x with
    | .tup xs => if xs.length ≤ cap then some (.tup xs, s) else none
    | _ => none
  | .lst m args, ρ, s => bnd (ev args ρ s) fun x s => match x with
    | .tup xs => if xs.length ≤ cap then some (mk m xs s) else none
    | _ => none
  | .idx a i, ρ, s => bnd (ev a ρ s) fun x s => bnd (ev i ρ s) fun y s => idxD x y s
  | .slc m a lo hi, ρ, s => bnd (ev a ρ s) fun x s => bnd (ev lo ρ s) fun l s => bnd (ev hi ρ s) fun h s => match partOf (isHole lo) l, partOf (isHole hi) h with
    | some l, some h => slcD m x l h s
    | _, _ => none
  | .hole, _, s => some (.non, s)
  | .fld a f cs, ρ, s => bnd (ev a ρ s) fun x s => match x with
    | .ref n => match s[n]? with
      | some (.ins c fs) => if cs.contains c then (fs.lookup f).map fun d => (d, s) else none
      | _ => none
    | _ => none
  | .call f args, ρ, s => bnd (ev args ρ s) fun x s => match x with
    | .tup vs => Γ (f, none) vs s
    | _ => none
  | .meth o f args, ρ, s => bnd (ev o ρ s) fun x s => match x with
    | .ref n => match s[n]? with
      | some (.ins c fs) => if (fs.lookup f).isNone then bnd (ev args ρ s) fun y s => match y with
        | .tup vs => Γ (c, some f) (.ref n :: vs) s
        | _ => none else none
      | _ => none
    | _ => none
  | .make c args, ρ, s => bnd (ev args ρ s) fun x s => match x with
    | .tup vs => bnd (Γ (c, some (Str.ofString "__init__")) (.ref s.length :: vs) (s ++ [.ins c []])) fun y s1 => match y with
      | .non => some (.ref s.length, s1)
      | _ => none
    | _ => none
  | .bi b m args, ρ, s => bnd (ev args ρ s) fun x s => match x with
    | .tup vs => biop b m vs s
    | _ => none
  | .bm b m o args, ρ, s => bnd (ev o ρ s) fun x s => if bmRecv b x s then bnd (ev args ρ s) fun y s => match y with
    | .tup vs => bmop b m x vs s
    | _ => none else none
  | .comp m vs g it c elt, ρ, s => bnd (ev it ρ s) fun x s => match seqOf s x with
    | some items => match compL (fun d s => match bindG g d (wipeE ρ vs) with
        | some ρ1 => bnd (ev c ρ1 s) fun b s => match truth s b with
          | some true => bnd (ev elt ρ1 s) fun y s => if stab x items s then some (some y, s) else none
          | some false => if stab x items s then some (none, s) else none
          | none => none
        | none => none) items s with
      | some (ys, s) => some (mk m ys s)
      | none => none
    | none => none
  | .comp2 m vs vs1 g it c g1 it1 c1 elt, ρ, s => bnd (ev it ρ s) fun x s => match seqOf s x with
    | some items => match compL (fun d s => match bindG g d (wipeE ρ vs) with
        | some ρ1 => bnd (ev c ρ1 s) fun b s => match truth s b with
          | some true => bnd (ev it1 ρ1 s) fun x1 s => match seqOf s x1 with
            | some items1 => match compL (fun d1 s => match bindG g1 d1 (wipeE ρ1 vs1) with
                | some ρ2 => bnd (ev c1 ρ2 s) fun b1 s => match truth s b1 with
                  | some true => bnd (ev elt ρ2 s) fun y s => if stab x1 items1 s then some (some y, s) else none
                  | some false => if stab x1 items1 s then some (none, s) else none
                  | none => none
                | none => none) items1 s with
              | some (ys, s) => if stab x items s && decide (ys.length ≤ cap) then some (some (.tup ys), s) else none
              | none => none
            | none => none
          | some false => if stab x items s then some (none, s) else none
          | none => none
        | none => none) items s with
      | some (yss, s) =>
        let zs := yss.flatMap fun d => match d with
          | .tup ys => ys
          | _ => []
        if zs.length ≤ cap then some (mk m zs s) else none
      | none => none
    | none => none
  | .yes, _, s => some (.bl true, s)
  | .rng args, ρ, s => bnd (ev args ρ s) fun x s => match x with
    | .tup vs => (rngOf vs).map fun xs => (.lst xs, s)
    | _ => none
  | .enm a, ρ, s => bnd (ev a ρ s) fun x s => (valOf x).map fun xs => (.lst (enmL 0 xs), s)
  | .zip a b, ρ, s => bnd (ev a ρ s) fun x s => bnd (ev b ρ s) fun y s => match x, y with
    | .tup xs, .tup ys => if xs.length ≤ cap then some (.lst (zipL xs ys), s) else none
    | .lst xs, .lst ys => if xs.length ≤ cap then some (.lst (zipL xs ys), s) else none
    | _, _ => none
  | .rev a, ρ, s => bnd (ev a ρ s) fun x s => match x with
    | .lst xs => some (.lst xs.reverse, s)
    | _ => none
  | .dict m args, ρ, s => bnd (ev args ρ s) fun x s => match x with
    | .tup [] => some (.ref s.length, s ++ [if m then .dt [] else .dk []])
    | .tup vs => (pairsK vs).map fun kvs => (.ref s.length, s ++ [.dk (putAll kvs [])])
    | _ => none
end

/-! ### statements -/
inductive S where
  | stop | skip
  | seq (a b : S)
  | asg (i : Nat) (e : E)
  | asgT (g : G) (e : E)
  | par (i j : Nat) (a b : E)
  | setF (o : E) (f : Str) (cs : List Str) (e : E)
  | setI (o i e : E)
  | aug (i : Nat) (o : Bo) (e : E)
  | exp (e : E)
  | ret (e : E) | retN
  | ife (c : E) (a b : S)
  | forS (g : G) (it : E) (body : S)
  | whl (c : E) (body : S)
  | brk
inductive R where
  | nx | ret (d : D) | brk
def forL (f : D → Env → St → Option (R × Env × St)) (ok : St → Bool) : List D → Env → St → Option (R × Env × St)
  | [], ρ, s => some (.nx, ρ, s)
  | x :: xs, ρ, s => match f x ρ s with
    | some (.nx, ρ1, s1) => if ok s1 then forL f ok xs ρ1 s1 else none
    | some (.brk, ρ1, s1) => some (.nx, ρ1, s1)
    | some (.ret d, ρ1, s1) => some (.ret d, ρ1, s1)
    | none => none
def whlL (c : Env → St → Option (Bool × St)) (f : Env → St → Option (R × Env × St)) : Nat → Env → St → Option (R × Env × St)
  | 0, _, _ => none
  | n + 1, ρ, s => match c ρ s with
    | some (true, s1) => match f ρ s1 with
      | some (.nx, ρ2, s2) => whlL c f n ρ2 s2
      | some (.brk, ρ2, s2) => some (.nx, ρ2, s2)
      | some (.ret d, ρ2, s2) => some (.ret d, ρ2, s2)
      | none => none
    | some (false, s1) => some (.nx, ρ, s1)
    | none => none
def augI : Bo → Int → Int → Option Int
  | .add, a, b => some (a + b)
  | .sub, a, b => some (a - b)
  | _, _, _ => none
def wfuel : Nat := 1000000
def setAt (o i v : D) (s : St) : Option St := match o with
  | .ref n => match s[n]?, i with
    | some (.lst xs), .int k => (ixOf xs.length k).map fun j => s.set n (.lst (xs.set j v))
    | some (.dk kvs), k => (keyK k).bind fun q => if kvs.length < cap then some (s.set n (.dk (putK kvs q v))) else none
    | some (.dt kvs), k => (keyT k).bind fun q => if kvs.length < cap then some (s.set n (.dt (putK kvs q v))) else none
    | _, _ => none
  | _ => none
section
variable (Γ : Calls) (gl : Str → Option D)
def ex : S → Env → St → Option (R × Env × St)
  | .stop, _, _ => none
  | .skip, ρ, s => some (.nx, ρ, s)
  | .seq a b, ρ, s => match ex a ρ s with
    | some (.nx, ρ1, s1) => ex b ρ1 s1
    | r => r
  | .asg i e, ρ, s => bnd (ev Γ gl e ρ s) fun x s => if i < ρ.length then some (.nx, ρ.set i (some x), s) else none
  | .asgT g e, ρ, s => bnd (ev Γ gl e ρ s) fun x s => match bindG g x ρ with
    | some ρ1 => some (.nx, ρ1, s)
    | none => none
  | .par i j a b, ρ, s => bnd (ev Γ gl a ρ s) fun x s => bnd (ev Γ gl b ρ s) fun y s => if i < ρ.length ∧ j < ρ.length then some (.nx, (ρ.set i (some x)).set j (some y), s) else none
  | .setF o f cs e, ρ, s => bnd (ev Γ gl e ρ s) fun v s => bnd (ev Γ gl o ρ s) fun x s => match x with
    | .ref n => match s[n]? with
      | some (.ins c fs) => if fs.length < 100 ∧ cs.contains c then some (.nx, ρ, s.set n (.ins c (putF fs f v))) else none
      | _ => none
    | _ => none
  | .setI o i e, ρ, s => bnd (ev Γ gl e ρ s) fun v s => bnd (ev Γ gl o ρ s) fun x s => bnd (ev Γ gl i ρ s) fun y s => (setAt x y v s).map fun s => (.nx, ρ, s)
  | .aug i o e, ρ, s => match ρ[i]? with
    | some (some (.int a)) => bnd (ev Γ gl e ρ s) fun y s => match y with
      | .int b => (augI o a b).map fun z => (.nx, ρ.set i (some (.int z)), s)
      | _ => none
    | _ => none
  | .exp e, ρ, s => bnd (ev Γ gl e ρ s) fun _ s => some (.nx, ρ, s)
  | .ret e, ρ, s => bnd (ev Γ gl e ρ s) fun x s => some (.ret x, ρ, s)
  | .retN, ρ, s => some (.ret .non, ρ, s)
  | .ife c a b, ρ, s => bnd (ev Γ gl c ρ s) fun x s => match truth s x with
    | some true => ex a ρ s
    | some false => ex b ρ s
    | none => none
  | .forS g it body, ρ, s => bnd (ev Γ gl it ρ s) fun x s => match seqOf s x with
    | some items => forL (fun d ρ s => match bindG g d ρ with
      | some ρ1 => ex body ρ1 s
      | none => none) (stab x items) items ρ s
    | none => none
  | .whl c body, ρ, s => whlL (fun ρ s => bnd (ev Γ gl c ρ s) fun x s => (truth s x).map fun b => (b, s)) (fun ρ s => ex body ρ s) wfuel ρ s
  | .brk, ρ, s => some (.brk, ρ, s)
end

/-! ### defs -/
inductive Kd where
  | pure | tidy | raw
  deriving DecidableEq
structure MF where
  np : Nat
  ns : Nat
  kd : Kd
  body : S
abbrev Tab := FK → Option MF
def runF (Γ : Calls) (gl : Str → Option D) (fd : MF) (args : List D) (s : St) : Option (D × St) :=
  if args.length = fd.np ∧ fd.np ≤ fd.ns then match ex Γ gl fd.body (args.map some ++ List.replicate (fd.ns - fd.np) none) s with
    | some (.ret d, _, s1) => some (d, s1)
    | some (.nx, _, s1) => some (.non, s1)
    | _ => none
  else none
/-- lists made since n, by value -/
def fzA (n : Nat) (s : St) : D → Option D
  | .ref m => if m < n then some (.ref m) else match s[m]? with
    | some (.lst xs) => if nrAs n xs then some (.lst xs) else none
    | _ => none
  | d => if nrA n d then some d else none
def callN (Φ : Tab) (gl : Str → Option D) : Nat → Calls
  | 0, _, _, _ => none
  | n + 1, f, args, s => match Φ f with
    | none => none
    | some fd => match fd.kd with
      | .pure => if nrs args then match runF (callN Φ gl n) gl fd args [] with
          | some (d, s1) => (fzA 0 s1 d).map fun d => (d, s)
          | none => none
        else none
      | .raw => runF (callN Φ gl n) gl fd args s
      | .tidy => match runF (callN Φ gl n) gl fd args s with
        | some (d, s1) => if (s1.take s.length).all (nrO s.length) then (fzA s.length s1 d).map fun d => (d, s1.take s.length) else none
        | none => none
end Md
end
section
set_option maxRecDepth 100000
/-! Snd1: what of the heap stands for what of the store; extension. -/
namespace Sn
open PySem PySem.Spec PyProof.Rows L2

/-! ### values -/
/-- foreign addresses, and the module's part -/
structure Fo where
  f : Addr → Prop
  K : PySem.W.Frag
instance : CoeFun Fo (fun _ => Addr → Prop) := ⟨Fo.f⟩
/-- a list of the module's part -/
def KL (K : PySem.W.Frag) (a : Addr) (xs : List V) : Prop := ∃ (o : Obj) (its : Array Value) (n : Nat), K.lookup a = some o ∧ o.cls = .type "list" ∧ o.dict = none ∧ o.data = .seq its n ∧ its.size ≤ sizeLine ∧ Vals xs its.toList
section
variable (K : PySem.W.Frag) (F : Fo) (μ : List Addr) (H : Hp)
mutual
def VR : Md.D → V → Prop
  | .non, v => v = .non
  | .bl b, v => v = .bl b
  | .int i, v => v = .int i
  | .str x, v => v = .str x
  | .tup ds, v => ∃ a vs, v = .ref a ∧ H a = some (.tup vs) ∧ VRs ds vs
  | .lst ds, v => ∃ a vs, v = .ref a ∧ H a = some (.lst vs) ∧ a ∉ μ ∧ ¬ F a ∧ VRs ds vs
  | .ref n, v => ∃ a, v = .ref a ∧ μ[n]? = some a
  | .scr ns, v => ∃ a, v = .ref a ∧ ((∃ o, H a = some (.frz o (.lst (ns.map V.int))) ∧ a ∉ μ ∧ ¬ F a) ∨ KL F.K a (ns.map V.int))
def VRs : List Md.D → List V → Prop
  | [], vs => vs = []
  | d :: ds, vs => ∃ v r, vs = v :: r ∧ VR d v ∧ VRs ds r
end
def KR {κ : Type} : List (κ × Md.D) → List (κ × V) → Prop
  | [], us => us = []
  | (k, d) :: r, us => ∃ v t, us = (k, v) :: t ∧ VR F μ H d v ∧ KR r t
def OR (a : Addr) : Md.O → Prop
  | .lst ds => ∃ vs, H a = some (.lst vs) ∧ VRs F μ H ds vs
  | .dk kvs => ∃ us, H a = some (.dK us) ∧ KR F μ H kvs us
  | .dt kvs => ∃ us, H a = some (.dT us) ∧ KR F μ H kvs us
  | .ins c fs => ∃ dx us, H a = some (.ins (He.ga K c) dx us) ∧ KR F μ H fs us
structure RS (s : Md.St) : Prop where
  len : μ.length = s.length
  nd : μ.Nodup
  ob : ∀ (n : Nat) (o : Md.O) (a : Addr), s[n]? = some o → μ[n]? = some a → OR K F μ H a o
  ff : ∀ a, F a → ∃ o, H a = some o
  kk : F.K = K
structure ER (ρ : Md.Env) (σ : L2.St) : Prop where
  len : ρ.length = σ.length
  at_ : ∀ (i : Nat) (d : Md.D), ρ[i]? = some (some d) → ∃ v, σ[i]? = some (some v) ∧ VR F μ H d v
end
/-- what an evaluation may do to the heap -/
structure Xt (μ : List Addr) (H : Hp) (μ' : List Addr) (H' : Hp) : Prop where
  pre : ∃ t, μ' = μ ++ t
  keep : ∀ a o, H a = some o → a ∉ μ → H' a = some o
  new : ∀ a, a ∈ μ' → a ∈ μ ∨ H a = none
  tup : ∀ a vs, H a = some (.tup vs) → H' a = some (.tup vs)

/-! as plain data -/
mutual
def toPy : Md.D → PyData
  | .non => .none
  | .bl b => .bool b
  | .int i => .int i
  | .str x => .str x
  | .tup ds => .tuple (toPys ds)
  | .lst ds => .list (toPys ds)
  | .ref _ => .none
  | .scr _ => .none
def toPys : List Md.D → List PyData
  | [] => []
  | d :: ds => toPy d :: toPys ds
end
section
variable {K : PySem.W.Frag} {F F' : Fo} {μ μ' μ'' : List Addr} {H H' H'' : Hp}
theorem Xt.refl : Xt μ H μ H := ⟨⟨[], by simp⟩, fun _ _ e _ => e, fun _ h => .inl h, fun _ _ h => h⟩
theorem Xt.trans (x : Xt μ H μ' H') (y : Xt μ' H' μ'' H'') : Xt μ H μ'' H'' := by
  refine ⟨?_, fun a o e n => ?_, fun a h => ?_, fun a vs h => y.tup a vs (x.tup a vs h)⟩
  · obtain ⟨t, rfl⟩ := x.pre
    obtain ⟨u, rfl⟩ := y.pre
    exact ⟨t ++ u, by rw [List.append_assoc]⟩
  · refine y.keep a o (x.keep a o e n) fun h => ?_
    rcases x.new a h with h | h
    · exact n h
    · rw [e] at h; cases h
  · rcases y.new a h with h | h
    · exact x.new a h
    · cases e : H a with
      | none => exact .inr rfl
      | some o =>
        by_cases hm : a ∈ μ
        · exact .inl hm
        · rw [x.keep a o e hm] at h; cases h
/-- a new object, tracked, no object of the store -/
theorem Xt.upd {p : Addr} {o : HO} (hp : H p = none) : Xt μ H μ (upd H p o) := by
  refine ⟨⟨[], by simp⟩, fun a u e _ => by rw [upd_ne (ne_of_none e hp)]; exact e, fun _ h => .inl h, fun a vs h => by rw [upd_ne (ne_of_none h hp)]; exact h⟩
/-- a new object, tracked, of the store -/
theorem Xt.new' {p : Addr} {o : HO} (hp : H p = none) : Xt μ H (μ ++ [p]) (L2.upd H p o) := by
  refine ⟨⟨[p], rfl⟩, fun a u e _ => by rw [upd_ne (ne_of_none e hp)]; exact e, fun a h => ?_, (Xt.upd (μ := μ) hp).tup⟩
  rcases List.mem_append.mp h with h | h
  · exact .inl h
  · rw [List.mem_singleton] at h; rw [h]; exact .inr hp
mutual
theorem VR.mono (x : Xt μ H μ' H') : ∀ {d : Md.D} {v : V}, VR F μ H d v → VR F μ' H' d v
  | .non, v, h => by simp only [VR] at h ⊢; exact h
  | .bl b, v, h => by simp only [VR] at h ⊢; exact h
  | .int i, v, h => by simp only [VR] at h ⊢; exact h
  | .str i, v, h => by simp only [VR] at h ⊢; exact h
  | .tup ds, v, h => by
    simp only [VR] at h ⊢
    obtain ⟨a, vs, e, hs, hv⟩ := h
    exact ⟨a, vs, e, x.tup a vs hs, VRs.mono x hv⟩
  | .lst ds, v, h => by
    simp only [VR] at h ⊢
    obtain ⟨a, vs, e, hs, nm, nf, hv⟩ := h
    refine ⟨a, vs, e, x.keep a _ hs nm, fun h => ?_, nf, VRs.mono x hv⟩
    rcases x.new a h with h | h
    · exact nm h
    · rw [hs] at h; cases h
  | .scr ns, v, h => by
    simp only [VR] at h ⊢
    obtain ⟨a, e, h⟩ := h
    refine ⟨a, e, ?_⟩
    rcases h with ⟨o, hs, nm, nf⟩ | h
    · refine .inl ⟨o, x.keep a _ hs nm, fun h => ?_, nf⟩
      rcases x.new a h with h | h
      · exact nm h
      · rw [hs] at h; cases h
    · exact .inr h
  | .ref n, v, h => by
    simp only [VR] at h ⊢
    obtain ⟨a, e, hn⟩ := h
    obtain ⟨t, rfl⟩ := x.pre
    refine ⟨a, e, ?_⟩
    rw [List.getElem?_append_left (List.getElem?_eq_some_iff.mp hn).1]
    exact hn
theorem VRs.mono (x : Xt μ H μ' H') : ∀ {ds : List Md.D} {vs : List V}, VRs F μ H ds vs → VRs F μ' H' ds vs
  | [], vs, h => by simp only [VRs] at h ⊢; exact h
  | d :: ds, vs, h => by
    simp only [VRs] at h ⊢
    obtain ⟨v, r, e, h1, h2⟩ := h
    exact ⟨v, r, e, VR.mono x h1, VRs.mono x h2⟩
end
/-! another set of foreign addresses -/
mutual
theorem VR.foreign (hf : ∀ a u, H a = some u → a ∉ μ → ¬ F a → a ∉ μ' ∧ ¬ F' a) (hk : F'.K = F.K) (hr : ∃ t, μ' = μ ++ t) : ∀ {d : Md.D} {v : V}, VR F μ H d v → VR F' μ' H d v
  | .non, v, h => by simp only [VR] at h ⊢; exact h
  | .bl b, v, h => by simp only [VR] at h ⊢; exact h
  | .int i, v, h => by simp only [VR] at h ⊢; exact h
  | .str i, v, h => by simp only [VR] at h ⊢; exact h
  | .tup ds, v, h => by
    simp only [VR] at h ⊢
    obtain ⟨a, vs, e, hs, hv⟩ := h
    exact ⟨a, vs, e, hs, VRs.foreign hf hk hr hv⟩
  | .lst ds, v, h => by
    simp only [VR] at h ⊢
    obtain ⟨a, vs, e, hs, nm, nf, hv⟩ := h
    obtain ⟨h1, h2⟩ := hf a _ hs nm nf
    exact ⟨a, vs, e, hs, h1, h2, VRs.foreign hf hk hr hv⟩
  | .scr ns, v, h => by
    simp only [VR] at h ⊢
    obtain ⟨a, e, h⟩ := h
    refine ⟨a, e, ?_⟩
    rcases h with ⟨o, hs, nm, nf⟩ | h
    · obtain ⟨h1, h2⟩ := hf a _ hs nm nf
      exact .inl ⟨o, hs, h1, h2⟩
    · exact .inr (by rw [hk]; exact h)
  | .ref n, v, h => by
    simp only [VR] at h ⊢
    obtain ⟨a, e, hn⟩ := h
    obtain ⟨t, e2⟩ := hr
    refine ⟨a, e, ?_⟩
    rw [e2, List.getElem?_append_left (List.getElem?_eq_some_iff.mp hn).1]
    exact hn
theorem VRs.foreign (hf : ∀ a u, H a = some u → a ∉ μ → ¬ F a → a ∉ μ' ∧ ¬ F' a) (hk : F'.K = F.K) (hr : ∃ t, μ' = μ ++ t) : ∀ {ds : List Md.D} {vs : List V}, VRs F μ H ds vs → VRs F' μ' H ds vs
  | [], vs, h => by simp only [VRs] at h ⊢; exact h
  | d :: ds, vs, h => by
    simp only [VRs] at h ⊢
    obtain ⟨v, r, e, h1, h2⟩ := h
    exact ⟨v, r, e, VR.foreign hf hk hr h1, VRs.foreign hf hk hr h2⟩
end
/-! data without handles, under another list of objects -/
mutual
theorem VR.nr (hf : ∀ a u, H a = some u → a ∉ μ → ¬ F a → a ∉ μ' ∧ ¬ F' a) (hk : F'.K = F.K) : ∀ {d : Md.D} {v : V}, Md.nr d = true → VR F μ H d v → VR F' μ' H d v
  | .non, v, _, h => by simp only [VR] at h ⊢; exact h
  | .bl b, v, _, h => by simp only [VR] at h ⊢; exact h
  | .int i, v, _, h => by simp only [VR] at h ⊢; exact h
  | .str i, v, _, h => by simp only [VR] at h ⊢; exact h
  | .tup ds, v, z, h => by
    simp only [VR] at h ⊢
    obtain ⟨a, vs, e, hs, hv⟩ := h
    exact ⟨a, vs, e, hs, VRs.nr hf hk (by simpa [Md.nr] using z) hv⟩
  | .lst ds, v, z, h => by
    simp only [VR] at h ⊢
    obtain ⟨a, vs, e, hs, nm, nf, hv⟩ := h
    obtain ⟨h1, h2⟩ := hf a _ hs nm nf
    exact ⟨a, vs, e, hs, h1, h2, VRs.nr hf hk (by simpa [Md.nr] using z) hv⟩
  | .scr ns, v, _, h => by
    simp only [VR] at h ⊢
    obtain ⟨a, e, h⟩ := h
    refine ⟨a, e, ?_⟩
    rcases h with ⟨o, hs, nm, nf⟩ | h
    · obtain ⟨h1, h2⟩ := hf a _ hs nm nf
      exact .inl ⟨o, hs, h1, h2⟩
    · exact .inr (by rw [hk]; exact h)
  | .ref n, v, z, h => by simp [Md.nr] at z
theorem VRs.nr (hf : ∀ a u, H a = some u → a ∉ μ → ¬ F a → a ∉ μ' ∧ ¬ F' a) (hk : F'.K = F.K) : ∀ {ds : List Md.D} {vs : List V}, Md.nrs ds = true → VRs F μ H ds vs → VRs F' μ' H ds vs
  | [], vs, _, h => by simp only [VRs] at h ⊢; exact h
  | d :: ds, vs, z, h => by
    simp only [VRs] at h ⊢
    obtain ⟨v, r, e, h1, h2⟩ := h
    have z' : Md.nr d = true ∧ Md.nrs ds = true := by simpa [Md.nrs] using z
    exact ⟨v, r, e, VR.nr hf hk z'.1 h1, VRs.nr hf hk z'.2 h2⟩
end
/-! data with handles below n, where the objects from n on are let go -/
mutual
theorem VR.below {t : List Addr} : ∀ {d : Md.D} {v : V}, Md.nrA μ.length d = true → VR F (μ ++ t) H d v → VR F μ H d v
  | .non, v, _, h => by simp only [VR] at h ⊢; exact h
  | .bl b, v, _, h => by simp only [VR] at h ⊢; exact h
  | .int i, v, _, h => by simp only [VR] at h ⊢; exact h
  | .str i, v, _, h => by simp only [VR] at h ⊢; exact h
  | .tup ds, v, z, h => by
    simp only [VR] at h ⊢
    obtain ⟨a, vs, e, hs, hv⟩ := h
    simp only [Md.nrA] at z
    exact ⟨a, vs, e, hs, VRs.below z hv⟩
  | .lst ds, v, z, h => by
    simp only [VR] at h ⊢
    obtain ⟨a, vs, e, hs, nm, nf, hv⟩ := h
    simp only [Md.nrA] at z
    exact ⟨a, vs, e, hs, fun h => nm (List.mem_append_left _ h), nf, VRs.below z hv⟩
  | .scr ns, v, _, h => by
    simp only [VR] at h ⊢
    obtain ⟨a, e, h⟩ := h
    refine ⟨a, e, ?_⟩
    rcases h with ⟨o, hs, nm, nf⟩ | h
    · exact .inl ⟨o, hs, fun h => nm (List.mem_append_left _ h), nf⟩
    · exact .inr h
  | .ref m, v, z, h => by
    simp only [VR] at h ⊢
    obtain ⟨a, e, hm⟩ := h
    have z' : m < μ.length := by simpa [Md.nrA] using z
    rw [List.getElem?_append_left z'] at hm
    exact ⟨a, e, hm⟩
theorem VRs.below {t : List Addr} : ∀ {ds : List Md.D} {vs : List V}, Md.nrAs μ.length ds = true → VRs F (μ ++ t) H ds vs → VRs F μ H ds vs
  | [], vs, _, h => by simp only [VRs] at h ⊢; exact h
  | d :: ds, vs, z, h => by
    simp only [VRs] at h ⊢
    obtain ⟨v, r, e, h1, h2⟩ := h
    have z' : Md.nrA μ.length d = true ∧ Md.nrAs μ.length ds = true := by simpa [Md.nrAs] using z
    exact ⟨v, r, e, VR.below z'.1 h1, VRs.below z'.2 h2⟩
end
theorem KR.mono {κ : Type} (x : Xt μ H μ' H') : ∀ {kvs : List (κ × Md.D)} {us : List (κ × V)}, KR F μ H kvs us → KR F μ' H' kvs us
  | [], us, h => by simp only [KR] at h ⊢; exact h
  | (k, d) :: r, us, h => by
    simp only [KR] at h ⊢
    obtain ⟨v, t, e, h1, h2⟩ := h
    exact ⟨v, t, e, h1.mono x, KR.mono x h2⟩
theorem KR.len {κ : Type} : ∀ {kvs : List (κ × Md.D)} {us : List (κ × V)}, KR F μ H kvs us → kvs.length = us.length
  | [], us, h => by simp only [KR] at h; rw [h]; rfl
  | (k, d) :: r, us, h => by
    simp only [KR] at h
    obtain ⟨v, t, rfl, _, h2⟩ := h
    simp [KR.len h2]
theorem KR.keys {κ : Type} : ∀ {kvs : List (κ × Md.D)} {us : List (κ × V)}, KR F μ H kvs us → kvs.map (·.1) = us.map (·.1)
  | [], us, h => by simp only [KR] at h; rw [h]; rfl
  | (k, d) :: r, us, h => by
    simp only [KR] at h
    obtain ⟨v, t, rfl, _, h2⟩ := h
    simp [KR.keys h2]
theorem KR.vals {κ : Type} : ∀ {kvs : List (κ × Md.D)} {us : List (κ × V)}, KR F μ H kvs us → VRs F μ H (kvs.map (·.2)) (us.map (·.2))
  | [], us, h => by simp only [KR] at h; rw [h]; simp [VRs]
  | (k, d) :: r, us, h => by
    simp only [KR] at h
    obtain ⟨v, t, rfl, h1, h2⟩ := h
    simp only [List.map_cons, VRs]
    exact ⟨_, _, rfl, h1, KR.vals h2⟩
theorem KR.of_vals {κ : Type} : ∀ {kvs : List (κ × Md.D)} {us : List (κ × V)}, kvs.map (·.1) = us.map (·.1) → VRs F μ H (kvs.map (·.2)) (us.map (·.2)) → KR F μ H kvs us
  | [], us, e, _ => by
    cases us with
    | nil => simp [KR]
    | cons _ _ => simp at e
  | (k, d) :: r, us, e, h => by
    cases us with
    | nil => simp at e
    | cons u us =>
      obtain ⟨k', v⟩ := u
      simp only [List.map_cons, List.cons.injEq] at e
      simp only [List.map_cons, VRs, List.cons.injEq] at h
      obtain ⟨v', r', ⟨e1, e2⟩, h1, h2⟩ := h
      subst e1 e2
      simp only [KR]
      exact ⟨_, _, by rw [e.1], h1, KR.of_vals e.2 h2⟩
theorem OR.mono (x : Xt μ H μ' H') {a : Addr} {o : Md.O} (h : OR K F μ H a o) (e : H' a = H a) : OR K F μ' H' a o := by
  cases o with
  | lst ds => obtain ⟨vs, h1, h2⟩ := h; exact ⟨vs, e.trans h1, h2.mono x⟩
  | dk ds => obtain ⟨vs, h1, h2⟩ := h; exact ⟨vs, e.trans h1, h2.mono x⟩
  | dt ds => obtain ⟨vs, h1, h2⟩ := h; exact ⟨vs, e.trans h1, h2.mono x⟩
  | ins c fs => obtain ⟨dx, us, h1, h2⟩ := h; exact ⟨dx, us, e.trans h1, h2.mono x⟩
theorem OR.mut {a : Addr} {o : Md.O} (h : OR K F μ H a o) : Mut (H a) := by
  cases o with
  | lst ds => obtain ⟨vs, h1, _⟩ := h; rw [h1]; trivial
  | dk ds => obtain ⟨vs, h1, _⟩ := h; rw [h1]; trivial
  | dt ds => obtain ⟨vs, h1, _⟩ := h; rw [h1]; trivial
  | ins c fs => obtain ⟨dx, us, h1, _⟩ := h; rw [h1]; trivial
theorem Mut.some' {o : Option HO} (h : Mut o) : ∃ u, o = some u := by
  cases o with
  | none => exact (show False from h).elim
  | some u => exact ⟨u, rfl⟩
section
variable {s : Md.St}
theorem RS.at_ (R : RS K F μ H s) {n : Nat} {o : Md.O} (h : s[n]? = some o) : ∃ a, μ[n]? = some a ∧ OR K F μ H a o := by
  have h1 := (List.getElem?_eq_some_iff.mp h).1
  have h2 : n < μ.length := by rw [R.len]; exact h1
  exact ⟨μ[n], List.getElem?_eq_getElem h2, R.ob n o _ h (List.getElem?_eq_getElem h2)⟩
theorem RS.mem (R : RS K F μ H s) {a : Addr} (h : a ∈ μ) : Mut (H a) := by
  obtain ⟨n, hn, e⟩ := List.mem_iff_getElem.mp h
  have h2 : n < s.length := by rw [← R.len]; exact hn
  exact (R.ob n _ a (List.getElem?_eq_getElem h2) (by rw [List.getElem?_eq_getElem hn, e])).mut
theorem RS.fresh (R : RS K F μ H s) {p : Addr} (h : H p = none) : p ∉ μ := fun q => by
  have := R.mem q
  rw [h] at this
  exact this
/-- a new object that the store does not name -/
theorem RS.upd (R : RS K F μ H s) {p : Addr} {o : HO} (hp : H p = none) : RS K F μ (L2.upd H p o) s :=
  ⟨R.len, R.nd, fun n ob a h1 h2 => (R.ob n ob a h1 h2).mono (Xt.upd hp) (upd_ne fun e => R.fresh hp (e ▸ List.mem_of_getElem? h2)), fun a h => by
    obtain ⟨u, hu⟩ := R.ff a h
    exact ⟨u, by rw [upd_ne (ne_of_none hu hp)]; exact hu⟩, R.kk⟩
/-- a new object of the store -/
theorem RS.push (R : RS K F μ H s) {p : Addr} {o : HO} {ob : Md.O} (hp : H p = none) (ho : OR K F (μ ++ [p]) (L2.upd H p o) p ob) : RS K F (μ ++ [p]) (L2.upd H p o) (s ++ [ob]) := by
  refine ⟨by simp [R.len], ?_, fun n u a h1 h2 => ?_, fun a h => ?_, R.kk⟩
  · rw [List.nodup_append]
    refine ⟨R.nd, by simp, fun a ha b hb => ?_⟩
    rw [List.mem_singleton] at hb
    subst hb
    exact fun e => R.fresh hp (e ▸ ha)
  · by_cases hn : n < s.length
    · rw [List.getElem?_append_left hn] at h1
      rw [List.getElem?_append_left (by rw [R.len]; exact hn)] at h2
      exact (R.ob n u a h1 h2).mono (Xt.new' hp) (upd_ne fun e => R.fresh hp (e ▸ List.mem_of_getElem? h2))
    · have e : n = s.length := by
        have := (List.getElem?_eq_some_iff.mp h1).1
        simp at this; omega
      subst e
      rw [List.getElem?_concat_length] at h1
      rw [← R.len, List.getElem?_concat_length] at h2
      cases h1; cases h2
      exact ho
  · obtain ⟨u, hu⟩ := R.ff a h
    exact ⟨u, by rw [upd_ne (ne_of_none hu hp)]; exact hu⟩
/-- an object of the store is changed -/
theorem RS.set (R : RS K F μ H s) {n : Nat} {a : Addr} {o : HO} {ob : Md.O} (hn : μ[n]? = some a) (nt : ∀ vs, H a ≠ some (.tup vs)) (ho : OR K F μ (L2.upd H a o) a ob) :
    Xt μ H μ (L2.upd H a o) ∧ RS K F μ (L2.upd H a o) (s.set n ob) := by
  have hm : a ∈ μ := List.mem_of_getElem? hn
  have x : Xt μ H μ (L2.upd H a o) := by
    refine ⟨⟨[], by simp⟩, fun b u e h => ?_, fun _ h => .inl h, fun b vs h => ?_⟩
    · rw [upd_ne (fun z => h (by rw [z]; exact hm))]; exact e
    · have : b ≠ a := fun z => nt vs (z ▸ h)
      rw [upd_ne this]; exact h
  refine ⟨x, by rw [List.length_set]; exact R.len, R.nd, fun m u b h1 h2 => ?_, fun b h => ?_, R.kk⟩
  · by_cases hmn : n = m
    · subst hmn
      rw [h2] at hn
      cases hn
      rw [List.getElem?_set_self (by rw [← R.len]; exact (List.getElem?_eq_some_iff.mp h2).1)] at h1
      cases h1
      exact ho
    · rw [List.getElem?_set_ne hmn] at h1
      refine (R.ob m u b h1 h2).mono x (upd_ne fun e => hmn ?_)
      subst e
      exact (nd_ix R.nd h2 hn).symm
  · obtain ⟨u, hu⟩ := R.ff b h
    by_cases e : b = a
    · subst e; exact ⟨o, upd_same⟩
    · exact ⟨u, by rw [upd_ne e]; exact hu⟩
end
theorem ER.mono {ρ : Md.Env} {σ : L2.St} (x : Xt μ H μ' H') (E : ER F μ H ρ σ) : ER F μ' H' ρ σ :=
  ⟨E.len, fun i d h => by
    obtain ⟨v, e, r⟩ := E.at_ i d h
    exact ⟨v, e, r.mono x⟩⟩
theorem ER.set {ρ : Md.Env} {σ : L2.St} (E : ER F μ H ρ σ) {d : Md.D} {v : V} (r : VR F μ H d v) (i : Nat) : ER F μ H (ρ.set i (some d)) (σ.set i (some v)) := by
  refine ⟨by simp [E.len], fun j e h => ?_⟩
  by_cases hj : i = j
  · subst hj
    by_cases hi : i < ρ.length
    · rw [List.getElem?_set_self hi] at h
      cases h
      exact ⟨v, by rw [List.getElem?_set_self (by rw [← E.len]; exact hi)], r⟩
    · rw [List.getElem?_eq_none (by simpa using hi)] at h; cases h
  · rw [List.getElem?_set_ne hj] at h
    obtain ⟨u, e1, r1⟩ := E.at_ j e h
    exact ⟨u, by rw [List.getElem?_set_ne hj]; exact e1, r1⟩
theorem ER.wipe {ρ : Md.Env} {σ : L2.St} (E : ER F μ H ρ σ) : ∀ vs : List Nat, ER F μ H (Md.wipeE ρ vs) (L2.wipe σ vs)
  | [] => E
  | v :: vs => by
    have E1 := ER.wipe E vs
    refine ⟨by simp [Md.wipeE, L2.wipe, E1.len], fun j e h => ?_⟩
    simp only [Md.wipeE] at h
    simp only [L2.wipe]
    by_cases hj : v = j
    · subst hj
      by_cases hi : v < (Md.wipeE ρ vs).length
      · rw [List.getElem?_set_self hi] at h; cases h
      · rw [List.getElem?_eq_none (by simpa using hi)] at h; cases h
    · rw [List.getElem?_set_ne hj] at h ⊢
      exact E1.at_ j e h
/-! ### lists of values -/
theorem VRs.len : ∀ {ds : List Md.D} {vs : List V}, VRs F μ H ds vs → ds.length = vs.length
  | [], vs, h => by simp only [VRs] at h; rw [h]; rfl
  | d :: ds, vs, h => by
    simp only [VRs] at h
    obtain ⟨v, r, rfl, _, h2⟩ := h
    simp [VRs.len h2]
theorem VRs.get : ∀ {ds : List Md.D} {vs : List V} {i : Nat} {d : Md.D}, VRs F μ H ds vs → ds[i]? = some d → ∃ v, vs[i]? = some v ∧ VR F μ H d v
  | [], vs, i, d, h, e => by simp at e
  | x :: ds, vs, 0, d, h, e => by
    simp only [VRs] at h
    obtain ⟨v, r, rfl, h1, _⟩ := h
    simp at e; subst e
    exact ⟨v, by simp, h1⟩
  | x :: ds, vs, i + 1, d, h, e => by
    simp only [VRs] at h
    obtain ⟨v, r, rfl, _, h2⟩ := h
    simp only [List.getElem?_cons_succ] at e ⊢
    exact VRs.get h2 e
theorem VRs.get' : ∀ {ds : List Md.D} {vs : List V} {i : Nat} {v : V}, VRs F μ H ds vs → vs[i]? = some v → ∃ d, ds[i]? = some d ∧ VR F μ H d v
  | [], vs, i, d, h, e => by simp only [VRs] at h; rw [h] at e; simp at e
  | x :: ds, vs, 0, d, h, e => by
    simp only [VRs] at h
    obtain ⟨v, r, rfl, h1, _⟩ := h
    simp at e; subst e
    exact ⟨x, by simp, h1⟩
  | x :: ds, vs, i + 1, d, h, e => by
    simp only [VRs] at h
    obtain ⟨v, r, rfl, _, h2⟩ := h
    simp only [List.getElem?_cons_succ] at e ⊢
    exact VRs.get' h2 e
theorem VRs.append : ∀ {ds es : List Md.D} {vs us : List V}, VRs F μ H ds vs → VRs F μ H es us → VRs F μ H (ds ++ es) (vs ++ us)
  | [], es, vs, us, h, g => by simp only [VRs] at h; rw [h]; exact g
  | d :: ds, es, vs, us, h, g => by
    simp only [VRs] at h
    obtain ⟨v, r, rfl, h1, h2⟩ := h
    simp only [List.cons_append, VRs]
    exact ⟨v, r ++ us, rfl, h1, VRs.append h2 g⟩
theorem VRs.drop : ∀ {ds : List Md.D} {vs : List V} (n : Nat), VRs F μ H ds vs → VRs F μ H (ds.drop n) (vs.drop n)
  | _, _, 0, h => h
  | [], vs, n + 1, h => by simp only [VRs] at h; rw [h]; simp [VRs]
  | d :: ds, vs, n + 1, h => by
    simp only [VRs] at h
    obtain ⟨v, r, rfl, h1, h2⟩ := h
    exact VRs.drop n h2
theorem VRs.take : ∀ {ds : List Md.D} {vs : List V} (n : Nat), VRs F μ H ds vs → VRs F μ H (ds.take n) (vs.take n)
  | _, _, 0, h => by simp [VRs]
  | [], vs, n + 1, h => by simp only [VRs] at h; rw [h]; simp [VRs]
  | d :: ds, vs, n + 1, h => by
    simp only [VRs] at h
    obtain ⟨v, r, rfl, h1, h2⟩ := h
    simp only [List.take_succ_cons, VRs]
    exact ⟨v, _, rfl, h1, VRs.take n h2⟩
theorem VRs.reverse : ∀ {ds : List Md.D} {vs : List V}, VRs F μ H ds vs → VRs F μ H ds.reverse vs.reverse
  | [], vs, h => by simp only [VRs] at h; rw [h]; simp [VRs]
  | d :: ds, vs, h => by
    simp only [VRs] at h
    obtain ⟨v, r, rfl, h1, h2⟩ := h
    rw [List.reverse_cons, List.reverse_cons]
    exact (VRs.reverse h2).append (by simp only [VRs]; exact ⟨v, [], rfl, h1, rfl⟩)
theorem VRs.set : ∀ {ds : List Md.D} {vs : List V} (j : Nat) {d : Md.D} {v : V}, VRs F μ H ds vs → VR F μ H d v → VRs F μ H (ds.set j d) (vs.set j v)
  | [], vs, j, d, v, h, g => by simp only [VRs] at h; rw [h]; simp [VRs]
  | x :: ds, vs, 0, d, v, h, g => by
    simp only [VRs] at h
    obtain ⟨u, r, rfl, h1, h2⟩ := h
    simp only [List.set_cons_zero, VRs]
    exact ⟨v, r, rfl, g, h2⟩
  | x :: ds, vs, j + 1, d, v, h, g => by
    simp only [VRs] at h
    obtain ⟨u, r, rfl, h1, h2⟩ := h
    simp only [List.set_cons_succ, VRs]
    exact ⟨u, _, rfl, h1, VRs.set j h2 g⟩
theorem KR.foreign {κ : Type} (hf : ∀ a u, H a = some u → a ∉ μ → ¬ F a → a ∉ μ' ∧ ¬ F' a) (hk : F'.K = F.K) (hr : ∃ t, μ' = μ ++ t) : ∀ {kvs : List (κ × Md.D)} {us : List (κ × V)}, KR F μ H kvs us → KR F' μ' H kvs us
  | [], us, h => by simp only [KR] at h ⊢; exact h
  | (k, d) :: r, us, h => by
    simp only [KR] at h ⊢
    obtain ⟨v, t, e, h1, h2⟩ := h
    exact ⟨v, t, e, h1.foreign hf hk hr, KR.foreign hf hk hr h2⟩
theorem OR.foreign (hf : ∀ a u, H a = some u → a ∉ μ → ¬ F a → a ∉ μ' ∧ ¬ F' a) (hk : F'.K = F.K) (hr : ∃ t, μ' = μ ++ t) {a : Addr} {o : Md.O} (h : OR K F μ H a o) : OR K F' μ' H a o := by
  cases o with
  | lst ds => obtain ⟨vs, h1, h2⟩ := h; exact ⟨vs, h1, h2.foreign hf hk hr⟩
  | dk ds => obtain ⟨vs, h1, h2⟩ := h; exact ⟨vs, h1, h2.foreign hf hk hr⟩
  | dt ds => obtain ⟨vs, h1, h2⟩ := h; exact ⟨vs, h1, h2.foreign hf hk hr⟩
  | ins c fs => obtain ⟨dx, us, h1, h2⟩ := h; exact ⟨dx, us, h1, h2.foreign hf hk hr⟩
theorem RS.foreign {s : Md.St} (R : RS K F μ H s) (hf : ∀ a u, H a = some u → a ∉ μ → ¬ F a → a ∉ μ ∧ ¬ F' a) (hk : F'.K = F.K) (hg : ∀ a, F' a → ∃ o, H a = some o) : RS K F' μ H s :=
  ⟨R.len, R.nd, fun n o a h1 h2 => (R.ob n o a h1 h2).foreign hf hk ⟨[], by simp⟩, hg, hk.trans R.kk⟩
theorem ER.foreign {ρ : Md.Env} {σ : L2.St} (E : ER F μ H ρ σ) (hf : ∀ a u, H a = some u → a ∉ μ → ¬ F a → a ∉ μ' ∧ ¬ F' a) (hk : F'.K = F.K) (hr : ∃ t, μ' = μ ++ t) : ER F' μ' H ρ σ :=
  ⟨E.len, fun i d h => by
    obtain ⟨v, e, r⟩ := E.at_ i d h
    exact ⟨v, e, r.foreign hf hk hr⟩⟩
theorem VRs.one {d : Md.D} {v : V} (h : VR F μ H d v) : VRs F μ H [d] [v] := by
  simp only [VRs]; exact ⟨v, [], rfl, h, rfl⟩
theorem VRs.cons {d : Md.D} {v : V} {ds : List Md.D} {vs : List V} (h : VR F μ H d v) (g : VRs F μ H ds vs) : VRs F μ H (d :: ds) (v :: vs) := by
  simp only [VRs]; exact ⟨v, vs, rfl, h, g⟩
theorem VRs.ints : ∀ {ns : List Int} {vs : List V}, VRs F μ H (ns.map .int) vs → vs = ns.map V.int
  | [], vs, h => by simpa [VRs] using h
  | n :: ns, vs, h => by
    simp only [List.map_cons, VRs, VR] at h
    obtain ⟨v, r, rfl, rfl, h2⟩ := h
    simp [VRs.ints h2]
theorem VRs.of_ints : ∀ (ns : List Int), VRs F μ H (ns.map .int) (ns.map V.int)
  | [] => by simp [VRs]
  | n :: ns => by
    simp only [List.map_cons, VRs, VR]
    exact ⟨_, _, rfl, rfl, VRs.of_ints ns⟩
end
end Sn
end
section
set_option maxRecDepth 100000
/-! Snd2: contexts, readings; names, constants, operators, comparisons, tests. -/
namespace Sn
open PySem PySem.Spec PyProof.Rows L2

/-! ### what is known of the module -/
structure Gv where
  P : Program
  w : World
  K : PySem.W.Frag
  mg : Str → Option Value
  base : Heap
  k : Nat
  Γ : Md.Calls
  gl : Str → Option Md.D
  clss : List Str
  flds : List (Str × Str)
def bnames : List Str := ["len", "abs", "max", "min", "int", "list", "tuple", "sorted", "set", "all", "isinstance", "range", "enumerate", "zip", "reversed", "dict", "sum", "str", "bool"]
def spI (K : PySem.W.Frag) (g : List Md.D → Md.St → Option (Md.D × Md.St)) : Sp := fun vs H Q _ => ∃ F μ s ds d s', RS K F μ H s ∧ VRs F μ H ds vs ∧ g ds s = some (d, s') ∧
  ∀ v H' μ', Xt μ H μ' H' → RS K F μ' H' s' → VR F μ' H' d v → Q v H'
def FnG (G : Gv) (f : Md.FK) (a : Addr) : Prop := ∃ fd ps, Binds G.K fd ps [] ∧ FnOk G.P G.w G.K G.mg G.base CX0 G.k a fd ps (spI G.K (G.Γ f))
def initS : Str := Str.ofString "__init__"
structure GOk (G : Gv) : Prop where
  bn : ∀ x ∈ bnames, G.mg x = none
  gls : ∀ x d, G.gl x = some d → ∃ v u, G.mg x = some v ∧ RelV u v ∧ (∀ i, d = .int i → u = .int i) ∧ ∀ ds, d = .tup ds → ∀ H, Dp G.K H u (toPy d)
  fn : ∀ x vs s r, G.Γ (x, none) vs s = some r → ∃ a, G.mg x = some (.ref a) ∧ PySem.W.keepIn G.K (.ref a) = true ∧ FnG G (x, none) a
  me : ∀ c m vs s r, G.Γ (c, some m) vs s = some r → c ∈ G.clss ∧ ∃ a, FnG G (c, some m) a ∧ (m = initS → Mk G.K (He.ga G.K c) a ∧ G.mg c = some (.ref (He.ga G.K c))) ∧ (m ≠ initS → Meth G.K (He.ga G.K c) m a)
  cl : ∀ c ∈ G.clss, Cls G.K (He.ga G.K c)
  fl : ∀ p ∈ G.flds, p.1 ∈ G.clss ∧ NoAttr G.K (He.ga G.K p.1) p.2
/-- a def's body, or a comprehension's block in it -/
structure XC (G : Gv) (N : List Str) (sc : Scope) (fn : Str → Bool) (X : Cx) : Prop where
  hP : X.prog = G.P
  hw : X.w = G.w
  hK : X.K = G.K
  hmg : X.mg = G.mg
  hb : X.base = G.base
  hN : X.N = N
  nd : N.Nodup
  hs : X.env.scope = sc
  hf : X.fn = fn
  calm : X.calm = true
  room : Room (G.k + 1) X.A
  xe : X.xe = fun _ _ => False
section
variable {G : Gv} {N : List Str} {sc : Scope} {fn : Str → Bool} {X : Cx}
theorem XC.un (C : XC G N sc fn X) : X.A.units + 70 < cLine := by
  have := C.room.un; omega
theorem XC.un0 (C : XC G N sc fn X) : X.A.units < cLine := by have := C.un; omega
theorem XC.un1 (C : XC G N sc fn X) : X.A.units + 1 < cLine := by have := C.un; omega
theorem XC.un64 (C : XC G N sc fn X) : X.A.units + 64 < cLine := by have := C.un; omega
theorem XC.un65 (C : XC G N sc fn X) : X.A.units + 65 < cLine := by have := C.un; omega
end

/-! ### readings -/
section
variable (G : Gv)
/-- what is wanted of a value -/
def KE (F : Fo) (μ : List Addr) (H : Hp) (d : Md.D) (s' : Md.St) (Q : VK) : Prop := ∀ v H' μ', Xt μ H μ' H' → RS G.K F μ' H' s' → VR F μ' H' d v → Q v H'
def tE (e : Md.E) : TE := fun σ H Q => ∃ F μ ρ s d s', RS G.K F μ H s ∧ ER F μ H ρ σ ∧ Md.ev G.Γ G.gl e ρ s = some (d, s') ∧ KE G F μ H d s' Q
def tA (e : Md.E) : TA := fun σ H Q => ∃ F μ ρ s ds s', RS G.K F μ H s ∧ ER F μ H ρ σ ∧ Md.ev G.Γ G.gl e ρ s = some (.tup ds, s') ∧
  ∀ vs H' μ', Xt μ H μ' H' → RS G.K F μ' H' s' → VRs F μ' H' ds vs → Q vs H'
def tT (e : Md.E) : TT := fun σ H Q => ∃ F μ ρ s d s' b, RS G.K F μ H s ∧ ER F μ H ρ σ ∧ Md.ev G.Γ G.gl e ρ s = some (d, s') ∧ Md.truth s' d = some b ∧
  ∀ H' μ', Xt μ H μ' H' → RS G.K F μ' H' s' → Q b H'
/-- an operation on two values -/
def r2D (f : Md.D → Md.D → Md.St → Option (Md.D × Md.St)) : R2 := fun x y H Q => ∃ F μ s dx dy d s', RS G.K F μ H s ∧ VR F μ H dx x ∧ VR F μ H dy y ∧ f dx dy s = some (d, s') ∧ KE G F μ H d s' Q
/-- a call with values -/
def rVs (f : List Md.D → Md.St → Option (Md.D × Md.St)) : List V → Hp → VK → Prop := fun xs H Q => ∃ F μ s ds d s', RS G.K F μ H s ∧ VRs F μ H ds xs ∧ f ds s = some (d, s') ∧ KE G F μ H d s' Q
end
theorem _root_.L2.PE.imp {X : Cx} {e : Expr} {t t' : TE} (h : PE X e t) (f : ∀ σ H Q, t' σ H Q → t σ H Q) : PE X e t' := ⟨fun pins s σ H Q I q => h.run pins s σ H Q I (f σ H Q q)⟩
theorem _root_.L2.PT.imp {X : Cx} {e : Expr} {t t' : TT} (h : PT X e t) (f : ∀ σ H Q, t' σ H Q → t σ H Q) : PT X e t' := ⟨fun pins s σ H Q I q => h.run pins s σ H Q I (f σ H Q q)⟩
theorem _root_.L2.PW.imp {X : Cx} {e : Expr} {t t' : TT} (h : PW X e t) (f : ∀ σ H Q, t' σ H Q → t σ H Q) : PW X e t' := ⟨fun wh pins s σ H Q I q => h.run wh pins s σ H Q I (f σ H Q q)⟩
theorem _root_.L2.PA.imp {X : Cx} {e : List Expr} {t t' : TA} (h : PA X e t) (f : ∀ σ H Q, t' σ H Q → t σ H Q) : PA X e t' := ⟨fun pos pins s σ H Q I q => h.run pos pins s σ H Q I (f σ H Q q)⟩
theorem _root_.L2.PS.imp {X : Cx} {st : Stmt} {t t' : TS} (h : PS X st t) (f : ∀ D σ H, t' D σ H → t D σ H) : PS X st t' := ⟨fun pins s σ H D I q => h.run pins s σ H D I (f D σ H q)⟩
theorem _root_.L2.PSs.imp {X : Cx} {st : List Stmt} {t t' : TS} (h : PSs X st t) (f : ∀ D σ H, t' D σ H → t D σ H) : PSs X st t' := ⟨fun pins s σ H D I q => h.run pins s σ H D I (f D σ H q)⟩

section
variable {G : Gv} {N : List Str} {sc : Scope} {fn : Str → Bool} {X : Cx}
theorem KE.now {F : Fo} {μ : List Addr} {H : Hp} {d : Md.D} {s : Md.St} {Q : VK} {v : V} (k : KE G F μ H d s Q) (R : RS G.K F μ H s) (r : VR F μ H d v) : Q v H := k v H μ Xt.refl R r
theorem KE.from {F : Fo} {μ μ1 : List Addr} {H H1 : Hp} {d : Md.D} {s : Md.St} {Q : VK} (k : KE G F μ H d s Q) (x : Xt μ H μ1 H1) : KE G F μ1 H1 d s Q := fun v H' μ' x' R r => k v H' μ' (x.trans x') R r
/-- a new list: by value, or an object of the store -/
theorem KE.mk {F : Fo} {μ : List Addr} {H : Hp} {m : Bool} {ds : List Md.D} {s : Md.St} {Q : VK} {p : Addr} {vs : List V} (k : KE G F μ H (Md.mk m ds s).1 (Md.mk m ds s).2 Q) (R : RS G.K F μ H s) (r : VRs F μ H ds vs) (hp : H p = none) : Q (.ref p) (upd H p (.lst vs)) := by
  cases m with
  | false =>
    have nF : ¬ F p := fun z => by obtain ⟨o, e⟩ := R.ff p z; rw [hp] at e; cases e
    refine k _ _ μ (Xt.upd hp) (R.upd hp) ?_
    show VR F μ (upd H p (.lst vs)) (.lst ds) (.ref p)
    simp only [VR]
    exact ⟨p, vs, rfl, upd_same, R.fresh hp, nF, r.mono (Xt.upd hp)⟩
  | true =>
    refine k _ _ (μ ++ [p]) (Xt.new' hp) (R.push hp ⟨vs, upd_same, r.mono (Xt.new' hp)⟩) ?_
    show VR F (μ ++ [p]) (upd H p (.lst vs)) (.ref s.length) (.ref p)
    simp only [VR]
    exact ⟨p, rfl, by rw [← R.len, List.getElem?_concat_length]⟩
/-- a new tuple -/
theorem KE.tup {F : Fo} {μ : List Addr} {H : Hp} {ds : List Md.D} {s : Md.St} {Q : VK} {p : Addr} {vs : List V} (k : KE G F μ H (.tup ds) s Q) (R : RS G.K F μ H s) (r : VRs F μ H ds vs) (hp : H p = none) : Q (.ref p) (upd H p (.tup vs)) := by
  refine k _ _ μ (Xt.upd hp) (R.upd hp) ?_
  simp only [VR]
  exact ⟨p, vs, rfl, upd_same, r.mono (Xt.upd hp)⟩

theorem bnd_inv {β : Type} {o : Option (Md.D × Md.St)} {k : Md.D → Md.St → Option β} {r : β} (h : Md.bnd o k = some r) : ∃ d s, o = some (d, s) ∧ k d s = some r := by
  cases o with
  | none => cases h
  | some p => exact ⟨p.1, p.2, rfl, h⟩
/-! ### names, constants -/
theorem r_stop {ex : Expr} : PE X ex (tE G .stop) := ⟨fun _ _ _ _ _ _ ⟨_, _, _, _, _, _, _, _, h, _⟩ => by simp [Md.ev] at h⟩
theorem r_var {i : Nat} {x : Str} {pos : Pos} (hN : X.N[i]? = some x) (hv : Vis X.env.scope x) (hd : (x == ("__debug__" : Str)) = false) (hcd : (x == ("__classdict__" : Str)) = false) : PE X (.Name x pos) (tE G (.var i)) :=
  (pe_var hN hv hd hcd).imp fun σ H Q ⟨F, μ, ρ, s, d, s', R, E, h, k⟩ => by
    simp only [Md.ev] at h
    split at h
    · rename_i d' e
      cases h
      obtain ⟨v, e1, r⟩ := E.at_ i _ e
      exact ⟨v, e1, k.now R r⟩
    · cases h
theorem r_int {i : Int} {j pos} : PE X (.Constant (.int i) j pos) (tE G (.int i)) :=
  pe_int.imp fun σ H Q ⟨F, μ, ρ, s, d, s', R, E, h, k⟩ => by
    simp only [Md.ev] at h; cases h
    exact k.now R (by simp only [VR])
theorem r_bl {i : Bool} {j pos} : PE X (.Constant (.bool i) j pos) (tE G (.bl i)) :=
  pe_bl.imp fun σ H Q ⟨F, μ, ρ, s, d, s', R, E, h, k⟩ => by
    simp only [Md.ev] at h; cases h
    exact k.now R (by simp only [VR])
theorem r_non {j pos} : PE X (.Constant .none j pos) (tE G .non) :=
  pe_non.imp fun σ H Q ⟨F, μ, ρ, s, d, s', R, E, h, k⟩ => by
    simp only [Md.ev] at h; cases h
    exact k.now R (by simp only [VR])
theorem r_str {x : Str} {j pos} : PE X (.Constant (.str x) j pos) (tE G (.str x)) :=
  pe_str.imp fun σ H Q ⟨F, μ, ρ, s, d, s', R, E, h, k⟩ => by
    simp only [Md.ev] at h; cases h
    exact k.now R (by simp only [VR])
theorem r_glo (O : GOk G) (C : XC G N sc fn X) {x : Str} {pos : Pos} (hg : Gl X x) (hd : (x == ("__debug__" : Str)) = false) : PE X (.Name x pos) (tE G (.glo x)) := by
  refine ⟨fun pins st σ H Q I ⟨F, μ, ρ, s, d, s', R, E, h, k⟩ => ?_⟩
  simp only [Md.ev] at h
  split at h
  · rename_i i h1
    cases h
    obtain ⟨v, u, hm, hr, hu, _⟩ := O.gls x _ h1
    rw [hu i rfl] at hr
    exact (pe_glob (v := .int i) hg (by rw [C.hmg]; exact hm) hr hd).run pins st σ H Q I (k.now R (by simp only [VR]))
  · cases h

/-! ### operators -/
theorem r_op {op : Operator} {a b : Expr} {ea eb : Md.E} {o : Md.Bo} {m : Bool} {pos : Pos} (ho : OpR X (binaryOp op) (r2D G (Md.binop o m))) (ha : PE X a (tE G ea)) (hb : PE X b (tE G eb)) : PE X (.BinOp a op b pos) (tE G (.bin o m ea eb)) :=
  (pe_op ho ha hb).imp fun σ H Q ⟨F, μ, ρ, s, d, s', R, E, h, k⟩ => by
    simp only [Md.ev] at h
    obtain ⟨x, s1, h1, h⟩ := bnd_inv h
    obtain ⟨y, s2, h2, h⟩ := bnd_inv h
    refine ⟨F, μ, ρ, s, x, s1, R, E, h1, fun v1 H1 μ1 X1 R1 V1 => ⟨F, μ1, ρ, s1, y, s2, R1, E.mono X1, h2, fun v2 H2 μ2 X2 R2 V2 => ?_⟩⟩
    exact ⟨F, μ2, s2, x, y, d, s', R2, V1.mono X2, V2, h, k.from (X1.trans X2)⟩
theorem r_neg {a : Expr} {ea : Md.E} {pos : Pos} (ha : PE X a (tE G ea)) : PE X (.UnaryOp .USub a pos) (tE G (.neg ea)) :=
  (pe_un un_neg ha).imp fun σ H Q ⟨F, μ, ρ, s, d, s', R, E, h, k⟩ => by
    simp only [Md.ev] at h
    obtain ⟨x, s1, h1, h⟩ := bnd_inv h
    split at h
    · cases h
      refine ⟨F, μ, ρ, s, _, _, R, E, h1, fun v1 H1 μ1 X1 R1 V1 => ?_⟩
      simp only [VR] at V1
      exact ⟨_, V1, (k.from X1).now R1 (by simp only [VR])⟩
    · cases h
theorem opI_ok {op : Operator} {o : Md.Bo} {C : Int → Int → Prop} {g : Int → Int → Int} (h : OpR X (binaryOp op) (rI C fun i j => .int (g i j))) (hc : ∀ i j z, Md.binI o i j = some z → C i j ∧ g i j = z) :
    ∀ {F : Fo} {μ : List Addr} {pins : List (Addr × Obj)} {st : Shared} {σ : L2.St} {H : Hp} {x y : V} {v u : Value} {Q : VK} {i j : Int} {d : Md.D} {s s' : Md.St}, Inv X pins σ H st → RelV x v → RelV y u → RS G.K F μ H s → VR F μ H (.int i) x → VR F μ H (.int j) y →
      (Md.binI o i j).map (fun i => (Md.D.int i, s)) = some (d, s') → KE G F μ H d s' Q → wpAny (model X.prog X.w) X.A (binaryOp op v u) (EP X pins σ Q) X.xe st := by
  intro F μ pins st σ H x y v u Q i j d s s' I rx ry R hx hy e k
  simp only [Option.map_eq_some_iff] at e
  obtain ⟨z, e1, e2⟩ := e
  cases e2
  obtain ⟨c, e3⟩ := hc i j z e1
  simp only [VR] at hx hy
  exact h pins st σ H x y v u Q I rx ry ⟨i, j, hx, hy, c, k.now R (by simp only [VR]; rw [e3])⟩
/-- what an arithmetic operator does -/
structure ArI (X : Cx) (op : Operator) (o : Md.Bo) : Prop where
  ok : ∃ (C : Int → Int → Prop) (g : Int → Int → Int), OpR X (binaryOp op) (rI C fun i j => .int (g i j)) ∧ ∀ i j z, Md.binI o i j = some z → C i j ∧ g i j = z
theorem rI_of0 {op : Operator} {g : Int → Int → Int} (h : OpR X (binaryOp op) (rI0 fun i j => .int (g i j))) : OpR X (binaryOp op) (rI (fun _ _ => True) fun i j => .int (g i j)) := fun pins s σ H x y v u Q I rx ry ⟨i, j, e1, e2, _, q⟩ => h pins s σ H x y v u Q I rx ry ⟨i, j, e1, e2, q⟩
theorem ar_add : ArI X .Add .add := ⟨_, _, rI_of0 op_add, fun i j z h => by simp only [Md.binI] at h; cases h; exact ⟨trivial, rfl⟩⟩
theorem ar_sub : ArI X .Sub .sub := ⟨_, _, rI_of0 op_sub, fun i j z h => by simp only [Md.binI] at h; cases h; exact ⟨trivial, rfl⟩⟩
theorem ar_mul : ArI X .Mult .mul := ⟨_, _, op_mul, fun i j z h => by
  simp only [Md.binI] at h
  split at h
  · rename_i c
    cases h
    refine ⟨?_, rfl⟩
    unfold CMul
    unfold Md.big at c
    omega
  · cases h⟩
theorem ar_mod : ArI X .Mod .mod := ⟨_, _, op_mod, fun i j z h => by
  simp only [Md.binI] at h
  split at h
  · rename_i c
    cases h
    exact ⟨c, rfl⟩
  · cases h⟩
theorem ar_fdiv : ArI X .FloorDiv .fdiv := ⟨_, _, op_fdiv, fun i j z h => by
  simp only [Md.binI] at h
  split at h
  · rename_i c
    cases h
    exact ⟨c, rfl⟩
  · cases h⟩
theorem ar_pow : ArI X .Pow .pow := ⟨_, _, op_pow, fun i j z h => by
  simp only [Md.binI] at h
  split at h
  · rename_i c
    cases h
    refine ⟨?_, rfl⟩
    unfold CPow
    unfold Md.big at c
    omega
  · cases h⟩
theorem ar_shl : ArI X .LShift .shl := ⟨_, _, op_shl, fun i j z h => by
  simp only [Md.binI] at h
  split at h
  · rename_i c
    cases h
    refine ⟨?_, rfl⟩
    unfold CPow
    unfold Md.big at c
    omega
  · cases h⟩
theorem capLine {n : Nat} (h : n ≤ Md.cap) : n ≤ sizeLine := by
  have := sizeLine_eq
  unfold Md.cap at h
  omega
theorem capLt {n : Nat} (h : n < Md.cap) : n < sizeLine := by
  have := sizeLine_eq
  unfold Md.cap at h
  omega
/-- a list that is read: by value, or an object of the store -/
theorem lstOf_ok {F : Fo} {μ : List Addr} {H : Hp} {s : Md.St} {d : Md.D} {v : V} {xs : List Md.D} (R : RS G.K F μ H s) (r : VR F μ H d v) (h : Md.lstOf s d = some xs) : ∃ a vs, v = .ref a ∧ Rd H a (.lst vs) ∧ VRs F μ H xs vs := by
  cases d with
  | lst ys =>
    simp only [Md.lstOf] at h
    cases h
    simp only [VR] at r
    obtain ⟨a, vs, e, hr, _, _, q⟩ := r
    exact ⟨a, vs, e, .inl hr, q⟩
  | ref n =>
    simp only [Md.lstOf] at h
    split at h
    · rename_i ys e
      cases h
      simp only [VR] at r
      obtain ⟨a, e1, e2⟩ := r
      obtain ⟨vs, e3, q⟩ := R.ob n _ a e e2
      exact ⟨a, vs, e1, .inl e3, q⟩
    · cases h
  | _ => simp [Md.lstOf] at h
theorem seqOf_ok {F : Fo} {μ : List Addr} {H : Hp} {s : Md.St} {d : Md.D} {v : V} {xs : List Md.D} (R : RS G.K F μ H s) (r : VR F μ H d v) (h : Md.seqOf s d = some xs) : ∃ a vs, v = .ref a ∧ (Rd H a (.lst vs) ∨ H a = some (.tup vs)) ∧ VRs F μ H xs vs := by
  cases d with
  | tup ys =>
    simp only [Md.seqOf] at h
    cases h
    simp only [VR] at r
    obtain ⟨a, vs, e, hr, q⟩ := r
    exact ⟨a, vs, e, .inr hr, q⟩
  | lst ys =>
    obtain ⟨a, vs, e, hr, q⟩ := lstOf_ok R r (show Md.lstOf s (.lst ys) = some xs from h)
    exact ⟨a, vs, e, .inl hr, q⟩
  | ref n =>
    obtain ⟨a, vs, e, hr, q⟩ := lstOf_ok R r (show Md.lstOf s (.ref n) = some xs from h)
    exact ⟨a, vs, e, .inl hr, q⟩
  | _ => simp [Md.seqOf, Md.lstOf] at h
end
end Sn
end
section
set_option maxRecDepth 100000
/-! Snd3: operators on sequences, comparisons, tests. -/
namespace Sn
open PySem PySem.Spec PyProof.Rows L2
section
variable {G : Gv} {N : List Str} {sc : Scope} {fn : Str → Bool} {X : Cx}
theorem rdM {pins : List (Addr × Obj)} {σ : L2.St} {H : Hp} {st : Shared} {l : Addr} {xs : List V} (I : Inv X pins σ H st) (h : Rd H l (.lst xs)) :
    xs.length ≤ sizeLine ∧ ∃ (its : List Value) (n : Nat), Vals xs its ∧ xs.length = its.length ∧ st.heap.get? l = some { cls := .type "list", data := .seq its.toArray n } := by
  obtain ⟨z, its, n, r, e⟩ := h.ok I.hok
  exact ⟨z, its, n, r, r.length, e⟩
/-- a list + a list -/
def rCatR : R2 := fun x y H Q => ∃ l b xs zs, x = .ref l ∧ y = .ref b ∧ Rd H l (.lst xs) ∧ Rd H b (.lst zs) ∧ xs.length + zs.length ≤ sizeLine ∧ ∀ p, H p = none → Q (.ref p) (upd H p (.lst (xs ++ zs)))
theorem op_catR : OpR X (binaryOp .Add) rCatR := by
  intro pins s σ H x y v u Q I rx ry h
  obtain ⟨l, b, xs, zs, rfl, rfl, hH, hB, hz, q⟩ := h
  cases rx
  cases ry
  obtain ⟨z, its, n, r, hl, e⟩ := rdM I hH
  obtain ⟨z2, its2, n2, r2, hl2, e2⟩ := rdM I hB
  refine PySem.P.add_list e e2 ?_ (by rw [List.size_toArray, List.size_toArray]; omega)
  have ea : its.toArray ++ its2.toArray = (its ++ its2).toArray := by simp
  rw [ea]
  exact ⟨.ref _, _, I.lnew (t' := s.toks) (r.append r2) (by rw [List.length_append]; omega), rfl, q _ I.fresh⟩
def rRepR : R2 := fun x y H Q => ∃ l k xs, x = .ref l ∧ y = .int k ∧ Rd H l (.lst xs) ∧ -(2 ^ 63) ≤ k ∧ k < 2 ^ 63 ∧ xs.length * k.toNat ≤ sizeLine ∧
  ∀ p, H p = none → Q (.ref p) (upd H p (.lst (List.replicate k.toNat xs).flatten))
theorem op_repR : OpR X (binaryOp .Mult) rRepR := by
  intro pins s σ H x y v u Q I rx ry h
  obtain ⟨l, k, xs, rfl, rfl, hH, h1, h2, hz, q⟩ := h
  cases rx
  obtain ⟨t, rfl⟩ := ry
  obtain ⟨z, its, n, r, hl, e⟩ := rdM I hH
  have hlen : its.toArray.size * k.toNat ≤ sizeLine := by rw [List.size_toArray, ← hl]; exact hz
  have hcap : ¬ its.toArray.size * k.toNat > (2 ^ 63 - 1) / 8 := by
    have : (sizeLine : Nat) ≤ (2 ^ 63 - 1) / 8 := by decide
    omega
  have hfit : ¬ (!Builtin.List.listFitsIndex k) = true := by
    rw [fitsIndex_both h1 h2]
    exact Bool.false_ne_true
  have hlong : ¬ Builtin.List.listTooLong (its.toArray.size * k.toNat) = true := by
    rw [notLongL hlen]
    exact Bool.false_ne_true
  have hnew : List.foldl (fun x1 x2 => x1 ++ x2) #[] (List.replicate (if its.toArray.isEmpty = true then 0 else k.toNat) its.toArray) = (List.replicate k.toNat its).flatten.toArray := by
    have f0 : ∀ m : Nat, List.foldl (fun x1 x2 => x1 ++ x2) #[] (List.replicate m its.toArray) = (List.replicate m its).flatten.toArray := fun m => by
      have := foldl_rep its m []
      rw [List.nil_append] at this
      exact this
    rw [f0]
    cases its with
    | nil => simp
    | cons a r' => rw [if_neg (by simp)]
  refine wpAny_binaryOp_repeat_ref (T := "list") (U := "int") (by decide) ⟨_, e, rfl⟩ (fun s' => typeIs_int s' k t) noFill_list_mul F.fills_int_mul F.slot_int_rmul repeat_list F.slot_int_index.lookup
    (call_meets F.slot_int_rmul (typeIs_int s k t) F.entry_int_rmul (F.args_int_rmul_2 _ _) (int___rmul___int_list k t l its.toArray n)
      ⟨e, rfl, ⟨_, e, rfl⟩, call_meets F.slot_list_mul ⟨_, e, rfl⟩ F.entry_list_mul (F.args_list_mul_2 _ _) (AutoListH.list___mul___list_int_3 l its.toArray n k t hfit hcap hlong) ⟨e, ?_⟩⟩)
  rw [hnew]
  exact ⟨.ref _, _, I.lnew (t' := s.toks) (r.rep k.toNat) (by rw [PyProof.Rows.lm_len_rep_flat, Nat.mul_comm]; exact hz), rfl, q _ I.fresh⟩
theorem VRs.rep {F : Fo} {μ : List Addr} {H : Hp} {ds : List Md.D} {vs : List V} (r : VRs F μ H ds vs) : ∀ n : Nat, VRs F μ H (List.replicate n ds).flatten (List.replicate n vs).flatten
  | 0 => by simp [VRs]
  | n + 1 => by
    rw [List.replicate_succ, List.replicate_succ, List.flatten_cons, List.flatten_cons]
    exact r.append (VRs.rep r n)
/-- which operator stands for which -/
inductive OpOf : Operator → Md.Bo → Prop
  | add : OpOf .Add .add | sub : OpOf .Sub .sub | mul : OpOf .Mult .mul | mod : OpOf .Mod .mod | fdiv : OpOf .FloorDiv .fdiv | pow : OpOf .Pow .pow | shl : OpOf .LShift .shl
theorem arI {op : Operator} {o : Md.Bo} (h : OpOf op o) : ArI X op o := by
  cases h
  · exact ar_add
  · exact ar_sub
  · exact ar_mul
  · exact ar_mod
  · exact ar_fdiv
  · exact ar_pow
  · exact ar_shl
theorem tup_at {F : Fo} {μ : List Addr} {H : Hp} {ds : List Md.D} {v : V} (r : VR F μ H (.tup ds) v) : ∃ a vs, v = .ref a ∧ H a = some (.tup vs) ∧ VRs F μ H ds vs := by
  simp only [VR] at r; exact r
theorem tup_of {F : Fo} {μ : List Addr} {H : Hp} {ds : List Md.D} {a : Addr} {vs : List V} (h : H a = some (.tup vs)) (r : VRs F μ H ds vs) : VR F μ H (.tup ds) (.ref a) := by
  simp only [VR]; exact ⟨a, vs, rfl, h, r⟩
theorem VRs.nil_iff {F : Fo} {μ : List Addr} {H : Hp} {ds : List Md.D} {vs : List V} (r : VRs F μ H ds vs) : vs = [] ↔ ds = [] := by
  have := r.len
  constructor
  · intro e; rw [e] at this; exact List.length_eq_zero_iff.mp (by simpa using this)
  · intro e; rw [e] at this; exact List.length_eq_zero_iff.mp (by simpa using this.symm)
/-- list + list, list * int by values -/
theorem bin_ll {op : Operator} {o : Md.Bo} {m : Bool} (ho : OpOf op o) {F : Fo} {μ : List Addr} {pins : List (Addr × Obj)} {st : Shared} {σ : L2.St} {H : Hp} {x y : V} {v u : Value} {Q : VK} {dx dy d : Md.D} {s s' : Md.St}
    (I : Inv X pins σ H st) (rx : RelV x v) (ry : RelV y u) (R : RS G.K F μ H s) (hx : VR F μ H dx x) (hy : VR F μ H dy y) (k : KE G F μ H d s' Q)
    (h : Md.binLL o m (Md.lstOf s dx) (Md.lstOf s dy) s = some (d, s')) : wpAny (model X.prog X.w) X.A (binaryOp op v u) (EP X pins σ Q) X.xe st := by
  unfold Md.binLL at h
  split at h
  · rename_i a b e1 e2
    split at h
    · rename_i hc
      cases ho
      obtain ⟨l1, v1, rfl, hr1, q1⟩ := lstOf_ok R hx e1
      obtain ⟨l2, v2, rfl, hr2, q2⟩ := lstOf_ok R hy e2
      have e : Md.mk m (a ++ b) s = (d, s') := Option.some.inj h
      have hd : (Md.mk m (a ++ b) s).1 = d := by rw [e]
      have hs : (Md.mk m (a ++ b) s).2 = s' := by rw [e]
      subst hd hs
      refine op_catR pins st σ H _ _ v u Q I rx ry ⟨l1, l2, v1, v2, rfl, rfl, hr1, hr2, ?_, fun p hp => ?_⟩
      · rw [← q1.len, ← q2.len]; exact capLine hc
      · exact k.mk R (q1.append q2) hp
    · cases h
  · cases h
theorem bin_lk {op : Operator} {o : Md.Bo} {m : Bool} (ho : OpOf op o) {F : Fo} {μ : List Addr} {pins : List (Addr × Obj)} {st : Shared} {σ : L2.St} {H : Hp} {x y : V} {v u : Value} {Q : VK} {dx d : Md.D} {n : Int} {s s' : Md.St}
    (I : Inv X pins σ H st) (rx : RelV x v) (ry : RelV y u) (R : RS G.K F μ H s) (hx : VR F μ H dx x) (hy : VR F μ H (.int n) y) (k : KE G F μ H d s' Q)
    (h : Md.binLK o m (Md.lstOf s dx) n s = some (d, s')) : wpAny (model X.prog X.w) X.A (binaryOp op v u) (EP X pins σ Q) X.xe st := by
  unfold Md.binLK at h
  split at h
  · rename_i a e1
    split at h
    · rename_i hc
      cases ho
      obtain ⟨l1, v1, rfl, hr1, q1⟩ := lstOf_ok R hx e1
      have e : Md.mk m (List.replicate n.toNat a).flatten s = (d, s') := Option.some.inj h
      have hd : (Md.mk m (List.replicate n.toNat a).flatten s).1 = d := by rw [e]
      have hs : (Md.mk m (List.replicate n.toNat a).flatten s).2 = s' := by rw [e]
      subst hd hs
      simp only [VR] at hy
      refine op_repR pins st σ H _ _ v u Q I rx ry ⟨l1, n, v1, rfl, hy, hr1, by omega, by omega, ?_, fun p hp => ?_⟩
      · rw [← q1.len]; exact capLine hc.2.2
      · exact k.mk R (q1.rep n.toNat) hp
    · cases h
  · cases h
theorem op_bin {op : Operator} {o : Md.Bo} {m : Bool} (ho : OpOf op o) : OpR X (binaryOp op) (r2D G (Md.binop o m)) := by
  intro pins st σ H x y v u Q I rx ry ⟨F, μ, s, dx, dy, d, s', R, hx, hy, h, k⟩
  unfold Md.binop at h
  split at h
  · obtain ⟨C, g, h1, h2⟩ := (arI (X := X) ho).ok
    exact opI_ok h1 h2 I rx ry R hx hy h k
  · rename_i a b
    cases ho <;> simp only [Md.binTT, reduceCtorEq] at h
    split at h
    · rename_i hc
      cases h
      obtain ⟨l1, v1, rfl, hr1, q1⟩ := tup_at hx
      obtain ⟨l2, v2, rfl, hr2, q2⟩ := tup_at hy
      refine op_catA pins st σ H _ _ v u Q I rx ry ⟨l1, l2, v1, v2, rfl, rfl, .of hr1, .of hr2, ?_, fun e => ?_, fun e1 e2 => ?_, fun e1 e2 p hp => ?_⟩
      · rw [← q1.len, ← q2.len]; exact capLine hc
      · refine k.now R ?_
        rw [q1.nil_iff.mp e, List.nil_append]
        exact hy
      · refine k.now R ?_
        rw [q2.nil_iff.mp e2, List.append_nil]
        exact hx
      · exact k.tup R (q1.append q2) hp
    · cases h
  · rename_i a b
    cases ho <;> simp only [Md.binSS, reduceCtorEq] at h
    split at h
    · rename_i hc
      cases h
      simp only [VR] at hx hy
      exact op_add_str pins st σ H _ _ v u Q I rx ry ⟨a, b, hx, hy, capLine hc, k.now R (by simp only [VR])⟩
    · cases h
  · exact bin_lk ho I rx ry R hx hy k h
  · exact bin_ll ho I rx ry R hx hy k h
end
end Sn
end
section
set_option maxRecDepth 100000
/-! Snd4: comparisons. -/
namespace Sn
open PySem PySem.Spec PyProof.Rows L2
/-! ### as plain data -/
mutual
theorem py_lay : ∀ (n : Nat) (d : Md.D), Md.eqOk n d = true → (toPy d).canLay0 = true ∧ (toPy d).depth ≤ n
  | n, .non, _ => ⟨by simp [toPy, PyData.canLay0], by simp [toPy, PyData.depth]⟩
  | n, .bl b, _ => ⟨by simp [toPy, PyData.canLay0], by simp [toPy, PyData.depth]⟩
  | n, .int i, _ => ⟨by simp [toPy, PyData.canLay0], by simp [toPy, PyData.depth]⟩
  | n, .str x, h => by
    simp only [Md.eqOk] at h
    refine ⟨?_, by simp [toPy, PyData.depth]⟩
    simp only [toPy, PyData.canLay0, PyData.strOk]
    unfold Md.asc at h
    rw [Array.all_eq_true] at h ⊢
    intro i hi
    have h1 := of_decide_eq_true (h i hi)
    exact decide_eq_true (by omega)
  | 0, .tup ds, h => by simp [Md.eqOk] at h
  | n + 1, .tup ds, h => by
    simp only [Md.eqOk] at h
    obtain ⟨h1, h2⟩ := pys_lay n ds h
    exact ⟨by simp only [toPy, PyData.canLay0]; exact h1, by simp only [toPy, PyData.depth]; omega⟩
  | 0, .lst ds, h => by simp [Md.eqOk] at h
  | n + 1, .lst ds, h => by
    simp only [Md.eqOk] at h
    obtain ⟨h1, h2⟩ := pys_lay n ds h
    exact ⟨by simp only [toPy, PyData.canLay0]; exact h1, by simp only [toPy, PyData.depth]; omega⟩
  | n, .ref m, h => by simp [Md.eqOk] at h
  | n, .scr m, h => by simp [Md.eqOk] at h
theorem pys_lay : ∀ (n : Nat) (ds : List Md.D), Md.eqOks n ds = true → PyData.canLayAll0 (toPys ds) = true ∧ PyData.depthAll (toPys ds) ≤ n
  | n, [], _ => ⟨by simp [toPys, PyData.canLayAll0], by simp [toPys, PyData.depthAll]⟩
  | n, d :: ds, h => by
    simp only [Md.eqOks, Bool.and_eq_true] at h
    obtain ⟨h1, h2⟩ := py_lay n d h.1
    obtain ⟨h3, h4⟩ := pys_lay n ds h.2
    exact ⟨by simp only [toPys, PyData.canLayAll0, h1, h3, Bool.and_self], by simp only [toPys, PyData.depthAll]; omega⟩
end
theorem py_shaped {d : Md.D} (h : Md.eqOk 60 d = true) : SeqAt.shaped (toPy d) = true := by
  obtain ⟨h1, h2⟩ := py_lay 60 d h
  show ((toPy d).canLay0 && decide ((toPy d).depth ≤ 64)) = true
  rw [h1, Bool.true_and]
  exact decide_eq_true (by omega)
mutual
theorem py_eqv : ∀ (n : Nat) (d e : Md.D), Md.eqOk n d = true → Md.eqOk n e = true → PyData.eqv (toPy d) (toPy e) = Md.eqD d e
  | n, .non, e, _, h => by cases e <;> simp_all [toPy, PyData.eqv, Md.eqD, Md.eqOk]
  | n, .bl b, e, h, _ => by simp [Md.eqOk] at h
  | n, .int i, e, _, h => by cases e <;> simp_all [toPy, PyData.eqv, Md.eqD, Md.eqOk]
  | n, .str i, e, _, h => by cases e <;> simp_all [toPy, PyData.eqv, Md.eqD, Md.eqOk]
  | 0, .tup ds, e, h, _ => by simp [Md.eqOk] at h
  | n + 1, .tup ds, e, h, g => by
    cases e with
    | tup es =>
      simp only [Md.eqOk] at h g
      simp only [toPy, PyData.eqv, Md.eqD]
      exact pys_eqv n ds es h g
    | _ => first | (simp [Md.eqOk] at g; done) | simp [toPy, PyData.eqv, Md.eqD]
  | 0, .lst ds, e, h, _ => by simp [Md.eqOk] at h
  | n + 1, .lst ds, e, h, g => by
    cases e with
    | lst es =>
      simp only [Md.eqOk] at h g
      simp only [toPy, PyData.eqv, Md.eqD]
      exact pys_eqv n ds es h g
    | _ => first | (simp [Md.eqOk] at g; done) | simp [toPy, PyData.eqv, Md.eqD]
  | n, .ref m, e, h, _ => by simp [Md.eqOk] at h
  | n, .scr m, e, h, _ => by simp [Md.eqOk] at h
theorem pys_eqv : ∀ (n : Nat) (d e : List Md.D), Md.eqOks n d = true → Md.eqOks n e = true → PyData.eqvAll (toPys d) (toPys e) = Md.eqDs d e
  | n, [], e, _, _ => by cases e <;> simp [toPys, PyData.eqvAll, Md.eqDs]
  | n, d :: ds, [], _, _ => by simp [toPys, PyData.eqvAll, Md.eqDs]
  | n, d :: ds, e :: es, h, g => by
    simp only [Md.eqOks, Bool.and_eq_true] at h g
    simp only [toPys, PyData.eqvAll, Md.eqDs, py_eqv n d e h.1 g.1, pys_eqv n ds es h.2 g.2]
end
theorem eqOk_mono : ∀ {n m : Nat} {d : Md.D}, n ≤ m → Md.eqOk n d = true → Md.eqOk m d = true := by
  have key : ∀ (d : Md.D), (∀ {n m : Nat}, n ≤ m → Md.eqOk n d = true → Md.eqOk m d = true) := by
    intro d
    induction d using Md.D.rec (motive_2 := fun ds => ∀ {n m : Nat}, n ≤ m → Md.eqOks n ds = true → Md.eqOks m ds = true) with
    | non => intros; simp [Md.eqOk]
    | bl b => intro n m _ h; simp [Md.eqOk] at h
    | int i => intros; simp [Md.eqOk]
    | str x => intro n m _ h; simpa [Md.eqOk] using h
    | tup xs ih =>
      intro n m hn h
      cases n with
      | zero => simp [Md.eqOk] at h
      | succ n =>
        cases m with
        | zero => omega
        | succ m => simp only [Md.eqOk] at h ⊢; exact ih (by omega) h
    | lst xs ih =>
      intro n m hn h
      cases n with
      | zero => simp [Md.eqOk] at h
      | succ n =>
        cases m with
        | zero => omega
        | succ m => simp only [Md.eqOk] at h ⊢; exact ih (by omega) h
    | ref k => intro n m _ h; simp [Md.eqOk] at h
    | scr k => intro n m _ h; simp [Md.eqOk] at h
    | nil => rw [Md.eqOks]
    | cons x xs ih1 ih2 =>
      simp only [Md.eqOks, Bool.and_eq_true] at *
      rename_i hn h
      exact ⟨ih1 hn h.1, ih2 hn h.2⟩
  intro n m d h1 h2
  exact key d h1 h2
section
variable {K : PySem.W.Frag} {F : Fo} {μ : List Addr} {H : Hp}
mutual
theorem VR.dp : ∀ (n : Nat) {d : Md.D} {v : V}, Md.eqOk n d = true → VR F μ H d v → Dp K H v (toPy d)
  | n, .non, v, _, h => by simp only [VR] at h; rw [h]; simp only [toPy]; exact .non
  | n, .bl b, v, _, h => by simp only [VR] at h; rw [h]; simp only [toPy]; exact .bl b
  | n, .int b, v, _, h => by simp only [VR] at h; rw [h]; simp only [toPy]; exact .int b
  | n, .str b, v, _, h => by simp only [VR] at h; rw [h]; simp only [toPy]; exact .str b
  | 0, .tup ds, v, h, _ => by simp [Md.eqOk] at h
  | n + 1, .tup ds, v, h, g => by
    simp only [VR] at g
    obtain ⟨a, vs, rfl, h1, h2⟩ := g
    simp only [Md.eqOk] at h
    simp only [toPy]
    exact .tup (.of h1) (VRs.dp n h h2)
  | 0, .lst ds, v, h, _ => by simp [Md.eqOk] at h
  | n + 1, .lst ds, v, h, g => by
    simp only [VR] at g
    obtain ⟨a, vs, rfl, h1, _, _, h2⟩ := g
    simp only [Md.eqOk] at h
    simp only [toPy]
    exact .lst (.of h1) (VRs.dp n h h2)
  | n, .ref m, v, h, _ => by simp [Md.eqOk] at h
  | n, .scr m, v, h, _ => by simp [Md.eqOk] at h
theorem VRs.dp : ∀ (n : Nat) {ds : List Md.D} {vs : List V}, Md.eqOks n ds = true → VRs F μ H ds vs → DpAll K H vs (toPys ds)
  | n, [], vs, _, h => by simp only [VRs] at h; rw [h]; simp only [toPys]; exact .nil
  | n, d :: ds, vs, h, g => by
    simp only [VRs] at g
    obtain ⟨v, r, rfl, h1, h2⟩ := g
    simp only [Md.eqOks, Bool.and_eq_true] at h
    simp only [toPys]
    exact .cons (VR.dp n h.1 h1) (VRs.dp n h.2 h2)
end
end
theorem any_eqv {x : Md.D} (hx : Md.eqOk 60 x = true) : ∀ {ys : List Md.D}, Md.eqOks 59 ys = true → ((toPys ys).any fun z => PyData.eqv z (toPy x)) = ys.any fun z => Md.eqD z x
  | [], _ => by simp [toPys]
  | y :: ys, h => by
    simp only [Md.eqOks, Bool.and_eq_true] at h
    simp only [toPys, List.any_cons]
    rw [py_eqv 60 y x (eqOk_mono (by omega) h.1) hx, any_eqv hx h.2]
inductive CmpOf : CmpOp → Md.Co → Prop
  | eq : CmpOf .Eq .eq | ne : CmpOf .NotEq .ne | lt : CmpOf .Lt .lt | le : CmpOf .LtE .le | gt : CmpOf .Gt .gt | ge : CmpOf .GtE .ge
  | isIn : CmpOf .In .isIn | notIn : CmpOf .NotIn .notIn | is : CmpOf .Is .is | isNot : CmpOf .IsNot .isNot
def fCmp (o : Md.Co) : Md.D → Md.D → Md.St → Option (Md.D × Md.St) := fun x y s => (Md.cmpD o s x y).map fun r => (.bl r, s)
/-- an operation that gives a truth value and changes nothing -/
def rBl (G : Gv) (f : Md.D → Md.D → Md.St → Option Bool) : R2 := fun x y H Q => ∃ F μ s dx dy b, RS G.K F μ H s ∧ VR F μ H dx x ∧ VR F μ H dy y ∧ f dx dy s = some b ∧ Q (.bl b) H
section
variable {G : Gv} {N : List Str} {sc : Scope} {fn : Str → Bool} {X : Cx}
theorem rBl_r2D {op : CmpOp} {o : Md.Co} (h : OpR X (compareOp op) (rBl G fun x y s => Md.cmpD o s x y)) : OpR X (compareOp op) (r2D G (fCmp o)) := by
  intro pins st σ H x y v u Q I rx ry ⟨F, μ, s, dx, dy, d, s', R, hx, hy, e, k⟩
  simp only [fCmp, Option.map_eq_some_iff] at e
  obtain ⟨b, e1, e2⟩ := e
  cases e2
  exact h pins st σ H x y v u Q I rx ry ⟨F, μ, s, dx, dy, b, R, hx, hy, e1, k.now R (by simp only [VR])⟩
theorem cmp_eq (C : XC G N sc fn X) : OpR X (compareOp .Eq) (rBl G fun x y _ => Md.eqvD x y) := by
  intro pins st σ H x y v u Q I rx ry ⟨F, μ, s, dx, dy, b, R, hx, hy, e, q⟩
  have e : Md.eqvD dx dy = some b := e
  unfold Md.eqvD at e
  split at e
  · cases e
    simp only [VR] at hx hy
    subst hx hy
    refine op_eq pins st σ H _ _ v u Q I rx ry ⟨rfl, ?_⟩
    rw [dec_bl]; exact q
  · split at e
    · rename_i hc
      cases e
      rw [Bool.and_eq_true] at hc
      refine op_eqD C.un64 pins st σ H x y v u Q I rx ry ⟨_, _, hx.dp 60 hc.1, hy.dp 60 hc.2, py_shaped hc.1, py_shaped hc.2, ?_⟩
      rw [py_eqv 60 _ _ hc.1 hc.2]; exact q
    · cases e
theorem cmp_ne (C : XC G N sc fn X) : OpR X (compareOp .NotEq) (rBl G fun x y _ => (Md.eqvD x y).map (!·)) := by
  intro pins st σ H x y v u Q I rx ry ⟨F, μ, s, dx, dy, b, R, hx, hy, e, q⟩
  simp only [Option.map_eq_some_iff] at e
  obtain ⟨b', e, e2⟩ := e
  subst e2
  unfold Md.eqvD at e
  split at e
  · cases e
    simp only [VR] at hx hy
    subst hx hy
    refine op_ne pins st σ H _ _ v u Q I rx ry ⟨rfl, ?_⟩
    rw [dec_bl]; exact q
  · split at e
    · rename_i hc
      cases e
      rw [Bool.and_eq_true] at hc
      refine op_neD C.un64 pins st σ H x y v u Q I rx ry ⟨_, _, hx.dp 60 hc.1, hy.dp 60 hc.2, py_shaped hc.1, py_shaped hc.2, ?_⟩
      rw [py_eqv 60 _ _ hc.1 hc.2]; exact q
    · cases e
theorem keyK_ok {F : Fo} {μ : List Addr} {H : Hp} {d : Md.D} {v : V} {q : Md.KK} (r : VR F μ H d v) (h : Md.keyK d = some q) : v = kV q := by
  cases d <;> simp [Md.keyK] at h
  · subst h; simp only [VR] at r; exact r
  · subst h; simp only [VR] at r; exact r
theorem keysK_ok {F : Fo} {μ : List Addr} {H : Hp} : ∀ {ds : List Md.D} {vs : List V} {q : List Md.KK}, VRs F μ H ds vs → Md.keysK ds = some q → vs = q.map kV
  | [], vs, q, r, h => by simp [Md.keysK] at h; subst h; simp only [VRs] at r; rw [r]; rfl
  | d :: ds, vs, q, r, h => by
    simp only [VRs] at r
    obtain ⟨v, t, rfl, h1, h2⟩ := r
    simp only [Md.keysK] at h
    split at h
    · rename_i k ks e1 e2
      cases h
      rw [keyK_ok h1 e1, keysK_ok h2 e2]; rfl
    · cases h
theorem keyT_ok {F : Fo} {μ : List Addr} {H : Hp} {d : Md.D} {v : V} {q : List Md.KK} (r : VR F μ H d v) (h : Md.keyT d = some q) : ∃ b, v = .ref b ∧ H b = some (.tup (q.map kV)) := by
  cases d <;> simp [Md.keyT] at h
  obtain ⟨a, vs, rfl, h1, h2⟩ := tup_at r
  exact ⟨a, rfl, by rw [h1, keysK_ok h2 h]⟩
theorem KR.find {κ : Type} [DecidableEq κ] {F : Fo} {μ : List Addr} {H : Hp} (q : κ) : ∀ {kvs : List (κ × Md.D)} {us : List (κ × V)}, KR F μ H kvs us →
    match Md.getK kvs q with
    | some d => ∃ v, valV us q = some v ∧ VR F μ H d v
    | none => valV us q = none
  | [], us, h => by simp only [KR] at h; rw [h]; rfl
  | (k, d) :: r, us, h => by
    simp only [KR] at h
    obtain ⟨v, t, rfl, h1, h2⟩ := h
    simp only [Md.getK]
    by_cases e : k = q
    · rw [if_pos e]
      exact ⟨v, valV_pos (p := (k, v)) e, h1⟩
    · rw [if_neg e, valV_neg (p := (k, v)) e]
      exact KR.find q h2
theorem KR.some? {κ : Type} [DecidableEq κ] {F : Fo} {μ : List Addr} {H : Hp} (q : κ) {kvs : List (κ × Md.D)} {us : List (κ × V)} (h : KR F μ H kvs us) : (valV us q).isSome = (Md.getK kvs q).isSome := by
  have := h.find q
  split at this
  · rename_i e; obtain ⟨v, e1, _⟩ := this; rw [e, e1]; rfl
  · rename_i e; rw [e, this]; rfl
/-- y in x, where y is a dict of the store -/
theorem memK {F : Fo} {μ : List Addr} {H : Hp} {s : Md.St} {n : Nat} {kvs : List (Md.KK × Md.D)} {q : Md.KK} {dx : Md.D} {x y : V} (R : RS G.K F μ H s) (hx : VR F μ H dx x) (hy : VR F μ H (.ref n) y) (e : s[n]? = some (.dk kvs)) (e2 : Md.keyK dx = some q) :
    ∃ a o, y = .ref a ∧ DGet H a x o ∧ o.isSome = (Md.getK kvs q).isSome := by
  simp only [VR] at hy
  obtain ⟨a, rfl, ha⟩ := hy
  obtain ⟨us, h1, h2⟩ := R.ob n _ a e ha
  rw [keyK_ok hx e2]
  exact ⟨a, _, rfl, DGet.k (k := q) h1, h2.some? q⟩
theorem memT {F : Fo} {μ : List Addr} {H : Hp} {s : Md.St} {n : Nat} {kvs : List (List Md.KK × Md.D)} {q : List Md.KK} {dx : Md.D} {x y : V} (R : RS G.K F μ H s) (hx : VR F μ H dx x) (hy : VR F μ H (.ref n) y) (e : s[n]? = some (.dt kvs)) (e2 : Md.keyT dx = some q) :
    ∃ a o, y = .ref a ∧ DGet H a x o ∧ o.isSome = (Md.getK kvs q).isSome := by
  simp only [VR] at hy
  obtain ⟨a, rfl, ha⟩ := hy
  obtain ⟨us, h1, h2⟩ := R.ob n _ a e ha
  obtain ⟨b, rfl, hb⟩ := keyT_ok hx e2
  exact ⟨a, _, rfl, DGet.t (k := q) h1 hb, h2.some? q⟩
theorem mem_ok (C : XC G N sc fn X) {op : CmpOp} {neg : Bool} (ho : (op = .In ∧ neg = false) ∨ (op = .NotIn ∧ neg = true)) {pins : List (Addr × Obj)} {st : Shared} {σ : L2.St} {H : Hp} {F : Fo} {μ : List Addr} {s : Md.St} {dx dy : Md.D} {x y : V} {v u : Value} {b : Bool} {Q : VK}
    (I : Inv X pins σ H st) (rx : RelV x v) (ry : RelV y u) (R : RS G.K F μ H s) (hx : VR F μ H dx x) (hy : VR F μ H dy y) (e : Md.memD s dx dy = some b) (q : Q (.bl (if neg then !b else b)) H) : wpAny (model X.prog X.w) X.A (compareOp op v u) (EP X pins σ Q) X.xe st := by
  have lst : ∀ {a : Addr} {ys : List Md.D} {vs : List V}, y = .ref a → Rd H a (.lst vs) → VRs F μ H ys vs → (if (Md.eqOk 60 dx && Md.eqOks 59 ys) = true then some (ys.any fun z => Md.eqD z dx) else none) = some b →
      wpAny (model X.prog X.w) X.A (compareOp op v u) (EP X pins σ Q) X.xe st := by
    intro a ys vs ey hr hv e
    split at e
    · rename_i hc
      rw [Bool.and_eq_true] at hc
      cases e
      have hl : Dp X.K H y (.list (toPys ys)) := by rw [ey]; exact .lst (.inl hr) (hv.dp 59 hc.2)
      have hs := pys_lay 59 ys hc.2
      have se : SeqAt.shaped (.list (toPys ys)) = true := by
        show (PyData.canLay0 (.list (toPys ys)) && decide (PyData.depth (.list (toPys ys)) ≤ 64)) = true
        rw [Bool.and_eq_true]
        exact ⟨by simp only [PyData.canLay0]; exact hs.1, decide_eq_true (by simp only [PyData.depth]; omega)⟩
      rcases ho with ⟨rfl, rfl⟩ | ⟨rfl, rfl⟩
      · refine op_inD C.un65 pins st σ H x y v u Q I rx ry ⟨_, _, hx.dp 60 hc.1, hl, py_shaped hc.1, se, ?_⟩
        rw [any_eqv hc.1 hc.2]; exact q
      · refine op_notInD C.un65 pins st σ H x y v u Q I rx ry ⟨_, _, hx.dp 60 hc.1, hl, py_shaped hc.1, se, ?_⟩
        rw [any_eqv hc.1 hc.2]; exact q
    · cases e
  unfold Md.memD at e
  cases dy with
  | ref n =>
    simp only at e
    split at e
    · rename_i kvs e1
      simp only [Option.map_eq_some_iff] at e
      obtain ⟨k, e2, e3⟩ := e
      obtain ⟨a, o, rfl, g, e4⟩ := memK R hx hy e1 e2
      cases (show u = Value.ref a from ry)
      rw [← e3, ← e4] at q
      rcases ho with ⟨rfl, rfl⟩ | ⟨rfl, rfl⟩
      · exact d_in C.un1 I g rx fun s' I' => ⟨.bl _, H, I', rfl, q⟩
      · exact d_notIn C.un1 I g rx fun s' I' => ⟨.bl _, H, I', rfl, q⟩
    · rename_i kvs e1
      simp only [Option.map_eq_some_iff] at e
      obtain ⟨k, e2, e3⟩ := e
      obtain ⟨a, o, rfl, g, e4⟩ := memT R hx hy e1 e2
      cases (show u = Value.ref a from ry)
      rw [← e3, ← e4] at q
      rcases ho with ⟨rfl, rfl⟩ | ⟨rfl, rfl⟩
      · exact d_in C.un1 I g rx fun s' I' => ⟨.bl _, H, I', rfl, q⟩
      · exact d_notIn C.un1 I g rx fun s' I' => ⟨.bl _, H, I', rfl, q⟩
    · rename_i ys e1
      simp only [VR] at hy
      obtain ⟨a, e2, e3⟩ := hy
      obtain ⟨vs, h1, h2⟩ := R.ob n _ a e1 e3
      exact lst e2 (.inl h1) h2 e
    · cases e
  | lst ys =>
    simp only [VR] at hy
    obtain ⟨a, vs, e2, h1, _, _, h2⟩ := hy
    exact lst e2 (.inl h1) h2 e
  | tup ys =>
    obtain ⟨a, vs, rfl, h1, h2⟩ := tup_at hy
    simp only at e
    split at e
    · rename_i hc
      rw [Bool.and_eq_true] at hc
      cases e
      have hl : Dp X.K H (.ref a) (.tuple (toPys ys)) := .tup (.of h1) (h2.dp 59 hc.2)
      have hs := pys_lay 59 ys hc.2
      obtain ⟨as, r1⟩ := Dp.reads I _ x v (hx.dp 60 hc.1) rx
      obtain ⟨bs, r2⟩ := Dp.reads I _ _ u hl ry
      rcases ho with ⟨rfl, rfl⟩ | ⟨rfl, rfl⟩
      · refine SeqAt.in_tuple_reads r2 r1 hs.1 (py_lay 60 _ hc.1).1 (room_in_shaped (py_shaped hc.1) C.un65) ⟨.bl _, H, I, rfl, ?_⟩
        rw [any_eqv hc.1 hc.2]; exact q
      · refine SeqAt.notIn_tuple_reads r2 r1 hs.1 (py_lay 60 _ hc.1).1 (room_in_shaped (py_shaped hc.1) C.un65) ⟨.bl _, H, I, rfl, ?_⟩
        rw [any_eqv hc.1 hc.2]; exact q
    · cases e
  | _ => simp at e
end
end Sn
end
section
set_option maxRecDepth 100000
/-! Snd5: comparisons, tests, and, or, displays, items, slices, fields. -/
namespace Sn
open PySem PySem.Spec PyProof.Rows L2
theorem hom0 : ∀ {xs : List Md.D}, xs.all (Md.homD 0) = true → ∃ ns : List Int, xs = ns.map .int
  | [], _ => ⟨[], rfl⟩
  | x :: xs, h => by
    rw [List.all_cons, Bool.and_eq_true] at h
    obtain ⟨ns, e⟩ := hom0 h.2
    cases x <;> simp [Md.homD] at h
    rename_i i
    exact ⟨i :: ns, by rw [e]; rfl⟩
theorem hom1 {d : Md.D} (h : Md.homD 1 d = true) : ∃ ns : List Int, d = .tup (ns.map .int) := by
  cases d <;> simp only [Md.homD, Bool.false_eq_true] at h
  obtain ⟨ns, rfl⟩ := hom0 h
  exact ⟨ns, rfl⟩
theorem ltDs_ints : ∀ ns ms : List Int, Md.ltDs (ns.map .int) (ms.map .int) = some (HT.lexLt ns ms)
  | [], [] => rfl
  | [], m :: ms => rfl
  | n :: ns, [] => rfl
  | n :: ns, m :: ms => by
    simp only [List.map_cons, Md.ltDs, Md.eqD, HT.lexLt, Md.ltD]
    by_cases e : n = m
    · subst e; simp [ltDs_ints ns ms]
    · simp [e]
section
variable {G : Gv} {N : List Str} {sc : Scope} {fn : Str → Bool} {X : Cx}
theorem cmp_ord (C : XC G N sc fn X) {op : CmpOp} {o : Md.Co} (p : Int → Int → Bool) (hi : OpR X (compareOp op) (rI0 fun i j => .bl (p i j))) (ho : ∀ s dx dy b, Md.cmpD o s dx dy = some b → ∃ i j, dx = .int i ∧ dy = .int j ∧ b = p i j) : OpR X (compareOp op) (rBl G fun x y s => Md.cmpD o s x y) := by
  intro pins st σ H x y v u Q I rx ry ⟨F, μ, s, dx, dy, b, R, hx, hy, e, q⟩
  obtain ⟨i, j, rfl, rfl, rfl⟩ := ho _ _ _ _ e
  simp only [VR] at hx hy
  exact hi pins st σ H x y v u Q I rx ry ⟨i, j, hx, hy, q⟩
theorem op_cmp (C : XC G N sc fn X) {op : CmpOp} {o : Md.Co} (ho : CmpOf op o) : OpR X (compareOp op) (r2D G (fCmp o)) := by
  refine rBl_r2D ?_
  cases ho with
  | eq => exact cmp_eq C
  | ne => exact cmp_ne C
  | lt =>
    intro pins st σ H x y v u Q I rx ry ⟨F, μ, s, dx, dy, b, R, hx, hy, e, q⟩
    simp only [Md.cmpD] at e
    split at e
    · cases e
      simp only [VR] at hx hy
      exact op_lt pins st σ H x y v u Q I rx ry ⟨_, _, hx, hy, q⟩
    · split at e
      · rename_i hc
        rw [Bool.and_eq_true] at hc
        obtain ⟨ns, rfl⟩ := hom1 hc.1
        obtain ⟨ms, rfl⟩ := hom1 hc.2
        simp only [Md.ltD] at e
        rw [ltDs_ints] at e
        cases e
        obtain ⟨a, vs, rfl, h1, h2⟩ := tup_at hx
        obtain ⟨a2, vs2, rfl, h3, h4⟩ := tup_at hy
        rw [h2.ints] at h1
        rw [h4.ints] at h3
        exact op_ltT C.un0 pins st σ H _ _ v u Q I rx ry ⟨a, a2, ns, ms, rfl, rfl, .of h1, .of h3, q⟩
      · cases e
  | le =>
    refine cmp_ord C (fun i j => decide (i ≤ j)) op_le fun s dx dy b e => ?_
    simp only [Md.cmpD] at e
    split at e
    · cases e; exact ⟨_, _, rfl, rfl, rfl⟩
    · cases e
  | gt =>
    refine cmp_ord C (fun i j => decide (j < i)) op_gt fun s dx dy b e => ?_
    simp only [Md.cmpD] at e
    split at e
    · cases e; exact ⟨_, _, rfl, rfl, rfl⟩
    · cases e
  | ge =>
    refine cmp_ord C (fun i j => decide (j ≤ i)) op_ge fun s dx dy b e => ?_
    simp only [Md.cmpD] at e
    split at e
    · cases e; exact ⟨_, _, rfl, rfl, rfl⟩
    · cases e
  | isIn =>
    intro pins st σ H x y v u Q I rx ry ⟨F, μ, s, dx, dy, b, R, hx, hy, e, q⟩
    exact mem_ok C (neg := false) (.inl ⟨rfl, rfl⟩) I rx ry R hx hy e q
  | notIn =>
    intro pins st σ H x y v u Q I rx ry ⟨F, μ, s, dx, dy, b, R, hx, hy, e, q⟩
    simp only [Md.cmpD, Option.map_eq_some_iff] at e
    obtain ⟨b', e1, e2⟩ := e
    exact mem_ok C (neg := true) (.inr ⟨rfl, rfl⟩) I rx ry R hx hy e1 (by rw [if_pos rfl, e2]; exact q)
  | is =>
    intro pins st σ H x y v u Q I rx ry ⟨F, μ, s, dx, dy, b, R, hx, hy, e, q⟩
    simp only [Md.cmpD] at e
    unfold Md.isD at e
    split at e
    · cases e
      simp only [VR] at hy
      refine op_isN pins st σ H x y v u Q I rx ry ⟨hy, ?_⟩
      have : decide (x = .non) = Md.eqD dx .non := by
        cases dx <;> simp only [VR] at hx <;> first
          | (subst hx; simp [Md.eqD]; done)
          | (obtain ⟨a, vs, rfl, _⟩ := hx; simp [Md.eqD]; done)
          | (obtain ⟨a, rfl, _⟩ := hx; simp [Md.eqD])
      rw [this]; exact q
    · split at e
      · cases e
        simp only [VR] at hx hy
        refine op_isBl pins st σ H x y v u Q I rx ry ⟨_, _, hx, hy, ?_⟩
        rw [Bool.beq_eq_decide_eq] at q; exact q
      · cases e
    · cases e
  | isNot =>
    intro pins st σ H x y v u Q I rx ry ⟨F, μ, s, dx, dy, b, R, hx, hy, e, q⟩
    simp only [Md.cmpD, Option.map_eq_some_iff] at e
    obtain ⟨b', e, e2⟩ := e
    subst e2
    unfold Md.isD at e
    split at e
    · cases e
      simp only [VR] at hy
      refine op_notN pins st σ H x y v u Q I rx ry ⟨hy, ?_⟩
      have : decide (x = .non) = Md.eqD dx .non := by
        cases dx <;> simp only [VR] at hx <;> first
          | (subst hx; simp [Md.eqD]; done)
          | (obtain ⟨a, vs, rfl, _⟩ := hx; simp [Md.eqD]; done)
          | (obtain ⟨a, rfl, _⟩ := hx; simp [Md.eqD])
      rw [this]; exact q
    · split at e
      · cases e
        simp only [VR] at hx hy
        refine op_notBl pins st σ H x y v u Q I rx ry ⟨_, _, hx, hy, ?_⟩
        rw [Bool.beq_eq_decide_eq] at q; exact q
      · cases e
    · cases e
/-! ### comparisons as expressions and tests -/
theorem cmp_rd {ea eb : Md.E} {o : Md.Co} {σ : L2.St} {H : Hp} {Q : VK} (h : tE G (.cmp o ea eb) σ H Q) : tOp (r2D G (fCmp o)) (tE G ea) (tE G eb) σ H Q := by
  obtain ⟨F, μ, ρ, s, d, s', R, E, h, k⟩ := h
  simp only [Md.ev] at h
  obtain ⟨x, s1, h1, h⟩ := bnd_inv h
  obtain ⟨y, s2, h2, h⟩ := bnd_inv h
  refine ⟨F, μ, ρ, s, x, s1, R, E, h1, fun v1 H1 μ1 X1 R1 V1 => ⟨F, μ1, ρ, s1, y, s2, R1, E.mono X1, h2, fun v2 H2 μ2 X2 R2 V2 => ?_⟩⟩
  exact ⟨F, μ2, s2, x, y, d, s', R2, V1.mono X2, V2, h, k.from (X1.trans X2)⟩
theorem r_cmp (C : XC G N sc fn X) {op : CmpOp} {o : Md.Co} {a b : Expr} {ea eb : Md.E} {pos : Pos} (ho : CmpOf op o) (ha : PE X a (tE G ea)) (hb : PE X b (tE G eb)) (hm : behindInMarks op b = false) : PE X (.Compare a [op] [b] pos) (tE G (.cmp o ea eb)) :=
  (pe_cmpR (op_cmp C ho) ha hb hm).imp fun σ H Q h => cmp_rd h
/-- equality with the module's tuple -/
def rG (G : Gv) (n : Bool) (g : Md.D) (u : V) : R2 := fun x y H Q => ∃ F μ s dx, RS G.K F μ H s ∧ VR F μ H dx x ∧ y = u ∧ Md.eqOk 60 dx = true ∧ Q (.bl (Md.eqD dx g != n)) H
def opN (n : Bool) : CmpOp := if n then .NotEq else .Eq
theorem op_G (C : XC G N sc fn X) (n : Bool) {g : Md.D} {w : V} (hg : Md.eqOk 60 g = true) (hd : ∀ H, Dp G.K H w (toPy g)) : OpR X (compareOp (opN n)) (rG G n g w) := by
  intro pins st σ H x y v u Q I rx ry ⟨F, μ, s, dx, R, hx, e, hc, q⟩
  subst e
  have hK : Dp X.K H y (toPy g) := by rw [C.hK]; exact hd H
  cases n with
  | false =>
    refine op_eqD C.un64 pins st σ H x y v u Q I rx ry ⟨_, _, hx.dp 60 hc, hK, py_shaped hc, py_shaped hg, ?_⟩
    rw [py_eqv 60 _ _ hc hg]
    rw [Bool.bne_false] at q
    exact q
  | true =>
    refine op_neD C.un64 pins st σ H x y v u Q I rx ry ⟨_, _, hx.dp 60 hc, hK, py_shaped hc, py_shaped hg, ?_⟩
    rw [py_eqv 60 _ _ hc hg]
    rw [Bool.bne_true] at q
    exact q
theorem isG_inv {n : Bool} {ea : Md.E} {x : Str} {ρ : Md.Env} {s s' : Md.St} {d : Md.D} (h : Md.ev G.Γ G.gl (.isG n ea x) ρ s = some (d, s')) : ∃ dx gs, Md.ev G.Γ G.gl ea ρ s = some (dx, s') ∧ G.gl x = some (.tup gs) ∧ Md.eqOk 60 dx = true ∧ Md.eqOk 60 (.tup gs) = true ∧ d = .bl (Md.eqD dx (.tup gs) != n) := by
  simp only [Md.ev] at h
  obtain ⟨dx, s1, h1, h⟩ := bnd_inv h
  split at h
  · rename_i gs hg
    split at h
    · rename_i hc
      rw [Bool.and_eq_true] at hc
      cases h
      exact ⟨dx, gs, h1, hg, hc.1, hc.2, rfl⟩
    · cases h
  · cases h
theorem r_isG (O : GOk G) (C : XC G N sc fn X) {n : Bool} {x : Str} {a : Expr} {ea : Md.E} {p pos : Pos} (hg : Gl X x) (hd : (x == ("__debug__" : Str)) = false) (ha : PE X a (tE G ea)) : PE X (.Compare a [opN n] [.Name x p] pos) (tE G (.isG n ea x)) := by
  refine ⟨fun pins st σ H Q I ⟨F, μ, ρ, s, d, s', R, E, h, k⟩ => ?_⟩
  obtain ⟨dx, gs, h1, h2, h3, h4, rfl⟩ := isG_inv h
  obtain ⟨v, u, hm, hr, _, hu⟩ := O.gls x _ h2
  refine (pe_cmpR (op_G C n h4 (hu gs rfl)) ha (pe_glob hg (by rw [C.hmg]; exact hm) hr hd) (by cases n <;> rfl)).run pins st σ H Q I ?_
  exact ⟨F, μ, ρ, s, dx, s', R, E, h1, fun v1 H1 μ1 X1 R1 V1 => ⟨F, μ1, s', dx, R1, V1, rfl, h3, (k.from X1).now R1 (by simp only [VR])⟩⟩
theorem q_isG (O : GOk G) (C : XC G N sc fn X) {n : Bool} {x : Str} {a : Expr} {ea : Md.E} {p pos : Pos} (hg : Gl X x) (hd : (x == ("__debug__" : Str)) = false) (ha : PE X a (tE G ea)) : PT X (.Compare a [opN n] [.Name x p] pos) (tT G (.isG n ea x)) := by
  refine ⟨fun pins st σ H Q I ⟨F, μ, ρ, s, d, s', b, R, E, h, ht, k⟩ => ?_⟩
  obtain ⟨dx, gs, h1, h2, h3, h4, rfl⟩ := isG_inv h
  simp only [Md.truth, Option.some.injEq] at ht
  subst ht
  obtain ⟨v, u, hm, hr, _, hu⟩ := O.gls x _ h2
  refine (pt_cmpR (op_G C n h4 (hu gs rfl)) ha (pe_glob hg (by rw [C.hmg]; exact hm) hr hd) (by cases n <;> rfl)).run pins st σ H Q I ?_
  exact ⟨F, μ, ρ, s, dx, s', R, E, h1, fun v1 H1 μ1 X1 R1 V1 => ⟨F, μ1, s', dx, R1, V1, rfl, h3, ⟨_, rfl, k H1 μ1 X1 R1⟩⟩⟩
/-- a reading as a test, where a truth value comes -/
theorem tT_bl {e : Md.E} {σ : L2.St} {H : Hp} {Q : Bool → Hp → Prop} (hb : ∀ ρ s d s', Md.ev G.Γ G.gl e ρ s = some (d, s') → ∃ b, d = .bl b) (h : tT G e σ H Q) : tE G e σ H fun x H' => ∃ k, x = .bl k ∧ Q k H' := by
  obtain ⟨F, μ, ρ, s, d, s', b, R, E, h, ht, k⟩ := h
  obtain ⟨b', rfl⟩ := hb _ _ _ _ h
  simp only [Md.truth, Option.some.injEq] at ht
  subst ht
  exact ⟨F, μ, ρ, s, _, s', R, E, h, fun v H' μ' X' R' V' => by
    simp only [VR] at V'
    exact ⟨b', V', k H' μ' X' R'⟩⟩
theorem cmp_bl {ea eb : Md.E} {o : Md.Co} {ρ : Md.Env} {s s' : Md.St} {d : Md.D} (h : Md.ev G.Γ G.gl (.cmp o ea eb) ρ s = some (d, s')) : ∃ b, d = .bl b := by
  simp only [Md.ev] at h
  obtain ⟨x, s1, h1, h⟩ := bnd_inv h
  obtain ⟨y, s2, h2, h⟩ := bnd_inv h
  simp only [Option.map_eq_some_iff] at h
  obtain ⟨b, _, e⟩ := h
  cases e
  exact ⟨b, rfl⟩
theorem q_cmp (C : XC G N sc fn X) {op : CmpOp} {o : Md.Co} {a b : Expr} {ea eb : Md.E} {pos : Pos} (ho : CmpOf op o) (ha : PE X a (tE G ea)) (hb : PE X b (tE G eb)) (hm : behindInMarks op b = false) : PT X (.Compare a [op] [b] pos) (tT G (.cmp o ea eb)) :=
  (pt_cmpR (op_cmp C ho) ha hb hm).imp fun σ H Q h => cmp_rd (tT_bl (fun _ _ _ _ h => cmp_bl h) h)
theorem chain_rd {ea eb ec : Md.E} {o p : Md.Co} {σ : L2.St} {H : Hp} {Q : VK} (h : tE G (.chain o p ea eb ec) σ H Q) : tChain (r2D G (fCmp o)) (r2D G (fCmp p)) (tE G ea) (tE G eb) (tE G ec) σ H Q := by
  obtain ⟨F, μ, ρ, s, d, s', R, E, h, k⟩ := h
  simp only [Md.ev] at h
  obtain ⟨x, s1, h1, h⟩ := bnd_inv h
  obtain ⟨y, s2, h2, h⟩ := bnd_inv h
  refine ⟨F, μ, ρ, s, x, s1, R, E, h1, fun v1 H1 μ1 X1 R1 V1 => ⟨F, μ1, ρ, s1, y, s2, R1, E.mono X1, h2, fun v2 H2 μ2 X2 R2 V2 => ?_⟩⟩
  split at h
  · rename_i e
    obtain ⟨z, s3, h3, h⟩ := bnd_inv h
    refine ⟨F, μ2, s2, x, y, .bl true, s2, R2, V1.mono X2, V2, by simp [fCmp, e], fun v3 H3 μ3 X3 R3 V3 => ?_⟩
    simp only [VR] at V3
    refine ⟨true, V3, ?_⟩
    rw [if_pos rfl]
    refine ⟨F, μ3, ρ, s2, z, s3, R3, E.mono (X1.trans (X2.trans X3)), h3, fun v4 H4 μ4 X4 R4 V4 => ?_⟩
    exact ⟨F, μ4, s3, y, z, d, s', R4, V2.mono (X3.trans X4), V4, h, k.from (X1.trans (X2.trans (X3.trans X4)))⟩
  · rename_i e
    cases h
    refine ⟨F, μ2, s', x, y, .bl false, s', R2, V1.mono X2, V2, by simp [fCmp, e], fun v3 H3 μ3 X3 R3 V3 => ?_⟩
    simp only [VR] at V3
    refine ⟨false, V3, ?_⟩
    exact iteF ((k.from (X1.trans (X2.trans X3))).now R3 (by simp only [VR]))
  · cases h
theorem chain_bl {ea eb ec : Md.E} {o p : Md.Co} {ρ : Md.Env} {s s' : Md.St} {d : Md.D} (h : Md.ev G.Γ G.gl (.chain o p ea eb ec) ρ s = some (d, s')) : ∃ b, d = .bl b := by
  simp only [Md.ev] at h
  obtain ⟨x, s1, h1, h⟩ := bnd_inv h
  obtain ⟨y, s2, h2, h⟩ := bnd_inv h
  split at h
  · obtain ⟨z, s3, h3, h⟩ := bnd_inv h
    simp only [Option.map_eq_some_iff] at h
    obtain ⟨b, _, e⟩ := h
    cases e
    exact ⟨b, rfl⟩
  · cases h; exact ⟨_, rfl⟩
  · cases h
theorem r_chain (C : XC G N sc fn X) {op op' : CmpOp} {o p : Md.Co} {a b c : Expr} {ea eb ec : Md.E} {pos : Pos} (ho : CmpOf op o) (hp : CmpOf op' p) (ha : PE X a (tE G ea)) (hb : PE X b (tE G eb)) (hc : PE X c (tE G ec)) (hm : lastMarks [op, op'] [b, c] = false) :
    PE X (.Compare a [op, op'] [b, c] pos) (tE G (.chain o p ea eb ec)) :=
  (pe_chain (op_cmp C ho) (op_cmp C hp) ha hb hc hm).imp fun σ H Q h => chain_rd h
theorem q_chain (C : XC G N sc fn X) {op op' : CmpOp} {o p : Md.Co} {a b c : Expr} {ea eb ec : Md.E} {pos : Pos} (ho : CmpOf op o) (hp : CmpOf op' p) (ha : PE X a (tE G ea)) (hb : PE X b (tE G eb)) (hc : PE X c (tE G ec)) (hm : lastMarks [op, op'] [b, c] = false) :
    PT X (.Compare a [op, op'] [b, c] pos) (tT G (.chain o p ea eb ec)) :=
  (pt_chain (op_cmp C ho) (op_cmp C hp) ha hb hc hm).imp fun σ H Q h => chain_rd (tT_bl (fun _ _ _ _ h => chain_bl h) h)
/-! ### truth -/
theorem truth_ok {F : Fo} {μ : List Addr} {H : Hp} {s : Md.St} {d : Md.D} {v : V} {b : Bool} (R : RS G.K F μ H s) (r : VR F μ H d v) (h : Md.truth s d = some b) : TruV G.K v H b := by
  have emp : ∀ {ds : List Md.D} {vs : List V}, VRs F μ H ds vs → (!ds.isEmpty) = !vs.isEmpty := fun {ds vs} q => by
    have := q.len
    cases ds <;> cases vs <;> simp_all
  cases d with
  | non => simp only [Md.truth] at h; cases h; simp only [VR] at r; subst r; rfl
  | bl c => simp only [Md.truth] at h; cases h; simp only [VR] at r; subst r; rfl
  | int c => simp only [Md.truth] at h; cases h; simp only [VR] at r; subst r; rfl
  | str c => simp [Md.truth] at h
  | scr c => simp [Md.truth] at h
  | tup ds =>
    simp only [Md.truth] at h; cases h
    obtain ⟨a, vs, rfl, h1, h2⟩ := tup_at r
    exact .inr (.inl ⟨vs, .of h1, emp h2⟩)
  | lst ds =>
    simp only [Md.truth] at h; cases h
    simp only [VR] at r
    obtain ⟨a, vs, rfl, h1, _, _, h2⟩ := r
    exact .inl ⟨vs, .of h1, emp h2⟩
  | ref n =>
    simp only [Md.truth] at h
    split at h
    · rename_i ds e
      cases h
      simp only [VR] at r
      obtain ⟨a, rfl, e2⟩ := r
      obtain ⟨vs, h1, h2⟩ := R.ob n _ a e e2
      exact .inl ⟨vs, .of h1, emp h2⟩
    · cases h
/-- any expression as a test, by its value's truth -/
theorem q_plain (C : XC G N sc fn X) {a : Expr} {e : Md.E} (ha : PE X a (tE G e)) (he : ∀ whole, isTrue a X.env whole = (do let v ← whole; standAt a.pos; holding [v] (truthy v))) : PT X a (tT G e) :=
  (pt_truth ha he).imp fun σ H Q ⟨F, μ, ρ, s, d, s', b, R, E, h, ht, k⟩ => ⟨F, μ, ρ, s, d, s', R, E, h, fun v H' μ' X' R' V' => ⟨b, by rw [C.hK]; exact truth_ok R' V' ht, k H' μ' X' R'⟩⟩
theorem q_not {a : Expr} {e : Md.E} {pos : Pos} (ha : PT X a (tT G e)) : PT X (.UnaryOp .Not a pos) (tT G (.not e)) :=
  (pt_not ha).imp fun σ H Q ⟨F, μ, ρ, s, d, s', b, R, E, h, ht, k⟩ => by
    simp only [Md.ev] at h
    obtain ⟨x, s1, h1, h⟩ := bnd_inv h
    simp only [Option.map_eq_some_iff] at h
    obtain ⟨c, h2, h3⟩ := h
    cases h3
    simp only [Md.truth, Option.some.injEq] at ht
    subst ht
    exact ⟨F, μ, ρ, s, x, s', c, R, E, h1, h2, fun H' μ' X' R' => k H' μ' X' R'⟩
theorem r_not (C : XC G N sc fn X) {a : Expr} {e : Md.E} {pos : Pos} (ha : PE X a (tE G e)) : PE X (.UnaryOp .Not a pos) (tE G (.not e)) :=
  (pe_notT ha).imp fun σ H Q ⟨F, μ, ρ, s, d, s', R, E, h, k⟩ => by
    simp only [Md.ev] at h
    obtain ⟨x, s1, h1, h⟩ := bnd_inv h
    simp only [Option.map_eq_some_iff] at h
    obtain ⟨c, h2, h3⟩ := h
    cases h3
    exact ⟨F, μ, ρ, s, x, s', R, E, h1, fun v H' μ' X' R' V' => ⟨c, by rw [C.hK]; exact truth_ok R' V' h2, (k.from X').now R' (by simp only [VR])⟩⟩
theorem r_one {a : Expr} {e : Md.E} {op} {pos : Pos} (ha : PE X a (tE G e)) : PE X (.BoolOp op [a] pos) (tE G (.one e)) :=
  (pe_one ha).imp fun σ H Q ⟨F, μ, ρ, s, d, s', R, E, h, k⟩ => ⟨F, μ, ρ, s, d, s', R, E, by simpa only [Md.ev] using h, k⟩
theorem r_and {a b : Expr} {rest : List Expr} {e r : Md.E} {pos : Pos} (ha : PE X a (tE G e)) (hb : PE X (.BoolOp .And (b :: rest) pos) (tE G r)) : PE X (.BoolOp .And (a :: b :: rest) pos) (tE G (.and e r)) :=
  (pe_and ha hb).imp fun σ H Q ⟨F, μ, ρ, s, d, s', R, E, h, k⟩ => by
    simp only [Md.ev] at h
    obtain ⟨x, s1, h1, h⟩ := bnd_inv h
    refine ⟨F, μ, ρ, s, x, s1, R, E, h1, fun v H' μ' X' R' V' => ?_⟩
    split at h
    · simp only [VR] at V'
      exact ⟨true, V', by rw [if_pos rfl]; exact ⟨F, μ', ρ, s1, d, s', R', E.mono X', h, k.from X'⟩⟩
    · cases h
      simp only [VR] at V'
      exact ⟨false, V', by rw [if_neg Bool.false_ne_true]; exact (k.from X').now R' (by simp only [VR])⟩
    · cases h
theorem r_or {a b : Expr} {rest : List Expr} {e r : Md.E} {pos : Pos} (ha : PE X a (tE G e)) (hb : PE X (.BoolOp .Or (b :: rest) pos) (tE G r)) : PE X (.BoolOp .Or (a :: b :: rest) pos) (tE G (.or e r)) :=
  (pe_or ha hb).imp fun σ H Q ⟨F, μ, ρ, s, d, s', R, E, h, k⟩ => by
    simp only [Md.ev] at h
    obtain ⟨x, s1, h1, h⟩ := bnd_inv h
    refine ⟨F, μ, ρ, s, x, s1, R, E, h1, fun v H' μ' X' R' V' => ?_⟩
    split at h
    · simp only [VR] at V'
      exact ⟨false, V', by rw [if_neg Bool.false_ne_true]; exact ⟨F, μ', ρ, s1, d, s', R', E.mono X', h, k.from X'⟩⟩
    · cases h
      simp only [VR] at V'
      exact ⟨true, V', by rw [if_pos rfl]; exact (k.from X').now R' (by simp only [VR])⟩
    · cases h
theorem q_one {a : Expr} {e : Md.E} {pos : Pos} (ha : PT X a (tT G e)) : PW X (.BoolOp .And [a] pos) (tT G (.one e)) :=
  (pw_and1 ha).imp fun σ H Q ⟨F, μ, ρ, s, d, s', b, R, E, h, k⟩ => ⟨F, μ, ρ, s, d, s', b, R, E, by simpa only [Md.ev] using h, k⟩
theorem q_one' {a : Expr} {e : Md.E} {pos : Pos} (ha : PT X a (tT G e)) : PW X (.BoolOp .Or [a] pos) (tT G (.one e)) :=
  (pw_or1 ha).imp fun σ H Q ⟨F, μ, ρ, s, d, s', b, R, E, h, k⟩ => ⟨F, μ, ρ, s, d, s', b, R, E, by simpa only [Md.ev] using h, k⟩
theorem q_and {a b : Expr} {rest : List Expr} {e r : Md.E} {pos : Pos} (ha : PT X a (tT G e)) (hb : PW X (.BoolOp .And (b :: rest) pos) (tT G r)) : PW X (.BoolOp .And (a :: b :: rest) pos) (tT G (.and e r)) :=
  (pw_and ha hb).imp fun σ H Q ⟨F, μ, ρ, s, d, s', bb, R, E, h, ht, k⟩ => by
    simp only [Md.ev] at h
    obtain ⟨x, s1, h1, h⟩ := bnd_inv h
    split at h
    · refine ⟨F, μ, ρ, s, _, s1, true, R, E, h1, rfl, fun H' μ' X' R' => ?_⟩
      exact iteT (⟨F, μ', ρ, s1, d, s', bb, R', E.mono X', h, ht, fun H2 μ2 X2 R2 => k H2 μ2 (X'.trans X2) R2⟩)
    · cases h
      simp only [Md.truth, Option.some.injEq] at ht
      subst ht
      refine ⟨F, μ, ρ, s, _, _, false, R, E, h1, rfl, fun H' μ' X' R' => ?_⟩
      exact iteF (k H' μ' X' R')
    · cases h
theorem q_or {a b : Expr} {rest : List Expr} {e r : Md.E} {pos : Pos} (ha : PT X a (tT G e)) (hb : PW X (.BoolOp .Or (b :: rest) pos) (tT G r)) : PW X (.BoolOp .Or (a :: b :: rest) pos) (tT G (.or e r)) :=
  (pw_or ha hb).imp fun σ H Q ⟨F, μ, ρ, s, d, s', bb, R, E, h, ht, k⟩ => by
    simp only [Md.ev] at h
    obtain ⟨x, s1, h1, h⟩ := bnd_inv h
    split at h
    · refine ⟨F, μ, ρ, s, _, s1, false, R, E, h1, rfl, fun H' μ' X' R' => ?_⟩
      exact iteF (⟨F, μ', ρ, s1, d, s', bb, R', E.mono X', h, ht, fun H2 μ2 X2 R2 => k H2 μ2 (X'.trans X2) R2⟩)
    · cases h
      simp only [Md.truth, Option.some.injEq] at ht
      subst ht
      refine ⟨F, μ, ρ, s, _, _, true, R, E, h1, rfl, fun H' μ' X' R' => ?_⟩
      exact iteT (k H' μ' X' R')
    · cases h
theorem r_ife {c a b : Expr} {ec ea eb : Md.E} {pos : Pos} (hc : PT X c (tT G ec)) (ha : PE X a (tE G ea)) (hb : PE X b (tE G eb)) : PE X (.IfExp c a b pos) (tE G (.ife ec ea eb)) :=
  (pe_ifExp hc ha hb).imp fun σ H Q ⟨F, μ, ρ, s, d, s', R, E, h, k⟩ => by
    simp only [Md.ev] at h
    obtain ⟨x, s1, h1, h⟩ := bnd_inv h
    split at h
    · rename_i e
      refine ⟨F, μ, ρ, s, x, s1, true, R, E, h1, e, fun H' μ' X' R' => ?_⟩
      exact iteT (⟨F, μ', ρ, s1, d, s', R', E.mono X', h, k.from X'⟩)
    · rename_i e
      refine ⟨F, μ, ρ, s, x, s1, false, R, E, h1, e, fun H' μ' X' R' => ?_⟩
      exact iteF (⟨F, μ', ρ, s1, d, s', R', E.mono X', h, k.from X'⟩)
    · cases h
/-! ### argument lists, displays -/
theorem a_nil : PA X [] (tA G .nil) := pa_nil.imp fun σ H Q ⟨F, μ, ρ, s, ds, s', R, E, h, k⟩ => by
  simp only [Md.ev] at h; cases h
  exact k [] H μ Xt.refl R (by simp [VRs])
theorem a_cons {a : Expr} {es : List Expr} {e r : Md.E} (ha : PE X a (tE G e)) (hr : PA X es (tA G r)) (hs : starEach (a :: es) X.env = (false, eval a X.env) :: starEach es X.env) : PA X (a :: es) (tA G (.cons e r)) :=
  (pa_cons ha hr hs).imp fun σ H Q ⟨F, μ, ρ, s, ds, s', R, E, h, k⟩ => by
    simp only [Md.ev] at h
    obtain ⟨x, s1, h1, h⟩ := bnd_inv h
    obtain ⟨y, s2, h2, h⟩ := bnd_inv h
    split at h
    · cases h
      refine ⟨F, μ, ρ, s, x, s1, R, E, h1, fun v1 H1 μ1 X1 R1 V1 => ⟨F, μ1, ρ, s1, _, _, R1, E.mono X1, h2, fun vs H2 μ2 X2 R2 V2 => ?_⟩⟩
      exact k _ H2 μ2 (X1.trans X2) R2 (.cons (V1.mono X2) V2)
    · cases h
theorem tup_rd {e : Md.E} {σ : L2.St} {H : Hp} {Q : VK} (h : tE G (.tup e) σ H Q) : tTup (tA G e) σ H Q := by
  obtain ⟨F, μ, ρ, s, d, s', R, E, h, k⟩ := h
  simp only [Md.ev] at h
  obtain ⟨x, s1, h1, h⟩ := bnd_inv h
  split at h
  · split at h
    · rename_i hc
      cases h
      refine ⟨F, μ, ρ, s, _, _, R, E, h1, fun vs H1 μ1 X1 R1 V1 => ⟨by rw [← V1.len]; exact capLine hc, fun p hp => ?_⟩⟩
      exact (k.from X1).tup R1 V1 hp
    · cases h
  · cases h
theorem r_tup {es : List Expr} {e : Md.E} {x1} {pos : Pos} (h : PA X es (tA G e)) : PE X (.Tuple es x1 pos) (tE G (.tup e)) := (pe_tup h).imp fun σ H Q h => tup_rd h
theorem lst_rd {e : Md.E} {m : Bool} {σ : L2.St} {H : Hp} {Q : VK} (h : tE G (.lst m e) σ H Q) : tLst (tA G e) σ H Q := by
  obtain ⟨F, μ, ρ, s, d, s', R, E, h, k⟩ := h
  simp only [Md.ev] at h
  obtain ⟨x, s1, h1, h⟩ := bnd_inv h
  split at h
  · split at h
    · rename_i xs hc
      have hd : (Md.mk m xs s1).1 = d := by rw [Option.some.inj h]
      have hs : (Md.mk m xs s1).2 = s' := by rw [Option.some.inj h]
      subst hd hs
      refine ⟨F, μ, ρ, s, _, _, R, E, h1, fun vs H1 μ1 X1 R1 V1 => ⟨by rw [← V1.len]; exact capLine hc, fun p hp => ?_⟩⟩
      exact (k.from X1).mk R1 V1 hp
    · cases h
  · cases h
theorem r_lst {es : List Expr} {e : Md.E} {m : Bool} {pos : Pos} (h : PA X es (tA G e)) : PE X (.List es pos) (tE G (.lst m e)) := (pe_lst h).imp fun σ H Q h => lst_rd h
end
end Sn
end
section
set_option maxRecDepth 100000
/-! Snd6: subscripts, slices, fields, calls, methods, making. -/
namespace Sn
open PySem PySem.Spec PyProof.Rows L2
/-! ### forms of expressions -/
def baseOk : Expr → Bool
  | .Call (.Name _ _) _ _ _ => false
  | _ => true
def noStar : Expr → Bool
  | .Starred _ _ => false
  | _ => true
def noSlice : Expr → Bool
  | .Slice _ _ _ _ => false
  | _ => true
def plainTest : Expr → Bool
  | .UnaryOp .Not _ _ => false
  | .BoolOp _ _ _ => false
  | .IfExp _ _ _ _ => false
  | .Compare _ _ _ _ => false
  | _ => true
theorem base_ok {e : Expr} {f : Str} {env : Env} (h : baseOk e = true) : attributeBase e f env (eval e env) = eval e env := by
  cases e with
  | Call fn as ks p =>
    cases fn with
    | Name _ _ => simp [baseOk] at h
    | _ => rfl
  | _ => rfl
theorem star_ok {e : Expr} {es : List Expr} {env : Env} (h : noStar e = true) : starEach (e :: es) env = (false, eval e env) :: starEach es env := by
  cases e with
  | Starred _ _ => simp [noStar] at h
  | _ => rfl
theorem stars_ok {env : Env} {pos : Pos} : ∀ {es : List Expr}, es.all noStar = true → (backTo pos (starEach es env)).any (·.1) = false
  | [], _ => rfl
  | e :: es, h => by
    rw [List.all_cons, Bool.and_eq_true] at h
    rw [star_ok h.1]
    show (false || (backTo pos (starEach es env)).any (·.1)) = false
    rw [stars_ok h.2]; rfl
theorem stars_all {env : Env} {pos : Pos} : ∀ {es : List Expr}, es.all noStar = true → (backTo pos (starEach es env)).all (fun x => !x.1) = true
  | [], _ => rfl
  | e :: es, h => by
    rw [List.all_cons, Bool.and_eq_true] at h
    rw [star_ok h.1]
    show (true && (backTo pos (starEach es env)).all (fun x => !x.1)) = true
    rw [stars_all h.2]; rfl
theorem plainIx_ok {b : Expr} (h : noSlice b = true) : PlainIx b := fun o i => by
  cases b with
  | Slice l u st p => simp [noSlice] at h
  | _ => rfl
theorem test_ok {a : Expr} {env : Env} (h : plainTest a = true) (whole : Sem Value) : isTrue a env whole = (do let v ← whole; standAt a.pos; holding [v] (truthy v)) := by
  cases a with
  | UnaryOp o _ _ => cases o <;> first | (simp [plainTest] at h; done) | rfl
  | BoolOp _ _ _ => simp [plainTest] at h
  | IfExp _ _ _ _ => simp [plainTest] at h
  | Compare _ _ _ _ => simp [plainTest] at h
  | _ => rfl
theorem meth_tree {o : Expr} {m : Str} {apos pos : Pos} {args : List Expr} {env : Env} (hb : baseOk o = true) (hs : args.all noStar = true) (hn : args.length < 30) (hl : (apos.endLine == pos.line) = true) :
    eval (.Call (.Attribute o m apos) args [] pos) env = (do
      let ov ← eval o env
      standAt apos.atName
      let (f, first) ← holding [ov] (getMethod ov m (do return (← importBound o env).getD true))
      callWith pos f first (backTo pos (starEach args env)) (backToKw pos (keywordEach [] env))) := by
  rw [arm_eval_Call, base_ok hb]
  have hform : methodCallForm (args.length + ([] : List Keyword).length) (backTo pos (starEach args env)) (backToKw pos (keywordEach [] env)) = true := by
    unfold methodCallForm
    rw [stars_all hs]
    show decide (args.length + 0 + 0 < 30) = true
    exact decide_eq_true (by omega)
  have hpos : methodCallPos true o env apos pos = pure pos := by unfold methodCallPos; simp [hl]
  unfold methodCall
  rw [hform]
  simp only [hpos]
  rfl
section
variable {G : Gv} {N : List Str} {sc : Scope} {fn : Str → Bool} {X : Cx}
/-! ### subscripts -/
theorem ixOf_eq (n : Nat) (i : Int) : Md.ixOf n i = ixN n i := rfl
theorem nth_ok {F : Fo} {μ : List Addr} {H : Hp} {ds : List Md.D} {vs : List V} {i : Int} {d : Md.D} {s s' : Md.St} (r : VRs F μ H ds vs) (h : Md.nthD ds i s = some (d, s')) : s' = s ∧ ∃ v, atI vs i = some v ∧ VR F μ H d v := by
  simp only [Md.nthD, Option.map_eq_some_iff] at h
  obtain ⟨d', h1, h2⟩ := h
  cases h2
  refine ⟨rfl, ?_⟩
  obtain ⟨j, h3, h4⟩ := Option.bind_eq_some_iff.mp h1
  obtain ⟨v, e1, e2⟩ := r.get h4
  refine ⟨v, ?_, e2⟩
  unfold atI
  rw [← r.len, ← ixOf_eq, h3]
  exact e1
theorem ix_ok (C : XC G N sc fn X) : IxR X (r2D G Md.idxD) := by
  intro value slice pins st σ H x y v u Q I rx ry ⟨F, μ, s, dx, dy, d, s', R, hx, hy, e, k⟩ hs
  have list : ∀ {a : Addr} {vs : List V} {ds : List Md.D}, x = .ref a → Rd H a (.lst vs) → VRs F μ H ds vs → (match (generalizing := false) dy with | .int i => Md.nthD ds i s | _ => none) = some (d, s') →
      wpAny (model X.prog X.w) X.A (subscriptTail value slice v u) (EP X pins σ Q) X.xe st := by
    intro a vs ds ex hr hv e
    split at e
    · obtain ⟨rfl, w, h1, h2⟩ := nth_ok hv e
      simp only [VR] at hy
      exact ix_list value slice pins st σ H x y v u Q I rx ry ⟨a, vs, _, w, ex, hy, .inl hr, h1, k.now R h2⟩ hs
    · cases e
  cases dx with
  | ref n =>
    simp only [Md.idxD] at e
    simp only [VR] at hx
    obtain ⟨a, e1, e2⟩ := hx
    split at e
    · rename_i ds e3
      obtain ⟨vs, h1, h2⟩ := R.ob n _ a e3 e2
      exact list e1 (.inl h1) h2 e
    · rename_i kvs e3
      simp only [Option.map_eq_some_iff] at e
      obtain ⟨d', e, e4⟩ := e
      cases e4
      obtain ⟨q, e4, e5⟩ := Option.bind_eq_some_iff.mp e
      obtain ⟨us, h1, h2⟩ := R.ob n _ a e3 e2
      have := h2.find q
      rw [e5] at this
      obtain ⟨w, h3, h4⟩ := this
      subst e1
      cases (show v = Value.ref a from rx)
      have g : DGet H a y (some w) := by rw [keyK_ok hy e4, ← h3]; exact DGet.k h1
      exact tail_any (dict_typeIs I g) PySem.F.slot_dict_getitem.lookup (d_getItem C.un1 I g ry fun w' s2 I2 r2 => ⟨w, H, I2, r2, k.now R h4⟩) hs
    · rename_i kvs e3
      simp only [Option.map_eq_some_iff] at e
      obtain ⟨d', e, e4⟩ := e
      cases e4
      obtain ⟨q, e4, e5⟩ := Option.bind_eq_some_iff.mp e
      obtain ⟨us, h1, h2⟩ := R.ob n _ a e3 e2
      have := h2.find q
      rw [e5] at this
      obtain ⟨w, h3, h4⟩ := this
      subst e1
      cases (show v = Value.ref a from rx)
      obtain ⟨b, e6, hb⟩ := keyT_ok hy e4
      have g : DGet H a y (some w) := by rw [e6, ← h3]; exact DGet.t h1 hb
      exact tail_any (dict_typeIs I g) PySem.F.slot_dict_getitem.lookup (d_getItem C.un1 I g ry fun w' s2 I2 r2 => ⟨w, H, I2, r2, k.now R h4⟩) hs
    · cases e
  | lst ds =>
    simp only [Md.idxD] at e
    simp only [VR] at hx
    obtain ⟨a, vs, e1, h1, _, _, h2⟩ := hx
    exact list e1 (.inl h1) h2 e
  | scr ns =>
    simp only [Md.idxD] at e
    simp only [VR] at hx
    obtain ⟨a, e1, h1⟩ := hx
    split at e
    · obtain ⟨rfl, w, h3, h4⟩ := nth_ok (VRs.of_ints ns) e
      simp only [VR] at hy
      refine ix_list value slice pins st σ H x y v u Q I rx ry ⟨a, ns.map V.int, _, w, e1, hy, ?_, h3, k.now R h4⟩ hs
      rcases h1 with ⟨o, h1, _⟩ | h1
      · exact .inl (.inr ⟨o, h1⟩)
      · exact .inr (by rw [C.hK, ← R.kk]; exact h1)
    · cases e
  | tup ds =>
    simp only [Md.idxD] at e
    obtain ⟨a, vs, e1, h1, h2⟩ := tup_at hx
    split at e
    · obtain ⟨rfl, w, h3, h4⟩ := nth_ok h2 e
      simp only [VR] at hy
      exact ix_tup value slice pins st σ H x y v u Q I rx ry ⟨a, vs, _, w, e1, hy, .of h1, h3, k.now R h4⟩ hs
    · cases e
  | _ => simp [Md.idxD] at e
theorem r_idx (C : XC G N sc fn X) {a b : Expr} {ea eb : Md.E} {pos : Pos} (ha : PE X a (tE G ea)) (hb : PE X b (tE G eb)) (hs : noSlice b = true) : PE X (.Subscript a b pos) (tE G (.idx ea eb)) :=
  (pe_ix (ix_ok C) ha hb (plainIx_ok hs)).imp fun σ H Q ⟨F, μ, ρ, s, d, s', R, E, h, k⟩ => by
    simp only [Md.ev] at h
    obtain ⟨x, s1, h1, h⟩ := bnd_inv h
    obtain ⟨y, s2, h2, h⟩ := bnd_inv h
    refine ⟨F, μ, ρ, s, x, s1, R, E, h1, fun v1 H1 μ1 X1 R1 V1 => ⟨F, μ1, ρ, s1, y, s2, R1, E.mono X1, h2, fun v2 H2 μ2 X2 R2 V2 => ?_⟩⟩
    exact ⟨F, μ2, s2, x, y, d, s', R2, V1.mono X2, V2, h, k.from (X1.trans X2)⟩
/-! ### slices -/
def rSl (G : Gv) (m : Bool) : V → Option Int → Option Int → Hp → VK → Prop := fun x l h H Q => ∃ F μ s dx d s', RS G.K F μ H s ∧ VR F μ H dx x ∧ Md.slcD m dx l h s = some (d, s') ∧ KE G F μ H d s' Q
theorem cut_ok {F : Fo} {μ : List Addr} {H : Hp} {ds : List Md.D} {vs : List V} (l h : Option Int) (r : VRs F μ H ds vs) : VRs F μ H (Md.cut ds l h) (cutV vs l h) := by
  have e : ∀ n d o, Md.sIx n d o = HT.sIx n d o := fun n d o => by cases o <;> rfl
  unfold Md.cut cutV
  rw [e, e, ← r.len]
  exact (r.drop _).take _
theorem cut_whole {ds : List Md.D} {l h : Option Int} (e : HT.sIx ds.length 0 l = 0 ∧ HT.sIx ds.length ds.length h = ds.length) : Md.cut ds l h = ds := by
  have z : ∀ n d o, Md.sIx n d o = HT.sIx n d o := fun n d o => by cases o <;> rfl
  unfold Md.cut
  rw [z, z, e.1, e.2]
  simp
theorem sl_ok (C : XC G N sc fn X) (m : Bool) : SlR X (rSl G m) := by
  intro pins st σ H x v vl vu l h sl Q I rx hs pl pu ⟨F, μ, s, dx, d, s', R, hx, e, k⟩
  have list : ∀ {a : Addr} {vs : List V} {ds : List Md.D}, x = .ref a → Rd H a (.lst vs) → VRs F μ H ds vs → Md.mk m (Md.cut ds l h) s = (d, s') →
      ∃ T id, typeLookup (.type T) "__getitem__" = pure (some (.builtin id)) ∧ st.TypeIs v T ∧ wpAny (model X.prog X.w) X.A (getItem v (.ref sl)) (EP X pins σ Q) X.xe st := by
    intro a vs ds ex hr hv e
    have hd : (Md.mk m (Md.cut ds l h) s).1 = d := by rw [e]
    have hs' : (Md.mk m (Md.cut ds l h) s).2 = s' := by rw [e]
    subst hd hs'
    exact sl_list pins st σ H x v vl vu l h sl Q I rx hs pl pu ⟨a, vs, ex, .inl hr, fun p hp => k.mk R (cut_ok l h hv) hp⟩
  cases dx with
  | tup ds =>
    simp only [Md.slcD] at e
    cases e
    obtain ⟨a, vs, e1, h1, h2⟩ := tup_at hx
    refine sl_tupA pins st σ H x v vl vu l h sl Q I rx hs pl pu ⟨a, vs, e1, .of h1, fun w => ?_, fun w p hp => ?_⟩
    · rw [← h2.len] at w
      rw [← e1]
      exact k.now R (by rw [cut_whole w]; exact hx)
    · exact k.tup R (cut_ok l h h2) hp
  | ref n =>
    simp only [Md.slcD, Option.map_eq_some_iff] at e
    obtain ⟨ds, e2, e3⟩ := e
    obtain ⟨a, vs, e1, h1, h2⟩ := lstOf_ok R hx e2
    exact list e1 h1 h2 e3
  | lst ds =>
    simp only [Md.slcD, Option.map_eq_some_iff] at e
    obtain ⟨ds', e2, e3⟩ := e
    obtain ⟨a, vs, e1, h1, h2⟩ := lstOf_ok R hx e2
    exact list e1 h1 h2 e3
  | _ => simp [Md.slcD, Md.lstOf] at e
/-- the parts of a slice -/
def tO (G : Gv) (e : Md.E) : TO := fun σ H Q => ∃ F μ ρ s d s' o, RS G.K F μ H s ∧ ER F μ H ρ σ ∧ Md.ev G.Γ G.gl e ρ s = some (d, s') ∧ Md.partOf (Md.isHole e) d = some o ∧
  ∀ H' μ', Xt μ H μ' H' → RS G.K F μ' H' s' → Q o H'
theorem _root_.L2.PO.imp {X : Cx} {e : Option Expr} {t t' : TO} (h : PO X e t) (f : ∀ σ H Q, t' σ H Q → t σ H Q) : PO X e t' := ⟨fun pins s σ H Q I q => h.run pins s σ H Q I (f σ H Q q)⟩
theorem o_none : PO X none (tO G .hole) := po_none.imp fun σ H Q ⟨F, μ, ρ, s, d, s', o, R, E, h, ho, k⟩ => by
  simp only [Md.ev] at h; cases h
  simp only [Md.partOf, Md.isHole, if_true] at ho; cases ho
  exact k H μ Xt.refl R
theorem o_some {e : Expr} {ee : Md.E} (he : PE X e (tE G ee)) (hi : Md.isHole ee = false) : PO X (some e) (tO G ee) := (po_some he).imp fun σ H Q ⟨F, μ, ρ, s, d, s', o, R, E, h, ho, k⟩ => by
  refine ⟨F, μ, ρ, s, d, s', R, E, h, fun v H' μ' X' R' V' => ?_⟩
  rw [hi] at ho
  cases d with
  | int i =>
    simp only [VR] at V'
    simp only [Md.partOf, Bool.false_eq_true, if_false] at ho; cases ho
    exact ⟨i, V', k H' μ' X' R'⟩
  | _ => simp [Md.partOf] at ho
theorem r_slc (C : XC G N sc fn X) {m : Bool} {a : Expr} {lo hi : Option Expr} {ea el eh : Md.E} {pos p2 : Pos} (ha : PE X a (tE G ea)) (hl : PO X lo (tO G el)) (hh : PO X hi (tO G eh)) : PE X (.Subscript a (.Slice lo hi none p2) pos) (tE G (.slc m ea el eh)) :=
  (pe_slice (sl_ok C m) ha hl hh).imp fun σ H Q ⟨F, μ, ρ, s, d, s', R, E, h, k⟩ => by
    simp only [Md.ev] at h
    obtain ⟨x, s1, h1, h⟩ := bnd_inv h
    obtain ⟨y, s2, h2, h⟩ := bnd_inv h
    obtain ⟨z, s3, h3, h⟩ := bnd_inv h
    split at h
    · rename_i l u e1 e2
      refine ⟨F, μ, ρ, s, x, s1, R, E, h1, fun v1 H1 μ1 X1 R1 V1 => ⟨F, μ1, ρ, s1, y, s2, l, R1, E.mono X1, h2, e1, fun H2 μ2 X2 R2 => ⟨F, μ2, ρ, s2, z, s3, u, R2, E.mono (X1.trans X2), h3, e2, fun H3 μ3 X3 R3 => ?_⟩⟩⟩
      exact ⟨F, μ3, s3, x, d, s', R3, V1.mono (X2.trans X3), h, k.from (X1.trans (X2.trans X3))⟩
    · cases h
/-! ### fields -/
theorem KR.look {F : Fo} {μ : List Addr} {H : Hp} {f : Str} {d : Md.D} : ∀ {fs : List (Str × Md.D)} {us : List (Str × V)}, KR F μ H fs us → fs.lookup f = some d → ∃ v, us.lookup f = some v ∧ VR F μ H d v
  | [], us, h, e => by simp at e
  | (g, x) :: fs, us, h, e => by
    simp only [KR] at h
    obtain ⟨v, t, rfl, h1, h2⟩ := h
    rw [List.lookup_cons] at e ⊢
    split at e
    · rename_i c; cases e; exact ⟨v, rfl, h1⟩
    · rename_i c; exact KR.look h2 e
theorem KR.lookN {F : Fo} {μ : List Addr} {H : Hp} {f : Str} : ∀ {fs : List (Str × Md.D)} {us : List (Str × V)}, KR F μ H fs us → fs.lookup f = none → us.lookup f = none
  | [], us, h, e => by simp only [KR] at h; rw [h]; rfl
  | (g, x) :: fs, us, h, e => by
    simp only [KR] at h
    obtain ⟨v, t, rfl, h1, h2⟩ := h
    rw [List.lookup_cons] at e ⊢
    split at e
    · cases e
    · rename_i c; exact KR.lookN h2 e
theorem r_fld (O : GOk G) (C : XC G N sc fn X) {a : Expr} {ea : Md.E} {f : Str} {cs : List Str} {pos : Pos} (ha : PE X a (tE G ea)) (hb : baseOk a = true) (hf : ∀ c ∈ cs, (c, f) ∈ G.flds) : PE X (.Attribute a f pos) (tE G (.fld ea f cs)) :=
  (pe_fld ha (base_ok hb)).imp fun σ H Q ⟨F, μ, ρ, s, d, s', R, E, h, k⟩ => by
    simp only [Md.ev] at h
    obtain ⟨x, s1, h1, h⟩ := bnd_inv h
    refine ⟨F, μ, ρ, s, x, s1, R, E, h1, fun v1 H1 μ1 X1 R1 V1 => ?_⟩
    split at h
    · rename_i n
      split at h
      · rename_i c fs e1
        split at h
        · rename_i hc
          simp only [Option.map_eq_some_iff] at h
          obtain ⟨d', e2, e3⟩ := h
          cases e3
          simp only [VR] at V1
          obtain ⟨a, rfl, e4⟩ := V1
          obtain ⟨dx, us, h2, h3⟩ := R1.ob n _ a e1 e4
          obtain ⟨v, h4, h5⟩ := h3.look e2
          have hm := hf c (List.contains_iff_mem.mp hc)
          obtain ⟨o1, o2⟩ := O.fl _ hm
          exact ⟨a, _, dx, us, v, rfl, h2, by rw [C.hK]; exact O.cl _ o1, by rw [C.hK]; exact o2, h4, (k.from X1).now R1 h5⟩
        · cases h
      · cases h
    · cases h
/-! ### calls -/
theorem fn_cx (C : XC G N sc fn X) {a : Addr} {fd : FuncData} {ps : List Str} {sp : Sp} {k : Nat} (F : FnOk G.P G.w G.K G.mg G.base CX0 k a fd ps sp) : FnOk X.prog X.w X.K X.mg X.base CX0 k a fd ps sp := by
  rw [C.hP, C.hw, C.hK, C.hmg, C.hb]; exact F
theorem call_rd {es : Md.E} {f : Str} {σ : L2.St} {H : Hp} {Q : VK} (h : tE G (.call f es) σ H Q) : ∃ F μ ρ s ds s1 d s', RS G.K F μ H s ∧ ER F μ H ρ σ ∧ Md.ev G.Γ G.gl es ρ s = some (.tup ds, s1) ∧ G.Γ (f, none) ds s1 = some (d, s') ∧ KE G F μ H d s' Q := by
  obtain ⟨F, μ, ρ, s, d, s', R, E, h, k⟩ := h
  simp only [Md.ev] at h
  obtain ⟨x, s1, h1, h⟩ := bnd_inv h
  split at h
  · exact ⟨F, μ, ρ, s, _, s1, d, s', R, E, h1, h, k⟩
  · cases h

theorem sp_of {F : Fo} {μ : List Addr} {H : Hp} {g : List Md.D → Md.St → Option (Md.D × Md.St)} {ds : List Md.D} {vs : List V} {s s' : Md.St} {d : Md.D} {Q : VK} {E : XK} (R : RS G.K F μ H s) (V : VRs F μ H ds vs) (h : g ds s = some (d, s')) (k : KE G F μ H d s' Q) : spI G.K g (vs ++ []) H Q E := by
  rw [List.append_nil]
  exact ⟨F, μ, s, ds, d, s', R, V, h, k⟩
theorem r_call (O : GOk G) (C : XC G N sc fn X) {f : Str} {e : Expr} {es : List Expr} {ee : Md.E} {p pos : Pos} (hg : Gl X f) (hd : (f == ("__debug__" : Str)) = false) (hs : (e :: es).all noStar = true) (ha : PA X (e :: es) (tA G ee)) : PE X (.Call (.Name f p) (e :: es) [] pos) (tE G (.call f ee)) := by
  refine ⟨fun pins st σ H Q I h => ?_⟩
  obtain ⟨F, μ, ρ, s, ds, s1, d, s', R, E, h1, h2, k⟩ := call_rd h
  obtain ⟨a, hm, hk, fd, ps, hb, fo⟩ := O.fn _ _ _ _ h2
  have hs' := hs
  rw [List.all_cons, Bool.and_eq_true] at hs'
  refine (pe_call (E := fun _ _ _ => False) (fn_cx C fo) (C.room.mono (Nat.le_succ _)) hg (by rw [C.hmg]; exact hm) (by rw [C.hK]; exact hk) (by rw [C.hK]; exact hb) .nil pass0 ha hd (star_ok hs'.1) (stars_ok hs'.2)).run pins st σ H Q I ?_
  exact ⟨F, μ, ρ, s, ds, s1, R, E, h1, fun vs H1 μ1 X1 R1 V1 => sp_of R1 V1 h2 (k.from X1)⟩
theorem nil_ev {ρ : Md.Env} {s s1 : Md.St} {ds : List Md.D} (h : Md.ev G.Γ G.gl .nil ρ s = some (.tup ds, s1)) : ds = [] ∧ s1 = s := by
  simp only [Md.ev, Option.some.injEq, Prod.mk.injEq, Md.D.tup.injEq] at h
  exact ⟨h.1.symm, h.2.symm⟩
theorem r_call0 (O : GOk G) (C : XC G N sc fn X) {f : Str} {p pos : Pos} (hg : Gl X f) (hd : (f == ("__debug__" : Str)) = false) : PE X (.Call (.Name f p) [] [] pos) (tE G (.call f .nil)) := by
  refine ⟨fun pins st σ H Q I h => ?_⟩
  obtain ⟨F, μ, ρ, s, ds, s1, d, s', R, E, h1, h2, k⟩ := call_rd h
  obtain ⟨rfl, rfl⟩ := nil_ev h1
  obtain ⟨a, hm, hk, fd, ps, hb, fo⟩ := O.fn _ _ _ _ h2
  refine (pe_call0 (E := fun _ _ _ => False) (fn_cx C fo) (C.room.mono (Nat.le_succ _)) hg (by rw [C.hmg]; exact hm) (by rw [C.hK]; exact hk) (by rw [C.hK]; exact hb) .nil pass0 hd).run pins st σ H Q I ?_
  exact sp_of (vs := []) (E := fun _ _ _ => False) R (by simp only [VRs]) h2 k
/-! ### methods -/
theorem me_cx (C : XC G N sc fn X) {c : Addr} {m : Str} {a : Addr} (M : Meth G.K c m a) : Meth X.K c m a := by rw [C.hK]; exact M
theorem meth_rd {o es : Md.E} {f : Str} {σ : L2.St} {H : Hp} {Q : VK} (h : tE G (.meth o f es) σ H Q) : ∃ F μ ρ s n c fs s1 ds s2 d s', RS G.K F μ H s ∧ ER F μ H ρ σ ∧ Md.ev G.Γ G.gl o ρ s = some (.ref n, s1) ∧ s1[n]? = some (.ins c fs) ∧ fs.lookup f = none ∧
    Md.ev G.Γ G.gl es ρ s1 = some (.tup ds, s2) ∧ G.Γ (c, some f) (.ref n :: ds) s2 = some (d, s') ∧ KE G F μ H d s' Q := by
  obtain ⟨F, μ, ρ, s, d, s', R, E, h, k⟩ := h
  simp only [Md.ev] at h
  obtain ⟨x, s1, h1, h⟩ := bnd_inv h
  split at h
  · split at h
    · rename_i c fs e1
      split at h
      · rename_i e2
        obtain ⟨y, s2, h2, h⟩ := bnd_inv h
        split at h
        · exact ⟨F, μ, ρ, s, _, c, fs, s1, _, s2, d, s', R, E, h1, e1, by simpa using e2, h2, h, k⟩
        · cases h
      · cases h
    · cases h
  · cases h
theorem r_meth (O : GOk G) (C : XC G N sc fn X) {o : Expr} {es : List Expr} {eo ee : Md.E} {m : Str} {apos pos : Pos} (ho : PE X o (tE G eo)) (hb : baseOk o = true) (hs : es.all noStar = true) (hn : es.length < 30) (hl : (apos.endLine == pos.line) = true) (hm : m ≠ initS) (ha : PA X es (tA G ee)) (h0 : es = [] → ee = .nil) :
    PE X (.Call (.Attribute o m apos) es [] pos) (tE G (.meth eo m ee)) := by
  refine ⟨fun pins st σ H Q I h => ?_⟩
  obtain ⟨F, μ, ρ, s, n, c, fs, s1, ds, s2, d, s', R, E, h1, e1, e2, h2, h3, k⟩ := meth_rd h
  obtain ⟨hc, a, ⟨fd, ps, hbi, fo⟩, _, mt⟩ := O.me _ _ _ _ _ h3
  have mt := mt hm
  refine methcall_of ho I ?_ (meth_tree hb hs hn hl)
  refine ⟨F, μ, ρ, s, _, s1, R, E, h1, fun v H1 μ1 X1 R1 V1 => ?_⟩
  simp only [VR] at V1
  obtain ⟨x, rfl, hx⟩ := V1
  obtain ⟨dx, us, h4, h5⟩ := R1.ob n _ x e1 hx
  refine ⟨x, _, dx, us, a, rfl, h4, by rw [C.hK]; exact O.cl _ hc, me_cx C mt, h5.lookN e2, fun st1 I1 => ?_⟩
  cases es with
  | nil =>
    rw [h0 rfl] at h2
    obtain ⟨rfl, rfl⟩ := nil_ev h2
    refine PySem.W.callWith_K0 (first := [.ref x]) I1.kIn (me_cx C mt).kp (run_fn (E := fun _ _ _ => False) (us := [.ref x]) (vs := [.ref x]) (fn_cx C fo) (C.room.mono (Nat.le_succ _)) (by rw [C.hK]; exact hbi) .nil pass0 I1 (.cons rfl .nil) ?_)
    exact sp_of R1 (.one (by simp only [VR]; exact ⟨x, rfl, hx⟩)) h3 (k.from X1)
  | cons e es =>
    have hs' := hs
    rw [List.all_cons, Bool.and_eq_true] at hs'
    refine PySem.W.callWith_K (first := [.ref x]) (h₀ := X.base) I.ok.mod.kin (me_cx C mt).kp (thn (ha.run pos pins st1 σ H1 _ I1 ⟨F, μ1, ρ, s1, ds, s2, R1, E.mono X1, h2, fun vs H2 μ2 X2 R2 V2 => ?_⟩) fun us st2 ⟨vs, H2, I2, r, q2⟩ => ⟨I2.kIn, run_fn (E := fun _ _ _ => False) (us := .ref x :: us) (vs := .ref x :: vs) (fn_cx C fo) (C.room.mono (Nat.le_succ _)) (by rw [C.hK]; exact hbi) .nil pass0 I2 (.cons rfl r) q2⟩) (star_ok hs'.1) (stars_ok hs'.2)
    refine sp_of R2 (.cons ?_ V2) h3 (k.from (X1.trans X2))
    have : VR F μ1 H1 (.ref n) (.ref x) := by simp only [VR]; exact ⟨x, rfl, hx⟩
    exact this.mono X2
/-! ### making -/
theorem make_rd {es : Md.E} {c : Str} {σ : L2.St} {H : Hp} {Q : VK} (h : tE G (.make c es) σ H Q) : ∃ F μ ρ s ds s1 s', RS G.K F μ H s ∧ ER F μ H ρ σ ∧ Md.ev G.Γ G.gl es ρ s = some (.tup ds, s1) ∧ G.Γ (c, some initS) (.ref s1.length :: ds) (s1 ++ [.ins c []]) = some (.non, s') ∧ KE G F μ H (.ref s1.length) s' Q := by
  obtain ⟨F, μ, ρ, s, d, s', R, E, h, k⟩ := h
  simp only [Md.ev] at h
  obtain ⟨x, s1, h1, h⟩ := bnd_inv h
  split at h
  · obtain ⟨y, s2, h2, h⟩ := bnd_inv h
    split at h
    · cases h
      exact ⟨F, μ, ρ, s, _, s1, _, R, E, h1, h2, k⟩
    · cases h
  · cases h
theorem make_sp {F : Fo} {μ : List Addr} {H : Hp} {c : Str} {ds : List Md.D} {vs : List V} {s s' : Md.St} {Q : VK} {E : XK} (R : RS G.K F μ H s) (V : VRs F μ H ds vs) (h : G.Γ (c, some initS) (.ref s.length :: ds) (s ++ [.ins c []]) = some (.non, s')) (k : KE G F μ H (.ref s.length) s' Q) :
    ∀ x dx, H x = none → H dx = none → dx ≠ x → spI G.K (G.Γ (c, some initS)) (.ref x :: (vs ++ [])) (upd (upd H dx (.own x)) x (.ins (He.ga G.K c) dx [])) (fun v H2 => v = .non ∧ Q (.ref x) H2) E := by
  intro x dx hx hdx ne
  rw [List.append_nil]
  have hx2 : (upd H dx (.own x)) x = none := by rw [upd_ne (Ne.symm ne)]; exact hx
  have X1 : Xt μ H μ (upd H dx (.own x)) := Xt.upd hdx
  have X2 : Xt μ (upd H dx (.own x)) (μ ++ [x]) (upd (upd H dx (.own x)) x (.ins (He.ga G.K c) dx [])) := Xt.new' hx2
  have R2 := (R.upd (o := .own x) hdx).push (o := .ins (He.ga G.K c) dx []) (ob := .ins c []) hx2 ⟨dx, [], upd_same, by simp only [KR]⟩
  have hn : (μ ++ [x])[s.length]? = some x := by rw [← R.len]; simp
  refine ⟨F, μ ++ [x], _, _, _, s', R2, .cons (by simp only [VR]; exact ⟨x, rfl, hn⟩) (V.mono (X1.trans X2)), h, fun v H' μ' X3 R3 V3 => ?_⟩
  simp only [VR] at V3
  refine ⟨V3, k _ H' μ' (X1.trans (X2.trans X3)) R3 ?_⟩
  have : VR F (μ ++ [x]) (upd (upd H dx (.own x)) x (.ins (He.ga G.K c) dx [])) (.ref s.length) (.ref x) := by simp only [VR]; exact ⟨x, rfl, hn⟩
  exact this.mono X3
theorem mk_cx (C : XC G N sc fn X) {c a : Addr} (M : Mk G.K c a) : Mk X.K c a := by rw [C.hK]; exact M
theorem r_make (O : GOk G) (C : XC G N sc fn X) {c : Str} {e : Expr} {es : List Expr} {ee : Md.E} {p pos : Pos} (hg : Gl X c) (hd : (c == ("__debug__" : Str)) = false) (hs : (e :: es).all noStar = true) (ha : PA X (e :: es) (tA G ee)) : PE X (.Call (.Name c p) (e :: es) [] pos) (tE G (.make c ee)) := by
  refine ⟨fun pins st σ H Q I h => ?_⟩
  obtain ⟨F, μ, ρ, s, ds, s1, s', R, E, h1, h2, k⟩ := make_rd h
  obtain ⟨hc, a, ⟨fd, ps, hbi, fo⟩, mk, _⟩ := O.me _ _ _ _ _ h2
  obtain ⟨M, hm⟩ := mk rfl
  have hs' := hs
  rw [List.all_cons, Bool.and_eq_true] at hs'
  refine (pe_make (E := fun _ _ _ => False) (mk_cx C M) (fn_cx C fo) C.room hg (by rw [C.hmg]; exact hm) (by rw [C.hK]; exact hbi) .nil pass0 ha hd (star_ok hs'.1) (stars_ok hs'.2)).run pins st σ H Q I ?_
  exact ⟨F, μ, ρ, s, ds, s1, R, E, h1, fun vs H1 μ1 X1 R1 V1 => make_sp R1 V1 h2 (k.from X1)⟩
theorem r_make0 (O : GOk G) (C : XC G N sc fn X) {c : Str} {p pos : Pos} (hg : Gl X c) (hd : (c == ("__debug__" : Str)) = false) : PE X (.Call (.Name c p) [] [] pos) (tE G (.make c .nil)) := by
  refine ⟨fun pins st σ H Q I h => ?_⟩
  obtain ⟨F, μ, ρ, s, ds, s1, s', R, E, h1, h2, k⟩ := make_rd h
  obtain ⟨rfl, rfl⟩ := nil_ev h1
  obtain ⟨hc, a, ⟨fd, ps, hbi, fo⟩, mk, _⟩ := O.me _ _ _ _ _ h2
  obtain ⟨M, hm⟩ := mk rfl
  refine (pe_make0 (E := fun _ _ _ => False) (mk_cx C M) (fn_cx C fo) C.room hg (by rw [C.hmg]; exact hm) (by rw [C.hK]; exact hbi) .nil pass0 hd).run pins st σ H Q I ?_
  exact make_sp (vs := []) R (by simp only [VRs]) h2 k
end
end Sn
end
section
set_option maxRecDepth 100000
/-! EnumT: enumerate of a tuple, walked. -/
namespace En
open PySem PySem.Spec PyProof.Rows L2
theorem new_tuple (l : Addr) (items : Array Value) (n : Nat) (dct : Option Addr) (sl : Array (Option Value)) :
    Meets (Builtin.«enumerate.__new__» ⟨[.type "enumerate", .ref l], []⟩) (fun _ R s => s.heap.get? l = some { cls := .type "tuple", dict := dct, data := .seq items n, slots := sl } ∧
      R (.ok (.ret (.ref (s.heap.push { cls := .type "tuple_iterator", data := .fields #[.ref l, .int 0 0] }).objs.size)))
        { s with heap := (s.heap.push { cls := .type "tuple_iterator", data := .fields #[.ref l, .int 0 0] }).push { cls := .type "enumerate", data := .fields #[.none, .bool false, .ref s.heap.objs.size, rawInt 0, .none, .none] } }) :=
  .of_wp fun prog w A R s h => by
    obtain ⟨hp, g, d, tk, os⟩ := s; obtain ⟨hl, h⟩ := h
    have hsub := sub_enumerate
    have hT : Heap.IsTuple (Shared.heap ⟨hp, g, d, tk, os⟩) l items := ⟨_, hl, rfl, n, rfl⟩
    wp_walk using AutoSeq1.wpAny_loadPart' hl
    refine wpAny_stack_any fun st => wpAny_pure ?_
    split
    · rename_i c _ _ _ _ _
      cases (c == Value.type "enumerate") <;>
        (wp_walk using AutoSeq1.wpAny_loadPart' hl, wpAny_pyIter_tuple hT; exact ⟨_, rfl, h⟩)
    · wp_walk using AutoSeq1.wpAny_loadPart' hl, wpAny_pyIter_tuple hT
      exact ⟨_, rfl, h⟩
section
variable {prog : Program} {w : World} {A : Around} {E : Value → Shared → Prop} {s : Shared}
theorem call_tuple {l : Addr} {items : Array Value} {Q : Value → Shared → Prop} (hL : s.heap.IsTuple l items)
    (h : ∀ h', IsEnum h' (s.heap.objs.size + 1) s.heap.objs.size 0 .none → h'.IsTupleIter s.heap.objs.size l 0 → (∀ b o, s.heap.get? b = some o → h'.get? b = some o) → Q (.ref (s.heap.objs.size + 1)) { s with heap := h' }) :
    wpAny (model prog w) A (call (.type "enumerate") [.ref l]) Q E s := by
  obtain ⟨⟨c, dct, dt, sl⟩, hl, hc, n, hd⟩ := hL
  replace hc : c = .type "tuple" := hc
  replace hd : dt = .seq items n := hd
  subst hc hd
  refine callType_new F.called_enumerate (by decide) (F.typeCall_enumerate_1 _) (F.newCall_enumerate_1 _) (fun obj => F.args_object_init_2 obj _) F.entry_enumerate_new
    (new_tuple l items n dct sl) ⟨hl, ?_⟩
  generalize hp1 : s.heap.push { cls := .type "tuple_iterator", data := .fields #[.ref l, .int 0 0] } = h1
  have hz : h1.objs.size = s.heap.objs.size + 1 := by rw [← hp1]; exact Heap.size_push ..
  have ei : h1.get? s.heap.objs.size = some { cls := .type "tuple_iterator", data := .fields #[.ref l, .int 0 0] } := by rw [← hp1]; exact Heap.get?_push_size _ rfl
  have ee := Heap.get?_push_size h1 (o := { cls := .type "enumerate", data := .fields #[.none, .bool false, .ref s.heap.objs.size, rawInt 0, .none, .none] }) rfl
  show _ ∧ _
  rw [hz] at ee ⊢
  exact ⟨⟨_, ee, rfl⟩, h _ ee ⟨_, Heap.get?_push_of_some _ ei, rfl, rfl⟩ fun b o x => Heap.get?_push_of_some _ (by rw [← hp1]; exact Heap.get?_push_of_some _ x)⟩
end
/-- the tuple at a, each item in a new pair -/
def IteT (K : PySem.W.Frag) (a : Addr) : It :=
  ⟨fun i H => ∃ (xs : List V) (x : V), SqT K H a xs ∧ xs[i]? = some x, fun i H v H' => ∃ T x, v = .ref T ∧ H T = none ∧ H' = upd H T (.tup [.int (i : Nat), x]) ∧ ∀ xs, SqT K H a xs → xs[i]? = some x, fun i H => ∃ xs : List V, SqT K H a xs ∧ xs.length = i⟩
theorem apart {h : Heap} {a e it : Addr} {i : Int} {j : Nat} {old : Value} {items : Array Value} (he : IsEnum h e it i old) (hi : h.IsTupleIter it a j) (ht : h.IsTuple a items) : a ≠ it ∧ e ≠ a := by
  obtain ⟨o, h1, h2, h3⟩ := hi
  obtain ⟨p, h4, h5, _⟩ := ht
  refine ⟨fun z => ?_, fun z => ?_⟩
  · subst z
    rw [h1] at h4; cases h4
    rw [h2] at h5
    exact absurd (Value.type.inj h5) (by decide)
  · subst z
    have he : h.get? e = some { cls := .type "enumerate", data := .fields #[.none, .bool false, .ref it, rawInt i, .none, old] } := he
    rw [he] at h4; cases h4
    exact absurd (Value.type.inj h5) (by decide)
theorem turn_enumT {P : Program} {w : World} {K : PySem.W.Frag} {elts : List Expr} {kk : Nat} {tpos : Pos} (a e it : Addr) :
    Turn P w K (.Tuple elts kk tpos) (IteT K a) [e, it] e (fun i h => (∃ old, IsEnum h e it ((i : Nat) : Int) old) ∧ h.IsTupleIter it a i ∧ e ≠ it) where
  mem := by simp
  obj := fun i h st b hb => by
    obtain ⟨⟨old, he⟩, ⟨o, ho, hc, hd⟩, _⟩ := st
    have e' : b = e ∨ b = it := by simpa using hb
    rcases e' with z | z
    · rw [z]; exact ⟨_, he, fun v q => nomatch q⟩
    · rw [z]; exact ⟨o, ho, fun v q => by rw [hd] at q; cases q⟩
  keep := fun i h h' st k => let ⟨⟨old, he⟩, hi, hne⟩ := st; ⟨⟨old, k e (by simp) _ he⟩, hi.at fun o q => k it (by simp) o q, hne⟩
  item := by
    intro X hP hw hK hc i pins s σ H E I hf st hg
    subst hP hw hK
    obtain ⟨⟨old, he⟩, hit, hne⟩ := st
    obtain ⟨xs, x, hq, hx⟩ := hg
    obtain ⟨its, rv, p, hz⟩ := I.tuple hq
    obtain ⟨u, hu, ru⟩ := rv.get hx
    have p' : s.heap.IsTuple a its.toArray := p
    obtain ⟨ap1, ap2⟩ := apart he hit p'
    have hel : e < s.heap.objs.size := Heap.lt_size he
    have hil : it < s.heap.objs.size := by obtain ⟨_, q, _⟩ := hit; exact Heap.lt_size q
    have hlt : i < its.toArray.size := by
      have := (List.getElem?_eq_some_iff.mp hu).1
      simpa using this
    have hd : X.A.in1.handled = none := by simpa using I.ok.hd hc
    refine wpAny_pyNext_enum_itemD (Draws.tuple hd it a ap1 its.toArray) he ⟨hit, p'⟩ hlt hne (by simp [hne, ap2]) fun x' h' tk hp ho st' hT hsz hk => ?_
    have ex : x' = u := by
      have h1 : its.toArray[i]? = some u := by simpa using hu
      rw [h1] at hp
      exact (Option.some.inj hp).symm
    subst ex
    refine ⟨_, rfl, wpAny_letOwnedTupleGo_enum (s := { s with heap := h', toks := tk + 1 }) ho fun h'' he' sb => ?_⟩
    have hT2 : h''.get? s.heap.objs.size = some { cls := .type "tuple", data := .seq #[.int i tk, x'] } := (sb.2 _ (Nat.ne_of_gt hel)).trans hT
    have new : ObjOk X.prog X.w (upd H s.heap.objs.size (.tup [.int (i : Nat), x])) h'' s.heap.objs.size (.tup [.int (i : Nat), x]) :=
      ⟨by show 2 ≤ sizeLine; decide, [.int i tk, x'], .cons ⟨_, rfl⟩ (.cons ru .nil), ⟨_, hT2, rfl, _, rfl⟩⟩
    have I1 : Inv X pins σ (upd H s.heap.objs.size (.tup [.int (i : Nat), x])) { s with heap := h'', toks := tk + 1 } :=
      I.turnedNew (ch := [e, it]) (fun b ob hb q => (sb.2 b (fun z => hb (by simp [z]))).trans (hk b ob (fun z => hb (by simp [z])) (fun z => hb (by simp [z])) q)) hf (Nat.le_refl _) new
    refine ⟨.ref s.heap.objs.size, _, I1, rfl, ⟨_, x, rfl, I.hok.fresh (Nat.le_refl _), rfl, fun ys hy => by rw [I.tuple_inj hy hq]; exact hx⟩, ⟨⟨x', ?_⟩, st'.1.at fun o q => (sb.2 it (Ne.symm hne)).trans q, hne⟩, fun b hb => ?_⟩
    · have e1 : ((i + 1 : Nat) : Int) = (i : Int) + 1 := by omega
      rw [e1]; exact he'
    · have hb' : b < s.heap.objs.size := by
        have e' : b = e ∨ b = it := by simpa using hb
        rcases e' with z | z
        · rw [z]; exact hel
        · rw [z]; exact hil
      rw [upd_ne (Nat.ne_of_lt hb')]
      exact (hf b hb).1
  done := by
    intro X hP hw hK hc i pins s σ H E I hf st hg
    subst hP hw hK
    obtain ⟨⟨old, he⟩, hit, hne⟩ := st
    obtain ⟨xs, hq, hx⟩ := hg
    obtain ⟨its, rv, p, hz⟩ := I.tuple hq
    have p' : s.heap.IsTuple a its.toArray := p
    obtain ⟨ap1, ap2⟩ := apart he hit p'
    obtain ⟨f0, f1, f2, f3, f4, f5⟩ := hf it (by simp)
    have hl := rv.length
    have hd : X.A.in1.handled = none := by simpa using I.ok.hd hc
    have hn : its.toArray.size = i := by rw [List.size_toArray, ← hl]; exact hx
    exact wpAny_pyNext_enum_endD (Draws.tuple hd it a ap1 its.toArray) he ⟨by rw [hn]; exact hit, p'⟩ fun h' eb => ⟨rfl, I.turned (t' := s.toks) (fun b o hb q => eb b o hb q) f0 f1 f3 f4 f5⟩
  self := fun A i s Q E st h => let ⟨⟨_, he⟩, _⟩ := st; wpAny_pyIter_enum he h
/-- over a list or a tuple -/
def iEnumA (K : PySem.W.Frag) (ta : TA) : TI := fun σ H R => ta σ H fun vs H1 => ∃ a xs, vs = [.ref a] ∧ ((SqL K H1 a xs ∧ (xs.length ≤ sizeLine → R (Ite K a) H1)) ∨ (SqT K H1 a xs ∧ (xs.length ≤ sizeLine → R (IteT K a) H1)))
theorem pi_enumA {X : Cx} {e : Expr} {ta : TA} {p pos tpos : Pos} {elts : List Expr} {kk : Nat} (hg : Gl X "enumerate") (hm : X.mg "enumerate" = none) (ha : PA X [e] ta) (hs : starEach [e] X.env = [(false, eval e X.env)]) :
    PI X (.Tuple elts kk tpos) (.Call (.Name "enumerate" p) [e] [] pos) (iEnumA X.K ta) := by
  refine ⟨fun pins s σ H R I h => ?_⟩
  refine Call_ (ld_blt I hg hm boot_enumerate (PyProof.Rows.callWith_type1 (thn (ha.run pos pins s σ H _ I h) fun us s1 ⟨vs, H1, I1, r1, q1⟩ => ?_) hs rfl))
  obtain ⟨a, xs, ex, q1⟩ := q1
  subst ex
  have fr : ∀ b ∈ [s1.heap.objs.size + 1, s1.heap.objs.size], FpOk X pins H1 b := fun b hb => by
    have e' : b = s1.heap.objs.size + 1 ∨ b = s1.heap.objs.size := by simpa using hb
    have hle : s1.heap.objs.size ≤ b := by rcases e' with z | z <;> omega
    exact I1.fpOk hle (I1.hok.fresh hle)
  obtain ⟨u, rfl, r⟩ := vals1 r1
  cases r
  rcases q1 with ⟨hq, q⟩ | ⟨hq, q⟩
  · obtain ⟨its, rv, p', hz⟩ := I1.list hq
    refine call_enumerate_list p'.isList fun h' he hit hsz hk => wpAny_pyIter_enum he ?_
    exact ⟨s1.heap.objs.size + 1, [s1.heap.objs.size + 1, s1.heap.objs.size], _, _, H1, rfl, I1.kept (t' := s1.toks) hk, turn_enum a _ _, ⟨⟨.none, he⟩, hit, Nat.succ_ne_self _⟩, fr, q hz⟩
  · obtain ⟨its, rv, p', hz⟩ := I1.tuple hq
    refine call_tuple (show s1.heap.IsTuple a its.toArray from p') fun h' he hit hk => wpAny_pyIter_enum he ?_
    exact ⟨s1.heap.objs.size + 1, [s1.heap.objs.size + 1, s1.heap.objs.size], _, _, H1, rfl, I1.kept (t' := s1.toks) hk, turn_enumT a _ _, ⟨⟨.none, he⟩, hit, Nat.succ_ne_self _⟩, fr, q hz⟩
end En
end
section
set_option maxRecDepth 100000
/-! Snd7: what is walked; targets. -/
namespace Sn
open PySem PySem.Spec PyProof.Rows L2
/-- later: more objects, more foreign addresses; what is foreign may have changed -/
structure Lt (F : Fo) (μ : List Addr) (H : Hp) (F' : Fo) (μ' : List Addr) (H' : Hp) : Prop where
  pre : ∃ t, μ' = μ ++ t
  keep : ∀ a o, H a = some o → a ∉ μ → ¬ F a → H' a = some o
  new : ∀ a, a ∈ μ' → a ∈ μ ∨ H a = none
  tup : ∀ a vs, H a = some (.tup vs) → H' a = some (.tup vs)
  fr : ∀ a, F' a → F a ∨ H a = none
  kk : F'.K = F.K
theorem rd_some {H : Hp} {a : Addr} {u : HO} (h : Rd H a u) : ∃ o, H a = some o := by
  rcases h with h | ⟨o, h⟩
  · exact ⟨_, h⟩
  · exact ⟨_, h⟩
section
variable {K : PySem.W.Frag} {F F' : Fo} {μ μ' μ'' : List Addr} {H H' H'' : Hp}
theorem Xt.lt (x : Xt μ H μ' H') (fr : ∀ a, F' a → F a ∨ H a = none) (hk : F'.K = F.K := by rfl) : Lt F μ H F' μ' H' := ⟨x.pre, fun a o e n _ => x.keep a o e n, x.new, x.tup, fr, hk⟩
theorem Lt.refl : Lt F μ H F μ H := Xt.refl.lt fun a h => .inl h
theorem Lt.at (L : Lt F μ H F' μ' H') {a : Addr} {u : HO} (h : H a = some u) (n : a ∉ μ) (nf : ¬ F a) : H' a = some u ∧ a ∉ μ' ∧ ¬ F' a := by
  refine ⟨L.keep a _ h n nf, fun z => ?_, fun z => ?_⟩
  · rcases L.new a z with z | z
    · exact n z
    · rw [h] at z; cases z
  · rcases L.fr a z with z | z
    · exact nf z
    · rw [h] at z; cases z
mutual
theorem VR.later (L : Lt F μ H F' μ' H') : ∀ {d : Md.D} {v : V}, VR F μ H d v → VR F' μ' H' d v
  | .non, v, h => by simp only [VR] at h ⊢; exact h
  | .bl b, v, h => by simp only [VR] at h ⊢; exact h
  | .int i, v, h => by simp only [VR] at h ⊢; exact h
  | .str i, v, h => by simp only [VR] at h ⊢; exact h
  | .tup ds, v, h => by
    simp only [VR] at h ⊢
    obtain ⟨a, vs, e, hs, hv⟩ := h
    exact ⟨a, vs, e, L.tup a vs hs, VRs.later L hv⟩
  | .lst ds, v, h => by
    simp only [VR] at h ⊢
    obtain ⟨a, vs, e, hs, nm, nf, hv⟩ := h
    obtain ⟨h1, h2, h3⟩ := L.at hs nm nf
    exact ⟨a, vs, e, h1, h2, h3, VRs.later L hv⟩
  | .scr ns, v, h => by
    simp only [VR] at h ⊢
    obtain ⟨a, e, h⟩ := h
    refine ⟨a, e, ?_⟩
    rcases h with ⟨o, hs, nm, nf⟩ | h
    · obtain ⟨h1, h2, h3⟩ := L.at hs nm nf
      exact .inl ⟨o, h1, h2, h3⟩
    · exact .inr (by rw [L.kk]; exact h)
  | .ref n, v, h => by
    simp only [VR] at h ⊢
    obtain ⟨a, e, hn⟩ := h
    obtain ⟨t, e2⟩ := L.pre
    refine ⟨a, e, ?_⟩
    rw [e2, List.getElem?_append_left (List.getElem?_eq_some_iff.mp hn).1]
    exact hn
theorem VRs.later (L : Lt F μ H F' μ' H') : ∀ {ds : List Md.D} {vs : List V}, VRs F μ H ds vs → VRs F' μ' H' ds vs
  | [], vs, h => by simp only [VRs] at h ⊢; exact h
  | d :: ds, vs, h => by
    simp only [VRs] at h ⊢
    obtain ⟨v, r, e, h1, h2⟩ := h
    exact ⟨v, r, e, VR.later L h1, VRs.later L h2⟩
end
theorem KR.later {κ : Type} (L : Lt F μ H F' μ' H') : ∀ {kvs : List (κ × Md.D)} {us : List (κ × V)}, KR F μ H kvs us → KR F' μ' H' kvs us
  | [], us, h => by simp only [KR] at h ⊢; exact h
  | (k, d) :: r, us, h => by
    simp only [KR] at h ⊢
    obtain ⟨v, t, e, h1, h2⟩ := h
    exact ⟨v, t, e, h1.later L, KR.later L h2⟩
theorem OR.later (L : Lt F μ H F' μ' H') {a : Addr} {o : Md.O} (h : OR K F μ H a o) (e : H' a = H a) : OR K F' μ' H' a o := by
  cases o with
  | lst ds => obtain ⟨vs, h1, h2⟩ := h; exact ⟨vs, e.trans h1, h2.later L⟩
  | dk ds => obtain ⟨vs, h1, h2⟩ := h; exact ⟨vs, e.trans h1, h2.later L⟩
  | dt ds => obtain ⟨vs, h1, h2⟩ := h; exact ⟨vs, e.trans h1, h2.later L⟩
  | ins c fs => obtain ⟨dx, us, h1, h2⟩ := h; exact ⟨dx, us, e.trans h1, h2.later L⟩
theorem ER.later (L : Lt F μ H F' μ' H') {ρ : Md.Env} {σ : L2.St} (E : ER F μ H ρ σ) : ER F' μ' H' ρ σ :=
  ⟨E.len, fun i d h => by
    obtain ⟨v, e, r⟩ := E.at_ i d h
    exact ⟨v, e, r.later L⟩⟩
theorem Lt.ext (L : Lt F μ H F' μ' H') (x : Xt μ' H' μ'' H'') (hf : ∀ a, F a → ∃ o, H' a = some o) : Lt F μ H F' μ'' H'' := by
  refine ⟨?_, fun a o e n nf => ?_, fun a h => ?_, fun a vs h => x.tup a vs (L.tup a vs h), L.fr, L.kk⟩
  · obtain ⟨t, rfl⟩ := L.pre
    obtain ⟨u, rfl⟩ := x.pre
    exact ⟨t ++ u, by rw [List.append_assoc]⟩
  · refine x.keep a o (L.keep a o e n nf) fun h => ?_
    rcases L.new a h with h | h
    · exact n h
    · rw [e] at h; cases h
  · rcases x.new a h with h | h
    · exact L.new a h
    · cases e : H a with
      | none => exact .inr rfl
      | some o =>
        by_cases hm : a ∈ μ
        · exact .inl hm
        · by_cases hF : F a
          · obtain ⟨u, hu⟩ := hf a hF
            rw [hu] at h; cases h
          · rw [L.keep a o e hm hF] at h; cases h
end
/-- the iterator gives these items, also later, as long as ok holds of the store -/
structure JOk (G : Gv) (F : Fo) (μ : List Addr) (H : Hp) (ok : Md.St → Bool) (items : List Md.D) (J : It) : Prop where
  stop : ∀ F' μ' H' s', Lt F μ H F' μ' H' → RS G.K F' μ' H' s' → ok s' = true → J.stop items.length H'
  go : ∀ i d F' μ' H' s', Lt F μ H F' μ' H' → RS G.K F' μ' H' s' → ok s' = true → items[i]? = some d → J.go i H' ∧ ∀ x H'', J.yld i H' x H'' → Xt μ' H' μ' H'' ∧ RS G.K F' μ' H'' s' ∧ VR F' μ' H'' d x
def tI (G : Gv) (e : Md.E) : TI := fun σ H R => ∃ F μ ρ s d s' items, RS G.K F μ H s ∧ ER F μ H ρ σ ∧ Md.ev G.Γ G.gl e ρ s = some (d, s') ∧ Md.seqOf s' d = some items ∧
  ∀ J H' μ', Xt μ H μ' H' → RS G.K F μ' H' s' → JOk G F μ' H' (Md.stab d items) items J → items.length ≤ sizeLine → R J H'
theorem _root_.L2.PI.imp {X : Cx} {tg e : Expr} {t t' : TI} (h : PI X tg e t) (f : ∀ σ H Q, t' σ H Q → t σ H Q) : PI X tg e t' := ⟨fun pins s σ H Q I q => h.run pins s σ H Q I (f σ H Q q)⟩
section
variable {G : Gv} {N : List Str} {sc : Scope} {fn : Str → Bool} {X : Cx}
theorem stab_ref {n : Nat} {items : List Md.D} {s : Md.St} (h : Md.stab (.ref n) items s = true) : s[n]? = some (.lst items) := by
  simp only [Md.stab] at h
  split at h
  · rename_i ys e
    rw [e, Md.eqDs_eq h]
  · cases h
/-- where a list stands, now and later -/
theorem at_list {F : Fo} {μ : List Addr} {H : Hp} {s : Md.St} {d : Md.D} {items : List Md.D} {v : V} (R : RS G.K F μ H s) (r : VR F μ H d v) (h : Md.lstOf s d = some items) : ∃ a vs, v = .ref a ∧ SqL G.K H a vs ∧ VRs F μ H items vs ∧
    ∀ F' μ' H' s', Lt F μ H F' μ' H' → RS G.K F' μ' H' s' → Md.stab d items s' = true → ∃ vs', SqL G.K H' a vs' ∧ VRs F' μ' H' items vs' := by
  cases d with
  | lst ds =>
    simp only [Md.lstOf, Option.some.injEq] at h
    subst h
    simp only [VR] at r
    obtain ⟨a, vs, rfl, hr, nm, nf, hv⟩ := r
    exact ⟨a, vs, rfl, .of hr, hv, fun F' μ' H' s' L R' _ => ⟨vs, .of (L.at hr nm nf).1, hv.later L⟩⟩
  | ref n =>
    obtain ⟨a, vs, rfl, hr, hv⟩ := lstOf_ok R r h
    refine ⟨a, vs, rfl, .inl hr, hv, fun F' μ' H' s' L R' ok => ?_⟩
    simp only [VR] at r
    obtain ⟨b, e, hn⟩ := r
    cases e
    obtain ⟨t, et⟩ := L.pre
    have hn' : μ'[n]? = some a := by rw [et, List.getElem?_append_left (List.getElem?_eq_some_iff.mp hn).1]; exact hn
    obtain ⟨vs', h1, h2⟩ := R'.ob n _ a (stab_ref ok) hn'
    exact ⟨vs', .of h1, h2⟩
  | _ => simp [Md.lstOf] at h
theorem at_tup {F : Fo} {μ : List Addr} {H : Hp} {items : List Md.D} {v : V} (r : VR F μ H (.tup items) v) : ∃ a vs, v = .ref a ∧ SqT G.K H a vs ∧ VRs F μ H items vs ∧
    ∀ F' μ' H', Lt F μ H F' μ' H' → SqT G.K H' a vs ∧ VRs F' μ' H' items vs := by
  obtain ⟨a, vs, rfl, h1, h2⟩ := tup_at r
  exact ⟨a, vs, rfl, .of h1, h2, fun F' μ' H' L => ⟨.of (L.tup a vs h1), h2.later L⟩⟩
theorem jok_list {F : Fo} {μ : List Addr} {H : Hp} {ok : Md.St → Bool} {items : List Md.D} {a : Addr} (f : ∀ F' μ' H' s', Lt F μ H F' μ' H' → RS G.K F' μ' H' s' → ok s' = true → ∃ vs', SqL G.K H' a vs' ∧ VRs F' μ' H' items vs') : JOk G F μ H ok items (Itl G.K a) := by
  refine ⟨fun F' μ' H' s' L R o => ?_, fun i d F' μ' H' s' L R o e => ?_⟩
  · obtain ⟨vs, h1, h2⟩ := f F' μ' H' s' L R o
    exact ⟨vs, h1, by rw [h2.len]; exact Nat.le_refl _⟩
  · obtain ⟨vs, h1, h2⟩ := f F' μ' H' s' L R o
    obtain ⟨v, h3, h4⟩ := h2.get e
    refine ⟨⟨vs, v, h1, h3⟩, fun x H'' y => ?_⟩
    obtain ⟨rfl, y⟩ := y
    have := y vs h1
    rw [h3] at this
    cases this
    exact ⟨Xt.refl, R, h4⟩
theorem jok_tup {F : Fo} {μ : List Addr} {H : Hp} {ok : Md.St → Bool} {items : List Md.D} {a : Addr} {vs : List V} (f : ∀ F' μ' H', Lt F μ H F' μ' H' → SqT G.K H' a vs ∧ VRs F' μ' H' items vs) : JOk G F μ H ok items (Itt G.K a) := by
  refine ⟨fun F' μ' H' s' L R o => ?_, fun i d F' μ' H' s' L R o e => ?_⟩
  · obtain ⟨h1, h2⟩ := f F' μ' H' L
    exact ⟨vs, h1, by rw [h2.len]; exact Nat.le_refl _⟩
  · obtain ⟨h1, h2⟩ := f F' μ' H' L
    obtain ⟨v, h3, h4⟩ := h2.get e
    refine ⟨⟨vs, v, h1, h3⟩, fun x H'' y => ?_⟩
    obtain ⟨rfl, y⟩ := y
    have := y vs h1
    rw [h3] at this
    cases this
    exact ⟨Xt.refl, R, h4⟩
/-- a list, a tuple -/
theorem i_any (C : XC G N sc fn X) {tg e : Expr} {ee : Md.E} (he : PE X e (tE G ee)) : PI X tg e (tI G ee) := by
  refine ⟨fun pins st σ H Q I ⟨F, μ, ρ, s, d, s', items, R, E, h, hi, k⟩ => ?_⟩
  refine thn (he.run pins st σ H (fun v H1 => ∃ μ1, Xt μ H μ1 H1 ∧ RS G.K F μ1 H1 s' ∧ VR F μ1 H1 d v) I ⟨F, μ, ρ, s, d, s', R, E, h, fun v H1 μ1 X1 R1 V1 => ⟨μ1, X1, R1, V1⟩⟩) fun v s1 ⟨x, H1, I1, r1, μ1, X1, R1, V1⟩ => ?_
  have list : ∀ {a : Addr} {vs : List V}, x = .ref a → SqL G.K H1 a vs → VRs F μ1 H1 items vs → (∀ F' μ' H' s'', Lt F μ1 H1 F' μ' H' → RS G.K F' μ' H' s'' → Md.stab d items s'' = true → ∃ vs', SqL G.K H' a vs' ∧ VRs F' μ' H' items vs') →
      wpAny (model X.prog X.w) X.A (pyIter v) (PIE X pins σ tg Q) X.xe s1 := by
    intro a vs ex hq hv f
    subst ex
    cases r1
    rw [← C.hK] at hq
    obtain ⟨its, rv, p, hz⟩ := I1.list hq
    refine wpAny_pyIter_list p.isList ?_
    refine ⟨s1.heap.objs.size, [s1.heap.objs.size], _, _, H1, rfl, I1.kept (t' := s1.toks) fun b o e => Heap.get?_push_of_some _ e, turn_list a _, ⟨_, Heap.get?_push_size _ rfl, rfl, rfl⟩, fun b hb => ?_, ?_⟩
    · have e : b = s1.heap.objs.size := by simpa using hb
      subst e
      exact I1.fpOk (Nat.le_refl _) (I1.hok.fresh (Nat.le_refl _))
    · rw [C.hK]
      exact k _ H1 μ1 X1 R1 (jok_list f) (by rw [hv.len]; exact hz)
  cases d with
  | tup ds =>
    simp only [Md.seqOf, Option.some.injEq] at hi
    subst hi
    obtain ⟨a, vs, rfl, hq, hv, f⟩ := at_tup (G := G) V1
    cases r1
    rw [← C.hK] at hq
    obtain ⟨its, rv, p, hz⟩ := I1.tuple hq
    refine wpAny_pyIter_tuple (show s1.heap.IsTuple a its.toArray from p) ?_
    refine ⟨s1.heap.objs.size, [s1.heap.objs.size], _, _, H1, rfl, I1.kept (t' := s1.toks) fun b o e => Heap.get?_push_of_some _ e, turn_tuple a _, ⟨_, Heap.get?_push_size _ rfl, rfl, rfl⟩, fun b hb => ?_, ?_⟩
    · have e : b = s1.heap.objs.size := by simpa using hb
      subst e
      exact I1.fpOk (Nat.le_refl _) (I1.hok.fresh (Nat.le_refl _))
    · rw [C.hK]
      exact k _ H1 μ1 X1 R1 (jok_tup f) (by rw [hv.len]; exact hz)
  | lst ds =>
    obtain ⟨a, vs, e, hq, hv, f⟩ := at_list R1 V1 (show Md.lstOf s' (.lst ds) = some items from hi)
    exact list e hq hv f
  | ref n =>
    obtain ⟨a, vs, e, hq, hv, f⟩ := at_list R1 V1 (show Md.lstOf s' (.ref n) = some items from hi)
    exact list e hq hv f
  | _ => simp [Md.seqOf, Md.lstOf] at hi
/-! ### range -/
theorem rngI_len : ∀ (n : Nat) (lo c : Int), (Md.rngI lo n c).length = n
  | 0, _, _ => rfl
  | n + 1, lo, c => by simp [Md.rngI, rngI_len n]
theorem rngI_get : ∀ (n : Nat) (lo c : Int) (i : Nat) (d : Md.D), (Md.rngI lo n c)[i]? = some d → i < n ∧ d = .int (lo + i * c)
  | 0, lo, c, i, d, h => by simp [Md.rngI] at h
  | n + 1, lo, c, 0, d, h => by simp [Md.rngI] at h; subst h; exact ⟨by omega, by simp⟩
  | n + 1, lo, c, i + 1, d, h => by
    simp only [Md.rngI, List.getElem?_cons_succ] at h
    obtain ⟨h1, h2⟩ := rngI_get n (lo + c) c i d h
    refine ⟨by omega, ?_⟩
    rw [h2]
    congr 1
    rw [show ((i + 1 : Nat) : Int) = (i : Int) + 1 by omega, Int.add_mul]
    omega
theorem jok_rng {F : Fo} {μ : List Addr} {H : Hp} {ok : Md.St → Bool} {lo : Int} {n : Nat} : JOk G F μ H ok (Md.rngI lo n 1) (Itr lo n) := by
  refine ⟨fun F' μ' H' s' L R o => by rw [rngI_len]; exact Nat.le_refl _, fun i d F' μ' H' s' L R o e => ?_⟩
  obtain ⟨h1, rfl⟩ := rngI_get n lo 1 i d e
  refine ⟨h1, fun x H'' y => ?_⟩
  obtain ⟨rfl, rfl⟩ := y
  exact ⟨Xt.refl, R, by simp only [VR, Int.mul_one]⟩
theorem jok_rngC {F : Fo} {μ : List Addr} {H : Hp} {ok : Md.St → Bool} {lo c : Int} {n : Nat} : JOk G F μ H ok (Md.rngI lo n c) (Itc lo c n) := by
  refine ⟨fun F' μ' H' s' L R o => by rw [rngI_len]; exact Nat.le_refl _, fun i d F' μ' H' s' L R o e => ?_⟩
  obtain ⟨h1, rfl⟩ := rngI_get n lo c i d e
  refine ⟨h1, fun x H'' y => ?_⟩
  obtain ⟨rfl, rfl⟩ := y
  exact ⟨Xt.refl, R, by simp only [VR]⟩
theorem rng_rd {ea : Md.E} {ρ : Md.Env} {s s' : Md.St} {d : Md.D} {items : List Md.D} (h : Md.ev G.Γ G.gl (.rng ea) ρ s = some (d, s')) (hi : Md.seqOf s' d = some items) : ∃ ds, Md.ev G.Γ G.gl ea ρ s = some (.tup ds, s') ∧ Md.rngOf ds = some items ∧ d = .lst items := by
  simp only [Md.ev] at h
  obtain ⟨x, s1, h1, h⟩ := bnd_inv h
  split at h
  · simp only [Option.map_eq_some_iff] at h
    obtain ⟨xs, h2, h3⟩ := h
    cases h3
    simp only [Md.seqOf, Md.lstOf, Option.some.injEq] at hi
    subst hi
    exact ⟨_, h1, h2, rfl⟩
  · cases h
theorem one_int {F : Fo} {μ : List Addr} {H : Hp} {i : Int} {vs : List V} (h : VRs F μ H [.int i] vs) : vs = [.int i] := by
  have := VRs.ints (ns := [i]) h
  simpa using this
def alen : Md.E → Option Nat
  | .nil => some 0
  | .cons _ r => (alen r).map (· + 1)
  | _ => none
theorem alen_ok : ∀ {e : Md.E} {n : Nat} {ρ : Md.Env} {s s' : Md.St} {ds : List Md.D}, alen e = some n → Md.ev G.Γ G.gl e ρ s = some (.tup ds, s') → ds.length = n
  | .nil, n, ρ, s, s', ds, h, e => by
    simp only [alen, Option.some.injEq] at h
    simp only [Md.ev, Option.some.injEq, Prod.mk.injEq, Md.D.tup.injEq] at e
    rw [← e.1, ← h]; rfl
  | .cons a r, n, ρ, s, s', ds, h, e => by
    simp only [alen, Option.map_eq_some_iff] at h
    obtain ⟨m, h1, h2⟩ := h
    simp only [Md.ev] at e
    obtain ⟨x, s1, e1, e⟩ := bnd_inv e
    obtain ⟨y, s2, e2, e⟩ := bnd_inv e
    split at e
    · cases e
      rw [List.length_cons, alen_ok h1 e2, h2]
    · cases e
theorem small62 {i : Int} (h : -1000000 ≤ i) (g : i ≤ 1000000) : -(2 ^ 62) ≤ i ∧ i < 2 ^ 62 := by omega
theorem i_rng1 (C : XC G N sc fn X) {tg a : Expr} {ea : Md.E} {p pos : Pos} (hg : Gl X "range") (hm : X.mg "range" = none) (ha : PA X [a] (tA G ea)) (hs : noStar a = true) (hl : alen ea = some 1) : PI X tg (.Call (.Name "range" p) [a] [] pos) (tI G (.rng ea)) :=
  (pi_range1 hg hm ha (star_ok hs)).imp fun σ H Q ⟨F, μ, ρ, s, d, s', items, R, E, h, hi, k⟩ => by
    obtain ⟨ds, h1, h2, rfl⟩ := rng_rd h hi
    have hn := alen_ok hl h1
    refine ⟨F, μ, ρ, s, ds, s', R, E, h1, fun vs H1 μ1 X1 R1 V1 => ?_⟩
    unfold Md.rngOf at h2
    split at h2
    · split at h2
      · rename_i n hc
        cases h2
        have e := one_int V1
        obtain ⟨b1, b2⟩ := small62 hc.1 hc.2
        exact ⟨n, e, b1, b2, k _ H1 μ1 X1 R1 jok_rng (by rw [rngI_len]; exact capLine (by unfold Md.cap; omega))⟩
      · cases h2
    · simp at hn
    · simp at hn
    · cases h2
theorem ints_vrs {F : Fo} {μ : List Addr} {H : Hp} {ns : List Int} {ds : List Md.D} {vs : List V} (e : ds = ns.map .int) (h : VRs F μ H ds vs) : vs = ns.map V.int := by subst e; exact h.ints
theorem i_rng2 (C : XC G N sc fn X) {tg a b : Expr} {ea : Md.E} {p pos : Pos} (hg : Gl X "range") (hm : X.mg "range" = none) (ha : PA X [a, b] (tA G ea)) (hs : noStar a = true) (hs2 : noStar b = true) (hl : alen ea = some 2) : PI X tg (.Call (.Name "range" p) [a, b] [] pos) (tI G (.rng ea)) :=
  (pi_range2 hg hm ha (by rw [star_ok hs, star_ok hs2]; rfl) (star_ok hs2)).imp fun σ H Q ⟨F, μ, ρ, s, d, s', items, R, E, h, hi, k⟩ => by
    obtain ⟨ds, h1, h2, rfl⟩ := rng_rd h hi
    have hn := alen_ok hl h1
    refine ⟨F, μ, ρ, s, ds, s', R, E, h1, fun vs H1 μ1 X1 R1 V1 => ?_⟩
    unfold Md.rngOf at h2
    split at h2
    · simp at hn
    · split at h2
      · rename_i i j hc
        cases h2
        have e := ints_vrs (ns := [i, j]) rfl V1
        exact ⟨i, j, e, by omega, k _ H1 μ1 X1 R1 jok_rng (by rw [rngI_len]; exact capLine (by unfold Md.cap; omega))⟩
      · cases h2
    · simp at hn
    · cases h2
theorem i_rng3 (C : XC G N sc fn X) {tg a b c : Expr} {ea : Md.E} {p pos : Pos} (hg : Gl X "range") (hm : X.mg "range" = none) (ha : PA X [a, b, c] (tA G ea)) (hs : noStar a = true) (hs2 : noStar b = true) (hs3 : noStar c = true) (hl : alen ea = some 3) : PI X tg (.Call (.Name "range" p) [a, b, c] [] pos) (tI G (.rng ea)) :=
  (pi_range3 hg hm ha (star_ok hs) (stars_ok (by simp [hs2, hs3]))).imp fun σ H Q ⟨F, μ, ρ, s, d, s', items, R, E, h, hi, k⟩ => by
    obtain ⟨ds, h1, h2, rfl⟩ := rng_rd h hi
    have hn := alen_ok hl h1
    refine ⟨F, μ, ρ, s, ds, s', R, E, h1, fun vs H1 μ1 X1 R1 V1 => ?_⟩
    unfold Md.rngOf at h2
    split at h2
    · simp at hn
    · simp at hn
    · split at h2
      · rename_i i j hc
        cases h2
        have e := ints_vrs (ns := [i, j, -1]) rfl V1
        obtain ⟨a1, a2⟩ := small62 (i := i) (by omega) (by omega)
        obtain ⟨b1, b2⟩ := small62 (i := j) (by omega) (by omega)
        exact ⟨i, j, -1, _, e, RgC.neg a1 a2 b1 b2, k _ H1 μ1 X1 R1 jok_rngC (by rw [rngI_len]; exact capLine (by unfold Md.cap; omega))⟩
      · cases h2
    · cases h2
/-! ### enumerate, zip, reversed -/
theorem enmL_get : ∀ (k : Nat) (xs : List Md.D) (i : Nat) (d : Md.D), (Md.enmL k xs)[i]? = some d → ∃ x, xs[i]? = some x ∧ d = .tup [.int (k + i : Nat), x]
  | k, [], i, d, h => by simp [Md.enmL] at h
  | k, x :: xs, 0, d, h => by simp [Md.enmL] at h; exact ⟨x, by simp, by rw [← h]; rfl⟩
  | k, x :: xs, i + 1, d, h => by
    simp only [Md.enmL, List.getElem?_cons_succ] at h ⊢
    obtain ⟨y, h1, h2⟩ := enmL_get (k + 1) xs i d h
    exact ⟨y, h1, by rw [h2, show k + 1 + i = k + (i + 1) by omega]⟩
theorem enmL_len : ∀ (k : Nat) (xs : List Md.D), (Md.enmL k xs).length = xs.length
  | k, [] => rfl
  | k, x :: xs => by simp [Md.enmL, enmL_len]
theorem pair_vr {F : Fo} {μ : List Addr} {H : Hp} {x y : Md.D} {v w : V} {T : Addr} (hT : H T = none) (h1 : VR F μ H x v) (h2 : VR F μ H y w) : VR F μ (upd H T (.tup [v, w])) (.tup [x, y]) (.ref T) := by
  simp only [VR]
  exact ⟨T, _, rfl, upd_same, .cons (h1.mono (Xt.upd hT)) (.one (h2.mono (Xt.upd hT)))⟩
theorem a_one {e : Expr} {ee : Md.E} (he : PE X e (tE G ee)) (hs : noStar e = true) : PA X [e] (tA G (.cons ee .nil)) := a_cons he a_nil (star_ok hs)
/-- what one argument gives -/
theorem one_rd {ee : Md.E} {F : Fo} {μ : List Addr} {H : Hp} {ρ : Md.Env} {σ : L2.St} {s s1 : Md.St} {d : Md.D} {Q : List V → Hp → Prop} (R : RS G.K F μ H s) (E : ER F μ H ρ σ) (h : Md.ev G.Γ G.gl ee ρ s = some (d, s1))
    (k : ∀ v H' μ', Xt μ H μ' H' → RS G.K F μ' H' s1 → VR F μ' H' d v → Q [v] H') : tA G (.cons ee .nil) σ H Q := by
  refine ⟨F, μ, ρ, s, [d], s1, R, E, by simp [Md.ev, h], fun vs H' μ' X' R' V' => ?_⟩
  simp only [VRs] at V'
  obtain ⟨v, r, rfl, h1, rfl⟩ := V'
  exact k v H' μ' X' R' h1
theorem jok_enum {F : Fo} {μ : List Addr} {H : Hp} {ok : Md.St → Bool} {items : List Md.D} {a : Addr} {vs : List V} (f : ∀ F' μ' H', Lt F μ H F' μ' H' → SqL G.K H' a vs ∧ VRs F' μ' H' items vs) : JOk G F μ H ok (Md.enmL 0 items) (Ite G.K a) := by
  refine ⟨fun F' μ' H' s' L R o => ?_, fun i d F' μ' H' s' L R o e => ?_⟩
  · obtain ⟨h1, h2⟩ := f F' μ' H' L
    exact ⟨vs, h1, by rw [enmL_len, h2.len]; exact Nat.le_refl _⟩
  · obtain ⟨h1, h2⟩ := f F' μ' H' L
    obtain ⟨x, e1, rfl⟩ := enmL_get _ _ _ _ e
    obtain ⟨v, h3, h4⟩ := h2.get e1
    refine ⟨⟨vs, v, h1, h3⟩, fun x' H'' y => ?_⟩
    obtain ⟨T, w, rfl, hT, rfl, y⟩ := y
    have := y vs h1
    rw [h3] at this
    cases this
    exact ⟨Xt.upd hT, R.upd hT, by rw [Nat.zero_add]; exact pair_vr hT (by simp only [VR]) h4⟩
theorem jok_enumT {F : Fo} {μ : List Addr} {H : Hp} {ok : Md.St → Bool} {items : List Md.D} {a : Addr} {vs : List V} (f : ∀ F' μ' H', Lt F μ H F' μ' H' → SqT G.K H' a vs ∧ VRs F' μ' H' items vs) : JOk G F μ H ok (Md.enmL 0 items) (En.IteT G.K a) := by
  refine ⟨fun F' μ' H' s' L R o => ?_, fun i d F' μ' H' s' L R o e => ?_⟩
  · obtain ⟨h1, h2⟩ := f F' μ' H' L
    exact ⟨vs, h1, by rw [enmL_len, h2.len]⟩
  · obtain ⟨h1, h2⟩ := f F' μ' H' L
    obtain ⟨x, e1, rfl⟩ := enmL_get _ _ _ _ e
    obtain ⟨v, h3, h4⟩ := h2.get e1
    refine ⟨⟨vs, v, h1, h3⟩, fun x' H'' y => ?_⟩
    obtain ⟨T, w, rfl, hT, rfl, y⟩ := y
    have := y vs h1
    rw [h3] at this
    cases this
    exact ⟨Xt.upd hT, R.upd hT, by rw [Nat.zero_add]; exact pair_vr hT (by simp only [VR]) h4⟩
theorem at_val {F : Fo} {μ : List Addr} {H : Hp} {ds : List Md.D} {v : V} (r : VR F μ H (.lst ds) v) : ∃ a vs, v = .ref a ∧ SqL G.K H a vs ∧ VRs F μ H ds vs ∧ ∀ F' μ' H', Lt F μ H F' μ' H' → SqL G.K H' a vs ∧ VRs F' μ' H' ds vs := by
  simp only [VR] at r
  obtain ⟨a, vs, rfl, hr, nm, nf, hv⟩ := r
  exact ⟨a, vs, rfl, .of hr, hv, fun F' μ' H' L => ⟨.of (L.at hr nm nf).1, hv.later L⟩⟩
theorem i_enm (C : XC G N sc fn X) {elts : List Expr} {kk : Nat} {tpos : Pos} {e : Expr} {ee : Md.E} {p pos : Pos} (hg : Gl X "enumerate") (hm : X.mg "enumerate" = none) (he : PE X e (tE G ee)) (hs : noStar e = true) : PI X (.Tuple elts kk tpos) (.Call (.Name "enumerate" p) [e] [] pos) (tI G (.enm ee)) :=
  (En.pi_enumA hg hm (a_one he hs) (star_ok hs)).imp fun σ H Q ⟨F, μ, ρ, s, d, s', items, R, E, h, hi, k⟩ => by
    simp only [Md.ev] at h
    obtain ⟨x, s1, h1, h⟩ := bnd_inv h
    simp only [Option.map_eq_some_iff] at h
    obtain ⟨xs, h2, h3⟩ := h
    cases h3
    simp only [Md.seqOf, Md.lstOf, Option.some.injEq] at hi
    subst hi
    refine one_rd R E h1 fun v H1 μ1 X1 R1 V1 => ?_
    rw [C.hK]
    cases x <;> simp only [Md.valOf, Option.some.injEq, reduceCtorEq] at h2
    · subst h2
      obtain ⟨a, vs, rfl, hq, hv, f⟩ := at_tup (G := G) V1
      exact ⟨a, vs, rfl, .inr ⟨hq, fun hz => k _ H1 μ1 X1 R1 (jok_enumT f) (by rw [enmL_len, hv.len]; exact hz)⟩⟩
    · subst h2
      obtain ⟨a, vs, rfl, hq, hv, f⟩ := at_val (G := G) V1
      exact ⟨a, vs, rfl, .inl ⟨hq, fun hz => k _ H1 μ1 X1 R1 (jok_enum f) (by rw [enmL_len, hv.len]; exact hz)⟩⟩
theorem zipL_get : ∀ (xs ys : List Md.D) (i : Nat) (d : Md.D), (Md.zipL xs ys)[i]? = some d → ∃ x y, xs[i]? = some x ∧ ys[i]? = some y ∧ d = .tup [x, y]
  | [], ys, i, d, h => by simp [Md.zipL] at h
  | x :: xs, [], i, d, h => by simp [Md.zipL] at h
  | x :: xs, y :: ys, 0, d, h => by simp [Md.zipL] at h; exact ⟨x, y, by simp, by simp, h.symm⟩
  | x :: xs, y :: ys, i + 1, d, h => by
    simp only [Md.zipL, List.getElem?_cons_succ] at h ⊢
    exact zipL_get xs ys i d h
theorem zipL_len : ∀ (xs ys : List Md.D), (Md.zipL xs ys).length ≤ xs.length ∧ (xs.length ≤ (Md.zipL xs ys).length ∨ ys.length ≤ (Md.zipL xs ys).length)
  | [], ys => by simp [Md.zipL]
  | x :: xs, [] => by simp [Md.zipL]
  | x :: xs, y :: ys => by
    have := zipL_len xs ys
    simp only [Md.zipL, List.length_cons]
    omega
theorem jok_zip {F : Fo} {μ : List Addr} {H : Hp} {ok : Md.St → Bool} {xs ys : List Md.D} {a b : Addr} {vs us : List V} (f : ∀ F' μ' H', Lt F μ H F' μ' H' → SqL G.K H' a vs ∧ VRs F' μ' H' xs vs) (g : ∀ F' μ' H', Lt F μ H F' μ' H' → SqL G.K H' b us ∧ VRs F' μ' H' ys us) : JOk G F μ H ok (Md.zipL xs ys) (Itz G.K a b) := by
  refine ⟨fun F' μ' H' s' L R o => ?_, fun i d F' μ' H' s' L R o e => ?_⟩
  · obtain ⟨h1, h2⟩ := f F' μ' H' L
    obtain ⟨g1, g2⟩ := g F' μ' H' L
    exact ⟨vs, us, h1, g1, by rw [← h2.len, ← g2.len]; exact (zipL_len xs ys).2⟩
  · obtain ⟨h1, h2⟩ := f F' μ' H' L
    obtain ⟨g1, g2⟩ := g F' μ' H' L
    obtain ⟨x, y, e1, e2, rfl⟩ := zipL_get _ _ _ _ e
    obtain ⟨v, h3, h4⟩ := h2.get e1
    obtain ⟨u, g3, g4⟩ := g2.get e2
    refine ⟨⟨vs, us, v, u, h1, g1, h3, g3⟩, fun x' H'' y => ?_⟩
    obtain ⟨T, w1, w2, rfl, hT, rfl, y1, y2⟩ := y
    have z1 := y1 vs h1
    have z2 := y2 us g1
    rw [h3] at z1
    rw [g3] at z2
    cases z1; cases z2
    exact ⟨Xt.upd hT, R.upd hT, pair_vr hT h4 g4⟩
theorem jok_zipT {F : Fo} {μ : List Addr} {H : Hp} {ok : Md.St → Bool} {xs ys : List Md.D} {a b : Addr} {vs us : List V} (f : ∀ F' μ' H', Lt F μ H F' μ' H' → SqT G.K H' a vs ∧ VRs F' μ' H' xs vs) (g : ∀ F' μ' H', Lt F μ H F' μ' H' → SqT G.K H' b us ∧ VRs F' μ' H' ys us) : JOk G F μ H ok (Md.zipL xs ys) (RZ.ItzT G.K a b) := by
  refine ⟨fun F' μ' H' s' L R o => ?_, fun i d F' μ' H' s' L R o e => ?_⟩
  · obtain ⟨h1, h2⟩ := f F' μ' H' L
    obtain ⟨g1, g2⟩ := g F' μ' H' L
    exact ⟨vs, us, h1, g1, by rw [← h2.len, ← g2.len]; exact (zipL_len xs ys).2⟩
  · obtain ⟨h1, h2⟩ := f F' μ' H' L
    obtain ⟨g1, g2⟩ := g F' μ' H' L
    obtain ⟨x, y, e1, e2, rfl⟩ := zipL_get _ _ _ _ e
    obtain ⟨v, h3, h4⟩ := h2.get e1
    obtain ⟨u, g3, g4⟩ := g2.get e2
    refine ⟨⟨vs, us, v, u, h1, g1, h3, g3⟩, fun x' H'' y => ?_⟩
    obtain ⟨T, w1, w2, rfl, hT, rfl, y1, y2⟩ := y
    have z1 := y1 vs h1
    have z2 := y2 us g1
    rw [h3] at z1
    rw [g3] at z2
    cases z1; cases z2
    exact ⟨Xt.upd hT, R.upd hT, pair_vr hT h4 g4⟩
theorem i_zip (C : XC G N sc fn X) {elts : List Expr} {kk : Nat} {tpos : Pos} {e e2 : Expr} {ee ee2 : Md.E} {p pos : Pos} (hg : Gl X "zip") (hm : X.mg "zip" = none) (he : PE X e (tE G ee)) (he2 : PE X e2 (tE G ee2)) (hs : noStar e = true) (hs2 : noStar e2 = true) :
    PI X (.Tuple elts kk tpos) (.Call (.Name "zip" p) [e, e2] [] pos) (tI G (.zip ee ee2)) :=
  (RZ.pi_zipA hg hm (a_cons he (a_one he2 hs2) (star_ok hs)) (star_ok hs) (stars_ok (by simp [hs2]))).imp fun σ H Q ⟨F, μ, ρ, s, d, s', items, R, E, h, hi, k⟩ => by
    simp only [Md.ev] at h
    obtain ⟨x, s1, h1, h⟩ := bnd_inv h
    obtain ⟨y, s2, h2, h⟩ := bnd_inv h
    refine ⟨F, μ, ρ, s, [x, y], s2, R, E, by simp [Md.ev, h1, h2], fun vs H1 μ1 X1 R1 V1 => ?_⟩
    simp only [VRs] at V1
    obtain ⟨v, r, rfl, v1, u, r2, rfl, v2, rfl⟩ := V1
    rw [C.hK]
    split at h
    · split at h
      · rename_i hc
        cases h
        simp only [Md.seqOf, Md.lstOf, Option.some.injEq] at hi
        subst hi
        obtain ⟨a, vs, rfl, hq, hv, f⟩ := at_tup (G := G) v1
        obtain ⟨b, us, rfl, hq2, hv2, g⟩ := at_tup (G := G) v2
        exact ⟨a, b, vs, us, rfl, .inr ⟨hq, hq2, k _ H1 μ1 X1 R1 (jok_zipT f g) (Nat.le_trans (zipL_len _ _).1 (capLine hc))⟩⟩
      · cases h
    · split at h
      · rename_i hc
        cases h
        simp only [Md.seqOf, Md.lstOf, Option.some.injEq] at hi
        subst hi
        obtain ⟨a, vs, rfl, hq, hv, f⟩ := at_val (G := G) v1
        obtain ⟨b, us, rfl, hq2, hv2, g⟩ := at_val (G := G) v2
        exact ⟨a, b, vs, us, rfl, .inl ⟨hq, hq2, k _ H1 μ1 X1 R1 (jok_zip f g) (Nat.le_trans (zipL_len _ _).1 (capLine hc))⟩⟩
      · cases h
    · cases h
end
end Sn
end
section
set_option maxRecDepth 100000
/-! Snd8: targets; comprehensions. -/
namespace Sn
open PySem PySem.Spec PyProof.Rows L2
/-! ### targets -/
structure Off (is : List Nat) (σ σ' : L2.St) : Prop where
  len : σ'.length = σ.length
  off : ∀ i, i ∉ is → σ'[i]? = σ[i]?
theorem Off.refl {is : List Nat} {σ : L2.St} : Off is σ σ := ⟨rfl, fun _ _ => rfl⟩
theorem Off.trans {is js : List Nat} {σ σ' σ'' : L2.St} (a : Off is σ σ') (b : Off js σ' σ'') : Off (is ++ js) σ σ'' := ⟨b.len.trans a.len, fun i h => by
  rw [b.off i fun z => h (List.mem_append_right _ z), a.off i fun z => h (List.mem_append_left _ z)]⟩
theorem wipe_at {σ : L2.St} {i : Nat} : ∀ {vs : List Nat}, i ∈ vs → (L2.wipe σ vs)[i]? = if i < σ.length then some none else none
  | v :: vs, h => by
    simp only [L2.wipe]
    by_cases e : v = i
    · subst e
      by_cases hl : v < σ.length
      · rw [if_pos hl, List.getElem?_set_self (by rw [L2.wipe_length]; exact hl)]
      · rw [if_neg hl, List.getElem?_eq_none (by rw [List.length_set, L2.wipe_length]; omega)]
    · rw [List.getElem?_set_ne e]
      rcases List.mem_cons.mp h with h | h
      · exact absurd h.symm e
      · exact wipe_at h
theorem Off.wipe {is vs : List Nat} {σ σ' : L2.St} (o : Off is σ σ') (h : ∀ i ∈ is, i ∈ vs) : L2.wipe σ' vs = L2.wipe σ vs := by
  apply List.ext_getElem?
  intro i
  by_cases hi : i ∈ vs
  · rw [wipe_at hi, wipe_at hi, o.len]
  · rw [L2.wipe_out hi, L2.wipe_out hi]
    exact o.off i fun z => hi (h i z)
theorem wipe_wipe {σ : L2.St} {vs : List Nat} : L2.wipe (L2.wipe σ vs) vs = L2.wipe σ vs := by
  apply List.ext_getElem?
  intro i
  by_cases hi : i ∈ vs
  · rw [wipe_at hi, wipe_at hi, L2.wipe_length]
  · rw [L2.wipe_out hi]
section
variable (G : Gv)
def tG (g : Md.G) : TG := fun v σ H Q => ∃ F μ ρ s d ρ', RS G.K F μ H s ∧ ER F μ H ρ σ ∧ VR F μ H d v ∧ Md.bindG g d ρ = some ρ' ∧ ∀ σ', ER F μ H ρ' σ' → Off (Md.slots g) σ σ' → Q σ' H
def tGs (g : Md.G) : TGs := fun vs σ H Q => ∃ F μ ρ s ds ρ', RS G.K F μ H s ∧ ER F μ H ρ σ ∧ VRs F μ H ds vs ∧ Md.bindG g (.tup ds) ρ = some ρ' ∧ ∀ σ', ER F μ H ρ' σ' → Off (Md.slots g) σ σ' → Q σ' H
end
theorem _root_.L2.PG.imp {X : Cx} {e : Expr} {t t' : TG} (h : PG X e t) (f : ∀ v σ H Q, t' v σ H Q → t v σ H Q) : PG X e t' := ⟨fun pins s σ H v u Q I r q => h.run pins s σ H v u Q I r (f v σ H Q q)⟩
theorem _root_.L2.PGs.imp {X : Cx} {e : List Expr} {t t' : TGs} (h : PGs X e t) (f : ∀ v σ H Q, t' v σ H Q → t v σ H Q) : PGs X e t' := ⟨fun pins s σ H v u Q I r q => h.run pins s σ H v u Q I r (f v σ H Q q)⟩
def glen : Md.G → Option Nat
  | .nil => some 0
  | .cons _ r => (glen r).map (· + 1)
  | _ => none
theorem glen_ok : ∀ {g : Md.G} {n : Nat} {ds : List Md.D} {ρ ρ' : Md.Env}, glen g = some n → Md.bindG g (.tup ds) ρ = some ρ' → ds.length = n
  | .nil, n, ds, ρ, ρ', h, e => by
    simp only [glen, Option.some.injEq] at h
    cases ds with
    | nil => exact h
    | cons d ds => simp [Md.bindG] at e
  | .cons a r, n, ds, ρ, ρ', h, e => by
    simp only [glen, Option.map_eq_some_iff] at h
    obtain ⟨m, h1, h2⟩ := h
    cases ds with
    | nil => simp [Md.bindG] at e
    | cons d ds =>
      simp only [Md.bindG] at e
      split at e
      · rw [List.length_cons, glen_ok h1 e, h2]
      · cases e
section
variable {G : Gv} {N : List Str} {sc : Scope} {fn : Str → Bool} {X : Cx}
theorem g_name {i : Nat} {x : Str} {pos : Pos} (hN : X.N.Nodup) (hi : X.N[i]? = some x) (hx : Loc X.env.scope x) (hf : X.fn x = true ∨ X.env.scope.names.lookup x = some .local) : PG X (.Name x pos) (tG G (.v i)) :=
  (pg_name hN hi hx hf).imp fun v σ H Q ⟨F, μ, ρ, s, d, ρ', R, E, V, h, k⟩ => by
    simp only [Md.bindG] at h
    split at h
    · cases h
      refine k _ (E.set V i) ⟨by simp, fun j hj => ?_⟩
      rw [List.getElem?_set_ne]
      intro e
      exact hj (by simp [Md.slots, e])
    · cases h
theorem g_nil : PGs X [] (tGs G .nil) := pgs_nil.imp fun vs σ H Q ⟨F, μ, ρ, s, ds, ρ', R, E, V, h, k⟩ => by
  cases ds with
  | nil =>
    simp only [Md.bindG, Option.some.injEq] at h
    subst h
    simp only [VRs] at V
    exact ⟨V, k σ E Off.refl⟩
  | cons d ds => simp [Md.bindG] at h
theorem aeach_ok {e : Expr} {es : List Expr} {env : Env} (h : noStar e = true) : assignEach (e :: es) env = (false, assign e env) :: assignEach es env := by
  cases e with
  | Starred _ _ => simp [noStar] at h
  | _ => rfl
theorem g_cons {e : Expr} {es : List Expr} {a r : Md.G} (ha : PG X e (tG G a)) (hr : PGs X es (tGs G r)) (hs : noStar e = true) : PGs X (e :: es) (tGs G (.cons a r)) :=
  (pgs_cons ha hr (by rw [aeach_ok hs]; rfl)).imp fun vs σ H Q ⟨F, μ, ρ, s, ds, ρ', R, E, V, h, k⟩ => by
    cases ds with
    | nil => simp [Md.bindG] at h
    | cons d ds =>
      simp only [VRs] at V
      obtain ⟨v, t, rfl, v1, v2⟩ := V
      simp only [Md.bindG] at h
      split at h
      · rename_i ρ1 e1
        refine ⟨v, t, rfl, F, μ, ρ, s, d, ρ1, R, E, v1, e1, fun σ1 E1 o1 => ?_⟩
        refine ⟨F, μ, ρ1, s, ds, ρ', R, E1, v2, h, fun σ2 E2 o2 => k σ2 E2 ?_⟩
        simp only [Md.slots]
        exact o1.trans o2
      · cases h
theorem aeach_len {env : Env} : ∀ {es : List Expr}, es.all noStar = true → (assignEach es env).length = es.length ∧ (assignEach es env).findIdx? (·.1) = none
  | [], _ => ⟨rfl, rfl⟩
  | e :: es, h => by
    rw [List.all_cons, Bool.and_eq_true] at h
    obtain ⟨h1, h2⟩ := aeach_len (env := env) h.2
    rw [aeach_ok h.1]
    refine ⟨by simp [h1], ?_⟩
    rw [List.findIdx?_cons, h2]
    rfl
theorem g_tup (C : XC G N sc fn X) {es : List Expr} {g : Md.G} {k : Nat} {pos : Pos} (h : PGs X es (tGs G g)) (hs : es.all noStar = true) (hl : glen g = some es.length) : PG X (.Tuple es k pos) (tG G (.t g)) :=
  (pg_tup (n := es.length) C.calm h (aeach_len hs).1 (aeach_len hs).2).imp fun v σ H Q ⟨F, μ, ρ, s, d, ρ', R, E, V, h, k⟩ => by
    cases d with
    | tup ds =>
      simp only [Md.bindG] at h
      obtain ⟨a, vs, rfl, h1, h2⟩ := tup_at V
      refine ⟨a, vs, rfl, .of h1, ?_, F, μ, ρ, s, ds, ρ', R, E, h2, h, fun σ' E' o => k σ' E' (by simpa only [Md.slots] using o)⟩
      rw [← h2.len]
      exact glen_ok hl h
    | _ => simp [Md.bindG] at h
end
/-! ### the list that grows -/
def own (F : Fo) (D : Addr) : Fo := ⟨fun a => F a ∨ a = D, F.K⟩
theorem own_me {F : Fo} {D : Addr} : (own F D) D := .inr rfl
section
variable {K : PySem.W.Frag} {F : Fo} {μ μ' : List Addr} {H H' : Hp} {D : Addr}
theorem claim_lt {o : HO} (hD : H D = none) : Lt F μ H (own F D) μ (L2.upd H D o) := (Xt.upd hD).lt fun a h => by
  rcases h with h | h
  · exact .inl h
  · exact .inr (h ▸ hD)
theorem RS.claim {s : Md.St} {o : HO} (R : RS K F μ H s) (hD : H D = none) : RS K (own F D) μ (L2.upd H D o) s :=
  ⟨R.len, R.nd, fun n ob a h1 h2 => (R.ob n ob a h1 h2).later (claim_lt hD) (upd_ne fun e => R.fresh hD (e ▸ List.mem_of_getElem? h2)), fun a h => by
    rcases h with h | h
    · obtain ⟨u, hu⟩ := R.ff a h
      exact ⟨u, by rw [upd_ne (ne_of_none hu hD)]; exact hu⟩
    · exact ⟨o, by rw [h]; exact upd_same⟩, R.kk⟩
mutual
theorem VR.poke' {o : HO} (hD : ∀ vs, H D ≠ some (.tup vs)) (fD : F D) : ∀ {d : Md.D} {v : V}, VR F μ H d v → VR F μ (L2.upd H D o) d v
  | .non, v, h => by simp only [VR] at h ⊢; exact h
  | .bl b, v, h => by simp only [VR] at h ⊢; exact h
  | .int i, v, h => by simp only [VR] at h ⊢; exact h
  | .str i, v, h => by simp only [VR] at h ⊢; exact h
  | .tup ds, v, h => by
    simp only [VR] at h ⊢
    obtain ⟨a, vs, e, hs, hv⟩ := h
    have ne : a ≠ D := fun z => hD _ (z ▸ hs)
    exact ⟨a, vs, e, by rw [upd_ne ne]; exact hs, VRs.poke' hD fD hv⟩
  | .lst ds, v, h => by
    simp only [VR] at h ⊢
    obtain ⟨a, vs, e, hs, nm, nf, hv⟩ := h
    have ne : a ≠ D := fun z => nf (z ▸ fD)
    exact ⟨a, vs, e, by rw [upd_ne ne]; exact hs, nm, nf, VRs.poke' hD fD hv⟩
  | .scr ns, v, h => by
    simp only [VR] at h ⊢
    obtain ⟨a, e, h⟩ := h
    refine ⟨a, e, ?_⟩
    rcases h with ⟨u, hs, nm, nf⟩ | h
    · have ne : a ≠ D := fun z => nf (z ▸ fD)
      exact .inl ⟨u, by rw [upd_ne ne]; exact hs, nm, nf⟩
    · exact .inr h
  | .ref n, v, h => by simp only [VR] at h ⊢; exact h
theorem VRs.poke' {o : HO} (hD : ∀ vs, H D ≠ some (.tup vs)) (fD : F D) : ∀ {ds : List Md.D} {vs : List V}, VRs F μ H ds vs → VRs F μ (L2.upd H D o) ds vs
  | [], vs, h => by simp only [VRs] at h ⊢; exact h
  | d :: ds, vs, h => by
    simp only [VRs] at h ⊢
    obtain ⟨v, r, e, h1, h2⟩ := h
    exact ⟨v, r, e, VR.poke' hD fD h1, VRs.poke' hD fD h2⟩
end
theorem KR.poke' {κ : Type} {o : HO} (hD : ∀ vs, H D ≠ some (.tup vs)) (fD : F D) : ∀ {kvs : List (κ × Md.D)} {us : List (κ × V)}, KR F μ H kvs us → KR F μ (L2.upd H D o) kvs us
  | [], us, h => by simp only [KR] at h ⊢; exact h
  | (k, d) :: r, us, h => by
    simp only [KR] at h ⊢
    obtain ⟨v, t, e, h1, h2⟩ := h
    exact ⟨v, t, e, h1.poke' hD fD, KR.poke' hD fD h2⟩
theorem OR.poke' {o : HO} (hD : ∀ vs, H D ≠ some (.tup vs)) (fD : F D) {a : Addr} (ne : a ≠ D) {ob : Md.O} (h : OR K F μ H a ob) : OR K F μ (L2.upd H D o) a ob := by
  cases ob with
  | lst ds => obtain ⟨vs, h1, h2⟩ := h; exact ⟨vs, by rw [upd_ne ne]; exact h1, h2.poke' hD fD⟩
  | dk ds => obtain ⟨vs, h1, h2⟩ := h; exact ⟨vs, by rw [upd_ne ne]; exact h1, h2.poke' hD fD⟩
  | dt ds => obtain ⟨vs, h1, h2⟩ := h; exact ⟨vs, by rw [upd_ne ne]; exact h1, h2.poke' hD fD⟩
  | ins c fs => obtain ⟨dx, us, h1, h2⟩ := h; exact ⟨dx, us, by rw [upd_ne ne]; exact h1, h2.poke' hD fD⟩
theorem RS.poke' {s : Md.St} {o : HO} (R : RS K F μ H s) (hD : ∀ vs, H D ≠ some (.tup vs)) (fD : F D) (nD : D ∉ μ) : RS K F μ (L2.upd H D o) s :=
  ⟨R.len, R.nd, fun n ob a h1 h2 => (R.ob n ob a h1 h2).poke' hD fD (fun e => nD (e ▸ List.mem_of_getElem? h2)), fun a h => by
    by_cases e : a = D
    · exact ⟨o, by rw [e]; exact upd_same⟩
    · obtain ⟨u, hu⟩ := R.ff a h
      exact ⟨u, by rw [upd_ne e]; exact hu⟩, R.kk⟩
theorem lst_nt {xs : List V} (h : H D = some (.lst xs)) : ∀ vs, H D ≠ some (.tup vs) := fun vs z => by rw [h] at z; cases z
theorem VR.poke {xs : List V} {o : HO} (hD : H D = some (.lst xs)) (fD : F D) {d : Md.D} {v : V} (h : VR F μ H d v) : VR F μ (L2.upd H D o) d v := h.poke' (lst_nt hD) fD
theorem VRs.poke {xs : List V} {o : HO} (hD : H D = some (.lst xs)) (fD : F D) {d : List Md.D} {v : List V} (h : VRs F μ H d v) : VRs F μ (L2.upd H D o) d v := h.poke' (lst_nt hD) fD
theorem RS.poke {s : Md.St} {xs : List V} {o : HO} (R : RS K F μ H s) (hD : H D = some (.lst xs)) (fD : F D) (nD : D ∉ μ) : RS K F μ (L2.upd H D o) s := R.poke' (lst_nt hD) fD nD
theorem Xt.poke {o : HO} (x : Xt μ H μ' H') (hD : H D = none) : Xt μ H μ' (L2.upd H' D o) :=
  ⟨x.pre, fun a u e n => by rw [upd_ne (ne_of_none e hD)]; exact x.keep a u e n, x.new, fun a vs e => by rw [upd_ne (ne_of_none e hD)]; exact x.tup a vs e⟩
theorem Lt.poke {F' : Fo} {o : HO} {xs : List V} (L : Lt F μ H F' μ' H') (fD : F D) (hD : H D = some (.lst xs)) : Lt F μ H F' μ' (L2.upd H' D o) :=
  ⟨L.pre, fun a u e n nf => by
    have ne : a ≠ D := fun z => nf (by rw [z]; exact fD)
    rw [upd_ne ne]; exact L.keep a u e n nf, L.new, fun a vs e => by
    have ne : a ≠ D := fun z => by rw [z, hD] at e; cases e
    rw [upd_ne ne]; exact L.tup a vs e, L.fr, L.kk⟩
/-- what is not there later was not there -/
theorem Xt.none_of {s : Md.St} (x : Xt μ H μ' H') (R : RS K F μ' H' s) (hD : H' D = none) : H D = none := by
  cases e : H D with
  | none => rfl
  | some o =>
    by_cases hm : D ∈ μ
    · obtain ⟨t, rfl⟩ := x.pre
      exact absurd (List.mem_append_left _ hm) (R.fresh hD)
    · rw [x.keep D o e hm] at hD; cases hD
theorem Xt.not_mem (x : Xt μ H μ' H') (n : D ∉ μ) {o : HO} (e : H D = some o) : D ∉ μ' := fun h => by
  rcases x.new D h with h | h
  · exact n h
  · rw [e] at h; cases h
theorem own_back : ∀ a u, H a = some u → a ∉ μ → ¬ own F D a → a ∉ μ ∧ ¬ F a := fun a vs _ h1 h2 => ⟨h1, fun z => h2 (.inl z)⟩
theorem own_back' : ∀ a u, H a = some u → a ∉ μ → ¬ own F D a → a ∉ μ ++ [D] ∧ ¬ F a := fun a vs _ h1 h2 => ⟨fun z => by
  rcases List.mem_append.mp z with z | z
  · exact h1 z
  · rw [List.mem_singleton] at z; exact h2 (.inr z), fun z => h2 (.inl z)⟩
end
/-- a foreign object becomes one of the store -/
theorem RS.adopt {K : PySem.W.Frag} {F : Fo} {D : Addr} {μ : List Addr} {H : Hp} {s : Md.St} {ob : Md.O} (R : RS K (own F D) μ H s) (nD : D ∉ μ) (ho : OR K F (μ ++ [D]) H D ob) : RS K F (μ ++ [D]) H (s ++ [ob]) := by
  refine ⟨by simp [R.len], ?_, fun n u a h1 h2 => ?_, fun a z => R.ff a (.inl z), R.kk⟩
  · rw [List.nodup_append]
    refine ⟨R.nd, by simp, fun a ha b hb => ?_⟩
    rw [List.mem_singleton] at hb
    subst hb
    exact fun e => nD (e ▸ ha)
  · by_cases hn : n < s.length
    · rw [List.getElem?_append_left hn] at h1
      rw [List.getElem?_append_left (by rw [R.len]; exact hn)] at h2
      exact (R.ob n u a h1 h2).foreign own_back' rfl ⟨[D], rfl⟩
    · have e : n = s.length := by
        have := (List.getElem?_eq_some_iff.mp h1).1
        simp at this; omega
      subst e
      rw [List.getElem?_concat_length] at h1
      rw [← R.len, List.getElem?_concat_length] at h2
      cases h1; cases h2
      exact ho
theorem Xt.adopt {D : Addr} {μ μ' : List Addr} {H H' : Hp} (X : Xt μ H μ' H') (h0 : H D = none) : Xt μ H (μ' ++ [D]) H' := by
  refine ⟨?_, X.keep, fun a h => ?_, X.tup⟩
  · obtain ⟨t, e⟩ := X.pre
    exact ⟨t ++ [D], by rw [e, List.append_assoc]⟩
  · rcases List.mem_append.mp h with h | h
    · exact X.new a h
    · rw [List.mem_singleton] at h; rw [h]; exact .inr h0
section
variable {G : Gv}
theorem KE.fin {F : Fo} {μ μ1 μi : List Addr} {H H1 Hi : Hp} {m : Bool} {ys : List Md.D} {s1 s2 : Md.St} {Q : VK} {D : Addr} {vs : List V} (k : KE G F μ H (Md.mk m ys s2).1 (Md.mk m ys s2).2 Q) (R1 : RS G.K F μ1 H1 s1) (X1 : Xt μ H μ1 H1) (hD : H1 D = none)
    (Xi : Xt μ1 H1 μi Hi) (Ri : RS G.K (own F D) μi Hi s2) (nD : D ∉ μi) (hl : Hi D = some (.lst vs)) (hv : VRs (own F D) μi Hi ys vs) : Q (.ref D) Hi := by
  have nF : ¬ F D := fun z => by obtain ⟨o, e⟩ := R1.ff D z; rw [hD] at e; cases e
  have ffi : ∀ a, F a → ∃ o, Hi a = some o := fun a z => Ri.ff a (.inl z)
  cases m with
  | false =>
    refine k _ Hi μi (X1.trans Xi) (Ri.foreign own_back rfl ffi) ?_
    show VR F μi Hi (.lst ys) (.ref D)
    simp only [VR]
    exact ⟨D, vs, rfl, hl, nD, nF, hv.foreign own_back rfl ⟨[], by simp⟩⟩
  | true =>
    have h0 : H D = none := X1.none_of R1 hD
    have X := X1.trans Xi
    have hv' : VRs F (μi ++ [D]) Hi ys vs := hv.foreign own_back' rfl ⟨[D], rfl⟩
    refine k _ Hi (μi ++ [D]) ⟨?_, X.keep, fun a h => ?_, X.tup⟩ ⟨by simp [Ri.len, Md.mk], ?_, fun n u a h1 h2 => ?_, ffi, R1.kk⟩ ?_
    · obtain ⟨t, e⟩ := X.pre
      exact ⟨t ++ [D], by rw [e, List.append_assoc]⟩
    · rcases List.mem_append.mp h with h | h
      · exact X.new a h
      · rw [List.mem_singleton] at h; rw [h]; exact .inr h0
    · rw [List.nodup_append]
      refine ⟨Ri.nd, by simp, fun a ha b hb => ?_⟩
      rw [List.mem_singleton] at hb
      subst hb
      exact fun e => nD (e ▸ ha)
    · have h1 : (s2 ++ [.lst ys])[n]? = some u := h1
      by_cases hn : n < s2.length
      · rw [List.getElem?_append_left hn] at h1
        rw [List.getElem?_append_left (by rw [Ri.len]; exact hn)] at h2
        exact (Ri.ob n u a h1 h2).foreign own_back' rfl ⟨[D], rfl⟩
      · have e : n = s2.length := by
          have := (List.getElem?_eq_some_iff.mp h1).1
          simp at this; omega
        subst e
        rw [List.getElem?_concat_length] at h1
        rw [← Ri.len, List.getElem?_concat_length] at h2
        cases h1; cases h2
        exact ⟨vs, hl, hv'⟩
    · show VR F (μi ++ [D]) Hi (.ref s2.length) (.ref D)
      simp only [VR]
      exact ⟨D, rfl, by rw [← Ri.len, List.getElem?_concat_length]⟩
theorem stab_now {s : Md.St} {d : Md.D} {items : List Md.D} (h : Md.seqOf s d = some items) : Md.stab d items s = true := by
  cases d with
  | ref n =>
    simp only [Md.seqOf, Md.lstOf] at h
    simp only [Md.stab]
    split at h
    · rename_i xs e
      cases h
      exact Md.eqDs_self _
    · cases h
  | _ => rfl
end
end Sn
end
section
set_option maxRecDepth 100000
/-! Snd9: comprehensions. -/
namespace Sn
open PySem PySem.Spec PyProof.Rows L2
section
variable {G : Gv} {N : List Str} {sc : Scope} {fn : Str → Bool} {X : Cx}
/-- what one turn of a comprehension does -/
def cTurn (Γ : Md.Calls) (gl : Str → Option Md.D) (vs : List Nat) (g : Md.G) (c elt : Md.E) (ρ : Md.Env) (ok : Md.St → Bool) : Md.D → Md.St → Option (Option Md.D × Md.St) := fun d s => match Md.bindG g d (Md.wipeE ρ vs) with
  | some ρ1 => Md.bnd (Md.ev Γ gl c ρ1 s) fun b s => match Md.truth s b with
    | some true => Md.bnd (Md.ev Γ gl elt ρ1 s) fun y s => if ok s then some (some y, s) else none
    | some false => if ok s then some (none, s) else none
    | none => none
  | none => none
theorem comp_inv {m : Bool} {vs : List Nat} {g : Md.G} {it c elt : Md.E} {ρ : Md.Env} {s s' : Md.St} {d : Md.D} (h : Md.ev G.Γ G.gl (.comp m vs g it c elt) ρ s = some (d, s')) :
    ∃ x s1 items ys s2, Md.ev G.Γ G.gl it ρ s = some (x, s1) ∧ Md.seqOf s1 x = some items ∧ Md.compL (cTurn G.Γ G.gl vs g c elt ρ (Md.stab x items)) items s1 = some (ys, s2) ∧ d = (Md.mk m ys s2).1 ∧ s' = (Md.mk m ys s2).2 := by
  simp only [Md.ev] at h
  obtain ⟨x, s1, h1, h⟩ := bnd_inv h
  split at h
  · rename_i items h2
    split at h
    · rename_i ys s2 h3
      exact ⟨x, s1, items, ys, s2, h1, h2, h3, by rw [Option.some.inj h], by rw [Option.some.inj h]⟩
    · cases h
  · cases h
theorem compL_cons {f : Md.D → Md.St → Option (Option Md.D × Md.St)} {x : Md.D} {xs : List Md.D} {s s' : Md.St} {ys : List Md.D} (h : Md.compL f (x :: xs) s = some (ys, s')) : ∃ o s1 zs, f x s = some (o, s1) ∧ Md.compL f xs s1 = some (zs, s') ∧ ys = o.toList ++ zs := by
  simp only [Md.compL] at h
  split at h
  · rename_i o s1 h1
    split at h
    · rename_i zs s2 h2
      cases h
      exact ⟨o, s1, zs, h1, h2, rfl⟩
    · cases h
  · cases h
/-- the state of a comprehension's loop at turn i -/
structure CSt (G : Gv) (F : Fo) (D : Addr) (μ1 : List Addr) (H1 : Hp) (f : Md.D → Md.St → Option (Option Md.D × Md.St)) (ok : Md.St → Bool) (items ys : List Md.D) (s2 : Md.St) (i : Nat) (H : Hp) : Prop where
  ex : ∃ μi si rest acc vs, Md.compL f (items.drop i) si = some (rest, s2) ∧ acc ++ rest = ys ∧ Xt μ1 H1 μi H ∧ RS G.K (own F D) μi H si ∧ H D = some (.lst vs) ∧ VRs (own F D) μi H acc vs ∧ ok si = true ∧ D ∉ μi ∧ acc.length ≤ i
theorem lc_rd {m : Bool} {vs : List Nat} {g : Md.G} {it c elt : Md.E} {σ : L2.St} {H : Hp} {Q : VK} (hs : ∀ i ∈ Md.slots g, i ∈ vs) (h : tE G (.comp m vs g it c elt) σ H Q) : tLc (tI G it) (tG G g) (tT G c) (tE G elt) vs σ H Q := by
  obtain ⟨F, μ, ρ, s, d, s', R, E, h, k⟩ := h
  obtain ⟨x, s1, items, ys, s2, h1, h2, h3, rfl, rfl⟩ := comp_inv h
  refine ⟨F, μ, ρ, s, x, s1, items, R, E, h1, h2, fun J H1 μ1 X1 R1 jok hlen D hD => ?_⟩
  refine ⟨fun i n H' => n = items.length - i ∧ i ≤ items.length ∧ CSt G F D μ1 H1 (cTurn G.Γ G.gl vs g c elt ρ (Md.stab x items)) (Md.stab x items) items ys s2 i H', ⟨_, rfl, Nat.zero_le _, ?_⟩, ?_⟩
  · have nD : D ∉ μ1 := R1.fresh hD
    exact ⟨μ1, s1, ys, [], [], h3, rfl, Xt.upd hD, R1.claim hD, upd_same, by simp only [VRs], stab_now h2, nD, Nat.le_refl _⟩
  · rintro i n H' ⟨rfl, hi, ⟨μi, si, rest, acc, ws, hc, he, Xi, Ri, hl, hv, hok, nD, ha⟩⟩
    have L : Lt F μ1 H1 (own F D) μi H' := Xi.lt fun a z => by
      rcases z with z | z
      · exact .inl z
      · exact .inr (z ▸ hD)
    by_cases hn : i = items.length
    · subst hn
      rw [List.drop_length] at hc
      simp only [Md.compL, Option.some.injEq, Prod.mk.injEq] at hc
      obtain ⟨rfl, rfl⟩ := hc
      rw [List.append_nil] at he
      subst he
      exact .inl ⟨jok.stop _ μi H' si L Ri hok, k.fin R1 X1 hD Xi Ri nD hl hv⟩
    · have hlt : i < items.length := by omega
      rw [List.drop_eq_getElem_cons hlt] at hc
      obtain ⟨o, s3, zs, e1, e2, e3⟩ := compL_cons hc
      have hget : items[i]? = some items[i] := List.getElem?_eq_getElem hlt
      obtain ⟨j1, j2⟩ := jok.go i _ _ μi H' si L Ri hok hget
      refine .inr ⟨j1, fun H'' => CSt G F D μ1 H1 (cTurn G.Γ G.gl vs g c elt ρ (Md.stab x items)) (Md.stab x items) items ys s2 (i + 1) H'', fun H'' w => ⟨_, by omega, rfl, hlt, w⟩, fun xv H2 y => ?_⟩
      obtain ⟨X2, R2, V2⟩ := j2 xv H2 y
      unfold cTurn at e1
      split at e1
      · rename_i ρ1 e4
        have E2 : ER (own F D) μi H2 (Md.wipeE ρ vs) (L2.wipe σ vs) := ((((E.mono X1).later L).mono X2)).wipe vs
        refine ⟨_, μi, _, si, _, ρ1, R2, E2, V2, e4, fun σ2 E3 off => ⟨by rw [off.wipe hs, wipe_wipe], ?_⟩⟩
        obtain ⟨b, s4, e5, e1⟩ := bnd_inv e1
        split at e1
        · rename_i e6
          obtain ⟨yv, s5, e7, e1⟩ := bnd_inv e1
          split at e1
          · rename_i e8
            cases e1
            refine ⟨_, μi, ρ1, si, b, s4, true, R2, E3, e5, e6, fun H3 μ3 X3 R3 => ?_⟩
            refine iteT ⟨_, μ3, ρ1, s4, yv, _, R3, E3.mono X3, e7, fun v H4 μ4 X4 R4 V4 => ?_⟩
            have X24 := X2.trans (X3.trans X4)
            have l4 : H4 D = some (.lst ws) := X24.keep D _ hl nD
            have n4 : D ∉ μ4 := X24.not_mem nD hl
            have hwl : ws.length = acc.length := hv.len.symm
            refine ⟨ws, l4, by omega, ?_⟩
            refine ⟨μ4, _, zs, acc ++ [yv], ws ++ [v], e2, by rw [← he, e3]; simp, (Xi.trans X24).poke hD, R4.poke l4 own_me n4, upd_same, ?_, e8, n4, by simp; omega⟩
            exact ((hv.mono X24).poke l4 own_me).append (.one (V4.poke l4 own_me))
          · cases e1
        · rename_i e6
          split at e1
          · rename_i e8
            cases e1
            refine ⟨_, μi, ρ1, si, b, _, false, R2, E3, e5, e6, fun H3 μ3 X3 R3 => ?_⟩
            have X23 := X2.trans X3
            exact iteF ⟨μ3, _, zs, acc, ws, e2, by rw [← he, e3]; rfl, Xi.trans X23, R3, X23.keep D _ hl nD, hv.mono X23, e8, X23.not_mem nD hl, by omega⟩
          · cases e1
        · cases e1
      · cases e1

/-! ### two clauses -/
def decT (d : Md.D) : List Md.D := match d with
  | .tup ys => ys
  | _ => []
def cTurn2 (Γ : Md.Calls) (gl : Str → Option Md.D) (vs vs1 : List Nat) (g : Md.G) (c : Md.E) (g1 : Md.G) (it1 c1 elt : Md.E) (ρ : Md.Env) (ok : Md.St → Bool) : Md.D → Md.St → Option (Option Md.D × Md.St) := fun d s => match Md.bindG g d (Md.wipeE ρ vs) with
  | some ρ1 => Md.bnd (Md.ev Γ gl c ρ1 s) fun b s => match Md.truth s b with
    | some true => Md.bnd (Md.ev Γ gl it1 ρ1 s) fun x1 s => match Md.seqOf s x1 with
      | some items1 => match Md.compL (cTurn Γ gl vs1 g1 c1 elt ρ1 (Md.stab x1 items1)) items1 s with
        | some (ys, s) => if ok s && decide (ys.length ≤ Md.cap) then some (some (.tup ys), s) else none
        | none => none
      | none => none
    | some false => if ok s then some (none, s) else none
    | none => none
  | none => none
theorem comp2_inv {m : Bool} {vs vs1 : List Nat} {g g1 : Md.G} {it c it1 c1 elt : Md.E} {ρ : Md.Env} {s s' : Md.St} {d : Md.D} (h : Md.ev G.Γ G.gl (.comp2 m vs vs1 g it c g1 it1 c1 elt) ρ s = some (d, s')) :
    ∃ x s1 items yss s2, Md.ev G.Γ G.gl it ρ s = some (x, s1) ∧ Md.seqOf s1 x = some items ∧ Md.compL (cTurn2 G.Γ G.gl vs vs1 g c g1 it1 c1 elt ρ (Md.stab x items)) items s1 = some (yss, s2) ∧ (yss.flatMap decT).length ≤ Md.cap ∧ d = (Md.mk m (yss.flatMap decT) s2).1 ∧ s' = (Md.mk m (yss.flatMap decT) s2).2 := by
  simp only [Md.ev] at h
  obtain ⟨x, s1, h1, h⟩ := bnd_inv h
  split at h
  · rename_i items h2
    split at h
    · rename_i ys s2 h3
      split at h
      · rename_i hc
        exact ⟨x, s1, items, ys, s2, h1, h2, h3, hc, (congrArg Prod.fst (Option.some.inj h)).symm, (congrArg Prod.snd (Option.some.inj h)).symm⟩
      · cases h
    · cases h
  · cases h
structure CSt2 (G : Gv) (F : Fo) (D : Addr) (μ1 : List Addr) (H1 : Hp) (f : Md.D → Md.St → Option (Option Md.D × Md.St)) (ok : Md.St → Bool) (items zs : List Md.D) (s2 : Md.St) (i : Nat) (H : Hp) : Prop where
  ex : ∃ μi si rest acc vs, Md.compL f (items.drop i) si = some (rest, s2) ∧ acc ++ rest.flatMap decT = zs ∧ Xt μ1 H1 μi H ∧ RS G.K (own F D) μi H si ∧ H D = some (.lst vs) ∧ VRs (own F D) μi H acc vs ∧ ok si = true ∧ D ∉ μi
/-- the inner loop: acc ahead, more behind -/
structure CIn (G : Gv) (F : Fo) (D : Addr) (μ1 : List Addr) (H1 : Hp) (μ4 : List Addr) (H4 : Hp) (f : Md.D → Md.St → Option (Option Md.D × Md.St)) (ok : Md.St → Bool) (items acc ys : List Md.D) (s2 : Md.St) (i : Nat) (H : Hp) : Prop where
  ex : ∃ μi si rest iacc vs, Md.compL f (items.drop i) si = some (rest, s2) ∧ iacc ++ rest = ys ∧ Xt μ1 H1 μi H ∧ Lt (own F D) μ4 H4 (own F D) μi H ∧ RS G.K (own F D) μi H si ∧ H D = some (.lst vs) ∧ VRs (own F D) μi H (acc ++ iacc) vs ∧ ok si = true ∧ D ∉ μi
theorem lc2_rd {m : Bool} {vs vs1 : List Nat} {g g1 : Md.G} {it c it1 c1 elt : Md.E} {σ : L2.St} {H : Hp} {Q : VK} (hs : ∀ i ∈ Md.slots g, i ∈ vs) (hs1 : ∀ i ∈ Md.slots g1, i ∈ vs1) (hv : ∀ i ∈ vs1, i ∈ vs) (h : tE G (.comp2 m vs vs1 g it c g1 it1 c1 elt) σ H Q) :
    tLc2 (tI G it) (tG G g) (tT G c) (tI G it1) (tG G g1) (tT G c1) (tE G elt) vs vs1 σ H Q := by
  obtain ⟨F, μ, ρ, s, d, s', R, E, h, k⟩ := h
  obtain ⟨x, s1, items, yss, s2, h1, h2, h3, hcap, rfl, rfl⟩ := comp2_inv h
  generalize hzs : yss.flatMap decT = zs at hcap k
  refine ⟨F, μ, ρ, s, x, s1, items, R, E, h1, h2, fun J H1 μ1 X1 R1 jok hlen D hD => ?_⟩
  generalize hf : cTurn2 G.Γ G.gl vs vs1 g c g1 it1 c1 elt ρ (Md.stab x items) = f at h3
  refine ⟨fun i n H' => n = items.length - i ∧ i ≤ items.length ∧ CSt2 G F D μ1 H1 f (Md.stab x items) items zs s2 i H', ⟨_, rfl, Nat.zero_le _, ?_⟩, ?_⟩
  · have nD : D ∉ μ1 := R1.fresh hD
    exact ⟨μ1, s1, yss, [], [], h3, hzs, Xt.upd hD, R1.claim hD, upd_same, by simp only [VRs], stab_now h2, nD⟩
  · rintro i n H' ⟨rfl, hi, ⟨μi, si, rest, acc, ws, hc, he, Xi, Ri, hl, hv, hok, nD⟩⟩
    have fr : ∀ a, own F D a → F a ∨ H1 a = none := fun a z => by
      rcases z with z | z
      · exact .inl z
      · exact .inr (z ▸ hD)
    have L : Lt F μ1 H1 (own F D) μi H' := Xi.lt fr
    by_cases hn : i = items.length
    · subst hn
      rw [List.drop_length] at hc
      simp only [Md.compL, Option.some.injEq, Prod.mk.injEq] at hc
      obtain ⟨rfl, rfl⟩ := hc
      rw [List.flatMap_nil, List.append_nil] at he
      subst he
      exact .inl ⟨jok.stop _ μi H' si L Ri hok, k.fin R1 X1 hD Xi Ri nD hl hv⟩
    · have hlt : i < items.length := by omega
      rw [List.drop_eq_getElem_cons hlt] at hc
      obtain ⟨o, s3, zs', e1, e2, e3⟩ := compL_cons hc
      have hget : items[i]? = some items[i] := List.getElem?_eq_getElem hlt
      obtain ⟨j1, j2⟩ := jok.go i _ _ μi H' si L Ri hok hget
      refine .inr ⟨j1, fun H'' => CSt2 G F D μ1 H1 f (Md.stab x items) items zs s2 (i + 1) H'', fun H'' w => ⟨_, by omega, rfl, hlt, w⟩, fun xv H2 y => ?_⟩
      obtain ⟨X2, R2, V2⟩ := j2 xv H2 y
      rw [← hf] at e1
      unfold cTurn2 at e1
      split at e1
      · rename_i ρ1 e4
        have E2 : ER (own F D) μi H2 (Md.wipeE ρ vs) (L2.wipe σ vs) := ((((E.mono X1).later L).mono X2)).wipe vs
        refine ⟨_, μi, _, si, _, ρ1, R2, E2, V2, e4, fun σ2 E3 off => ⟨by rw [off.wipe hs, wipe_wipe], ?_⟩⟩
        obtain ⟨b, s4, e5, e1⟩ := bnd_inv e1
        split at e1
        · rename_i e6
          obtain ⟨x1, s5, e7, e1⟩ := bnd_inv e1
          split at e1
          · rename_i items1 e8
            split at e1
            · rename_i ysi s6 e9
              split at e1
              · rename_i e10
                rw [Bool.and_eq_true, decide_eq_true_eq] at e10
                cases e1
                have htot : acc ++ (ysi ++ zs'.flatMap decT) = zs := by rw [← he, e3]; simp [decT]
                refine ⟨_, μi, ρ1, si, b, s4, true, R2, E3, e5, e6, fun H3 μ3 X3 R3 => ?_⟩
                refine iteT ⟨_, μ3, ρ1, s4, x1, s5, items1, R3, E3.mono X3, e7, e8, fun J1 H4 μ4 X4 R4 jok1 hlen1 => ?_⟩
                have X24 := X2.trans (X3.trans X4)
                generalize hf1 : cTurn G.Γ G.gl vs1 g1 c1 elt ρ1 (Md.stab x1 items1) = f1 at e9
                refine ⟨fun j n H' => n = items1.length - j ∧ j ≤ items1.length ∧ CIn G F D μ1 H1 μ4 H4 f1 (Md.stab x1 items1) items1 acc ysi s3 j H', ⟨_, rfl, Nat.zero_le _, ?_⟩, ?_⟩
                · exact ⟨μ4, s5, ysi, [], ws, e9, rfl, Xi.trans X24, Lt.refl, R4, X24.keep D _ hl nD, by rw [List.append_nil]; exact hv.mono X24, stab_now e8, X24.not_mem nD hl⟩
                · rintro j n Hj ⟨rfl, hj, ⟨μj, sj, irest, iacc, us, jc, je, Xj, Lj, Rj, jl, jv, jk, jn⟩⟩
                  by_cases hjn : j = items1.length
                  · subst hjn
                    rw [List.drop_length] at jc
                    simp only [Md.compL, Option.some.injEq, Prod.mk.injEq] at jc
                    obtain ⟨rfl, rfl⟩ := jc
                    rw [List.append_nil] at je
                    subst je
                    exact .inl ⟨jok1.stop _ μj Hj sj Lj Rj jk, μj, sj, zs', acc ++ iacc, us, e2, by rw [List.append_assoc]; exact htot, Xj, Rj, jl, jv, e10.1, jn⟩
                  · have hjt : j < items1.length := by omega
                    rw [List.drop_eq_getElem_cons hjt] at jc
                    obtain ⟨o, s7, zs1, i1, i2, i3⟩ := compL_cons jc
                    obtain ⟨k1, k2⟩ := jok1.go j _ _ μj Hj sj Lj Rj jk (List.getElem?_eq_getElem hjt)
                    refine .inr ⟨k1, fun H'' => CIn G F D μ1 H1 μ4 H4 f1 (Md.stab x1 items1) items1 acc ysi s3 (j + 1) H'', fun H'' w => ⟨_, by omega, rfl, hjt, w⟩, fun xv1 H5 y1 => ?_⟩
                    obtain ⟨X5, R5, V5⟩ := k2 xv1 H5 y1
                    rw [← hf1] at i1
                    unfold cTurn at i1
                    split at i1
                    · rename_i ρ2 i4
                      have E5 : ER (own F D) μj H5 (Md.wipeE ρ1 vs1) (L2.wipe σ2 vs1) := (((E3.mono (X3.trans X4)).later Lj).mono X5).wipe vs1
                      refine ⟨_, μj, _, sj, _, ρ2, R5, E5, V5, i4, fun σ3 E6 off1 => ⟨by rw [off1.wipe hs1, wipe_wipe], ?_⟩⟩
                      obtain ⟨b1, s8, i5, i1⟩ := bnd_inv i1
                      split at i1
                      · rename_i i6
                        obtain ⟨yv, s9, i7, i1⟩ := bnd_inv i1
                        split at i1
                        · rename_i i8
                          cases i1
                          refine ⟨_, μj, ρ2, sj, b1, s8, true, R5, E6, i5, i6, fun H6 μ6 X6 R6 => ?_⟩
                          refine iteT ⟨_, μ6, ρ2, s8, yv, _, R6, E6.mono X6, i7, fun v H7 μ7 X7 R7 V7 => ?_⟩
                          have X57 := X5.trans (X6.trans X7)
                          have l7 : H7 D = some (.lst us) := X57.keep D _ jl jn
                          have n7 : D ∉ μ7 := X57.not_mem jn jl
                          have hlen7 : us.length < Md.cap := by
                            have a1 := jv.len
                            have a2 := congrArg List.length htot
                            rw [← je, i3] at a2
                            simp only [List.length_append, Option.toList, List.length_cons, List.length_nil] at a1 a2
                            omega
                          refine ⟨us, l7, capLt hlen7, ?_⟩
                          refine ⟨μ7, _, zs1, iacc ++ [yv], us ++ [v], i2, by rw [← je, i3]; simp, (Xj.trans X57).poke hD, (Lj.ext X57 fun a z => Rj.ff a z).poke own_me (X24.keep D _ hl nD), R7.poke l7 own_me n7, upd_same, ?_, i8, n7⟩
                          · rw [← List.append_assoc]
                            exact ((jv.mono X57).poke l7 own_me).append (.one (V7.poke l7 own_me))
                        · cases i1
                      · rename_i i6
                        split at i1
                        · rename_i i8
                          cases i1
                          refine ⟨_, μj, ρ2, sj, b1, _, false, R5, E6, i5, i6, fun H6 μ6 X6 R6 => ?_⟩
                          have X56 := X5.trans X6
                          exact iteF ⟨μ6, _, zs1, iacc, us, i2, by rw [← je, i3]; rfl, Xj.trans X56, Lj.ext X56 fun a z => Rj.ff a z, R6, X56.keep D _ jl jn, jv.mono X56, i8, X56.not_mem jn jl⟩
                        · cases i1
                      · cases i1
                    · cases i1
              · cases e1
            · cases e1
          · cases e1
        · rename_i e6
          split at e1
          · rename_i e8
            cases e1
            refine ⟨_, μi, ρ1, si, b, _, false, R2, E3, e5, e6, fun H3 μ3 X3 R3 => ?_⟩
            have X23 := X2.trans X3
            exact iteF ⟨μ3, _, zs', acc, ws, e2, by rw [← he, e3]; rfl, Xi.trans X23, R3, X23.keep D _ hl nD, hv.mono X23, e8, X23.not_mem nD hl⟩
          · cases e1
        · cases e1
      · cases e1
end
end Sn
end
section
set_option maxRecDepth 100000
/-! Snd10: comprehensions as expressions; statements. -/
namespace Sn
open PySem PySem.Spec PyProof.Rows L2
def blkFn (scope : Scope) : Str → Bool := fun x => scope.names.lookup x == some .cell
section
variable {G : Gv} {N : List Str} {sc : Scope} {fn : Str → Bool} {X : Cx}
theorem XC.blk (C : XC G N sc fn X) (s : Shared) (H : Hp) (scope : Scope) (cl : List (Str × Addr)) (c : Addr) (fp : List Addr) : XC G N (relS scope sc) (blkFn scope) (X.blk s H scope (compEnvC scope cl c X.env) fp) :=
  ⟨C.hP, C.hw, C.hK, C.hmg, C.hb, C.hN, C.nd, by rw [← C.hs]; rfl, rfl, C.calm, C.room, rfl⟩
/-- the tests of a clause -/
theorem pts_yes : PTs X [] (tT G .yes) := ⟨fun pins s σ H Q I h => pts_nil.run pins s σ H Q I (by
  obtain ⟨F, μ, ρ, st, d, s', b, R, E, h, ht, k⟩ := h
  simp only [Md.ev, Option.some.injEq, Prod.mk.injEq] at h
  obtain ⟨rfl, rfl⟩ := h
  simp only [Md.truth, Option.some.injEq] at ht
  subst ht
  exact k H μ Xt.refl R)⟩
def noSet : Expr → Bool
  | .Set _ _ _ => false
  | _ => true
theorem noSet_ok {e : Expr} {env : Env} (h : noSet e = true) : ∀ x, foldedSetIterable e env x = pure x := fun x => by
  cases e with
  | Set _ _ _ => simp [noSet] at h
  | _ => rfl
/-- what a comprehension's parts are to be -/
structure LcOk (G : Gv) (N : List Str) (sc : Scope) (X : Cx) (scope : Scope) (own : List (Str × Nat)) (vs : List Nat) (elt tg iter : Expr) (ifs : List Expr) (g : Md.G) (it c ee : Md.E) : Prop where
  h_iter : PI X tg iter (tI G it)
  h_blk : BlkOk N sc scope own
  h_vs : own.map (·.2) = vs
  h_tg : ∀ X', XC G N (relS scope sc) (blkFn scope) X' → PG X' tg (tG G g)
  h_tests : ∀ X', XC G N (relS scope sc) (blkFn scope) X' → PTs X' ifs (tT G c)
  h_elt : ∀ X', XC G N (relS scope sc) (blkFn scope) X' → PE X' elt (tE G ee)
  h_set : noSet iter = true
  h_slots : ∀ i ∈ Md.slots g, i ∈ vs
theorem r_comp (C : XC G N sc fn X) {m : Bool} {scope : Scope} {own : List (Str × Nat)} {vs : List Nat} {elt tg iter : Expr} {ifs : List Expr} {pos : Pos} {g : Md.G} {it c ee : Md.E} (L : LcOk G N sc X scope own vs elt tg iter ifs g it c ee) :
    PE X (.ListComp elt [⟨tg, iter, ifs, 0⟩] scope pos) (tE G (.comp m vs g it c ee)) :=
  (pe_lc C.calm (by rw [C.hN]; exact C.nd) L.h_iter (by rw [C.hN, C.hs]; exact L.h_blk) (fun s H c cl fp => L.h_tg _ (C.blk s H scope cl c fp)) (fun s H c cl fp => L.h_tests _ (C.blk s H scope cl c fp)) (fun s H c cl fp => L.h_elt _ (C.blk s H scope cl c fp)) (noSet_ok L.h_set)).imp fun σ H Q h => by
    rw [L.h_vs]; exact lc_rd L.h_slots h
structure Lc2Ok (G : Gv) (N : List Str) (sc : Scope) (X : Cx) (scope : Scope) (own : List (Str × Nat)) (vs vs1 : List Nat) (elt tg iter : Expr) (ifs : List Expr) (tg1 iter1 : Expr) (ifs1 : List Expr) (g : Md.G) (it c : Md.E) (g1 : Md.G) (it1 c1 ee : Md.E) : Prop where
  h_iter : PI X tg iter (tI G it)
  h_blk : BlkOk N sc scope own
  h_vs : own.map (·.2) = vs
  h_tg : ∀ X', XC G N (relS scope sc) (blkFn scope) X' → PG X' tg (tG G g)
  h_tests : ∀ X', XC G N (relS scope sc) (blkFn scope) X' → PTs X' ifs (tT G c)
  h_iter1 : ∀ X', XC G N (relS scope sc) (blkFn scope) X' → PI X' tg1 iter1 (tI G it1)
  h_tg1 : ∀ X', XC G N (relS scope sc) (blkFn scope) X' → PG X' tg1 (tG G g1)
  h_tests1 : ∀ X', XC G N (relS scope sc) (blkFn scope) X' → PTs X' ifs1 (tT G c1)
  h_elt : ∀ X', XC G N (relS scope sc) (blkFn scope) X' → PE X' elt (tE G ee)
  h_set : noSet iter = true
  h_set1 : noSet iter1 = true
  h_slots : ∀ i ∈ Md.slots g, i ∈ vs
  h_slots1 : ∀ i ∈ Md.slots g1, i ∈ vs1
  h_sub : ∀ i ∈ vs1, i ∈ vs
theorem r_comp2 (C : XC G N sc fn X) {m : Bool} {scope : Scope} {own : List (Str × Nat)} {vs vs1 : List Nat} {elt tg iter tg1 iter1 : Expr} {ifs ifs1 : List Expr} {pos : Pos} {g g1 : Md.G} {it c it1 c1 ee : Md.E} (L : Lc2Ok G N sc X scope own vs vs1 elt tg iter ifs tg1 iter1 ifs1 g it c g1 it1 c1 ee) :
    PE X (.ListComp elt [⟨tg, iter, ifs, 0⟩, ⟨tg1, iter1, ifs1, 0⟩] scope pos) (tE G (.comp2 m vs vs1 g it c g1 it1 c1 ee)) :=
  (pe_lc2 C.calm (by rw [C.hN]; exact C.nd) L.h_iter (by rw [C.hN, C.hs]; exact L.h_blk) (by rw [L.h_vs]; exact L.h_sub) (fun s H c cl fp => L.h_tg _ (C.blk s H scope cl c fp)) (fun s H c cl fp => L.h_tests _ (C.blk s H scope cl c fp))
    (fun s H c cl fp => L.h_iter1 _ (C.blk s H scope cl c fp)) (fun s H c cl fp => L.h_tg1 _ (C.blk s H scope cl c fp)) (fun s H c cl fp => L.h_tests1 _ (C.blk s H scope cl c fp)) (fun s H c cl fp => L.h_elt _ (C.blk s H scope cl c fp)) (noSet_ok L.h_set) (fun env => noSet_ok L.h_set1)).imp fun σ H Q h => by
    rw [L.h_vs]; exact lc2_rd L.h_slots L.h_slots1 L.h_sub h
/-! ### statements -/
def endR (G : Gv) (F : Fo) (μ : List Addr) (H : Hp) (D : Ends) (ρ' : Md.Env) (s' : Md.St) : Md.R → Prop
  | .nx => ∀ σ' H' μ', Xt μ H μ' H' → RS G.K F μ' H' s' → ER F μ' H' ρ' σ' → D.nx σ' H'
  | .ret d => ∀ v H' μ', Xt μ H μ' H' → RS G.K F μ' H' s' → VR F μ' H' d v → D.rt v H'
  | .brk => ∀ σ' H' μ', Xt μ H μ' H' → RS G.K F μ' H' s' → ER F μ' H' ρ' σ' → D.bk σ' H'
def tS (G : Gv) (e : Md.S) : TS := fun D σ H => ∃ F μ ρ s r ρ' s', RS G.K F μ H s ∧ ER F μ H ρ σ ∧ Md.ex G.Γ G.gl e ρ s = some (r, ρ', s') ∧ endR G F μ H D ρ' s' r
theorem endR.from {F : Fo} {μ μ1 : List Addr} {H H1 : Hp} {D : Ends} {ρ' : Md.Env} {s' : Md.St} {r : Md.R} (x : Xt μ H μ1 H1) (k : endR G F μ H D ρ' s' r) : endR G F μ1 H1 D ρ' s' r := by
  cases r with
  | nx => exact fun σ' H' μ' x' R E => k σ' H' μ' (x.trans x') R E
  | brk => exact fun σ' H' μ' x' R E => k σ' H' μ' (x.trans x') R E
  | ret d => exact fun v H' μ' x' R V => k v H' μ' (x.trans x') R V
theorem s_stop {st : Stmt} : PS X st (tS G .stop) := ⟨fun _ _ _ _ _ _ ⟨_, _, _, _, _, _, _, _, _, h, _⟩ => by simp [Md.ex] at h⟩
theorem ss_stop {st : List Stmt} : PSs X st (tS G .stop) := ⟨fun _ _ _ _ _ _ ⟨_, _, _, _, _, _, _, _, _, h, _⟩ => by simp [Md.ex] at h⟩
theorem skip_rd {D : Ends} {σ : L2.St} {H : Hp} (h : tS G .skip D σ H) : D.nx σ H := by
  obtain ⟨F, μ, ρ, s, r, ρ', s', R, E, h, k⟩ := h
  simp only [Md.ex] at h
  cases h
  exact k σ H μ Xt.refl R E
theorem ss_nil : PSs X [] (tS G .skip) := pss_nil.imp fun D σ H h => skip_rd h
theorem s_pass {pos : Pos} : PS X (.Pass pos) (tS G .skip) := ps_pass.imp fun D σ H h => skip_rd h
theorem s_doc {x j pos pos'} : PS X (.Expr (.Constant (.str x) j pos) pos') (tS G .skip) := ps_doc.imp fun D σ H h => skip_rd h
theorem seq_rd {a b : Md.S} {D : Ends} {σ : L2.St} {H : Hp} (h : tS G (.seq a b) D σ H) : tSeq (tS G a) (tS G b) D σ H := by
  obtain ⟨F, μ, ρ, s, r, ρ', s', R, E, h, k⟩ := h
  simp only [Md.ex] at h
  split at h
  · rename_i ρ1 s1 h1
    exact ⟨F, μ, ρ, s, .nx, ρ1, s1, R, E, h1, fun σ' H' μ' X' R' E' => ⟨F, μ', ρ1, s1, r, ρ', s', R', E', h, k.from X'⟩⟩
  · rename_i o hn
    cases r with
    | nx => exact absurd h (hn _ _)
    | ret d => exact ⟨F, μ, ρ, s, .ret d, ρ', s', R, E, h, k⟩
    | brk => exact ⟨F, μ, ρ, s, .brk, ρ', s', R, E, h, k⟩
theorem ss_cons {st : Stmt} {rest : List Stmt} {a b : Md.S} (h1 : PS X st (tS G a)) (h2 : PSs X rest (tS G b)) : PSs X (st :: rest) (tS G (.seq a b)) := (pss_cons h1 h2).imp fun D σ H h => seq_rd h
theorem ss_one {st : Stmt} {a : Md.S} (h1 : PS X st (tS G a)) : PSs X [st] (tS G a) := pss_one h1
theorem s_brk {pos : Pos} : PS X (.Break pos) (tS G .brk) := ps_break.imp fun D σ H ⟨F, μ, ρ, s, r, ρ', s', R, E, h, k⟩ => by
  simp only [Md.ex] at h
  cases h
  exact k σ H μ Xt.refl R E
theorem s_ret {e : Expr} {ee : Md.E} {pos : Pos} (he : PE X e (tE G ee)) : PS X (.Return (some e) pos) (tS G (.ret ee)) := (ps_ret he).imp fun D σ H ⟨F, μ, ρ, s, r, ρ', s', R, E, h, k⟩ => by
  simp only [Md.ex] at h
  obtain ⟨x, s1, h1, h⟩ := bnd_inv h
  cases h
  exact ⟨F, μ, ρ, s, x, _, R, E, h1, k⟩
theorem s_retN {pos : Pos} : PS X (.Return none pos) (tS G .retN) := ps_retN.imp fun D σ H ⟨F, μ, ρ, s, r, ρ', s', R, E, h, k⟩ => by
  simp only [Md.ex] at h
  cases h
  exact k .non H μ Xt.refl R (by simp only [VR])
def noLc : Expr → Bool
  | .ListComp _ _ _ _ => false
  | .SetComp _ _ _ _ => false
  | .DictComp _ _ _ _ _ => false
  | _ => true
theorem sw_no {e : Expr} {t : Option Expr} {l : Nat} {env : Env} (h : noLc e = true) : swapsWith e t l env = pure false := by
  cases e <;> first | (simp [noLc] at h; done) | rfl
theorem s_exp {e : Expr} {ee : Md.E} {pos : Pos} (he : PE X e (tE G ee)) (hn : noLc e = true) : PS X (.Expr e pos) (tS G (.exp ee)) := (ps_expr he (sw_no hn)).imp fun D σ H ⟨F, μ, ρ, s, r, ρ', s', R, E, h, k⟩ => by
  simp only [Md.ex] at h
  obtain ⟨x, s1, h1, h⟩ := bnd_inv h
  cases h
  exact ⟨F, μ, ρ, s, x, _, R, E, h1, fun v H' μ' X' R' V' => k σ H' μ' X' R' (E.mono X')⟩
theorem s_if {c : Expr} {a b : List Stmt} {ec : Md.E} {ea eb : Md.S} {pos : Pos} (hc : PT X c (tT G ec)) (ha : PSs X a (tS G ea)) (hb : PSs X b (tS G eb)) : PS X (.If c a b pos) (tS G (.ife ec ea eb)) := (ps_if hc ha hb).imp fun D σ H ⟨F, μ, ρ, s, r, ρ', s', R, E, h, k⟩ => by
  simp only [Md.ex] at h
  obtain ⟨x, s1, h1, h⟩ := bnd_inv h
  split at h
  · rename_i e
    exact ⟨F, μ, ρ, s, x, s1, true, R, E, h1, e, fun H' μ' X' R' => iteT ⟨F, μ', ρ, s1, r, ρ', s', R', E.mono X', h, k.from X'⟩⟩
  · rename_i e
    exact ⟨F, μ, ρ, s, x, s1, false, R, E, h1, e, fun H' μ' X' R' => iteF ⟨F, μ', ρ, s1, r, ρ', s', R', E.mono X', h, k.from X'⟩⟩
  · cases h
/-! ### stores -/
theorem asg_rd {i : Nat} {ee : Md.E} {te : TE} {D : Ends} {σ : L2.St} {H : Hp} (ht : ∀ Q, tE G ee σ H Q → te σ H Q) (h : tS G (.asg i ee) D σ H) : tAsg te (gName i) D σ H := by
  obtain ⟨F, μ, ρ, s, r, ρ', s', R, E, h, k⟩ := h
  simp only [Md.ex] at h
  obtain ⟨x, s1, h1, h⟩ := bnd_inv h
  split at h
  · cases h
    exact ht _ ⟨F, μ, ρ, s, x, _, R, E, h1, fun v H' μ' X' R' V' => k _ H' μ' X' R' ((E.mono X').set V' i)⟩
  · cases h
theorem s_set (C : XC G N sc fn X) {i : Nat} {x : Str} {e : Expr} {ee : Md.E} {pos pos' : Pos} (hi : N[i]? = some x) (hx : Loc sc x) (hf : fn x = true ∨ sc.names.lookup x = some .local) (he : PE X e (tE G ee)) (hs : swapsWith e (some (.Name x pos')) pos.line X.env = pure false) : PS X (.Assign [.Name x pos'] e pos) (tS G (.asg i ee)) :=
  (ps_set (by rw [C.hN]; exact C.nd) (by rw [C.hN]; exact hi) (by rw [C.hs]; exact hx) he hs (by rw [C.hf, C.hs]; exact hf)).imp fun D σ H h => asg_rd (fun Q q => q) h
theorem s_setLc (C : XC G N sc fn X) {m : Bool} {i : Nat} {y : Str} {scope : Scope} {own : List (Str × Nat)} {vs : List Nat} {elt tg iter : Expr} {ifs : List Expr} {pos py spos : Pos} {g : Md.G} {it c ee : Md.E} (L : LcOk G N sc X scope own vs elt tg iter ifs g it c ee)
    (hi : N[i]? = some y) (hy : sc.names.lookup y = some .local) (hsw : swapsWith (.ListComp elt [⟨tg, iter, ifs, 0⟩] scope pos) (some (.Name y py)) spos.line X.env = pure true) :
    PS X (.Assign [.Name y py] (.ListComp elt [⟨tg, iter, ifs, 0⟩] scope pos) spos) (tS G (.asg i (.comp m vs g it c ee))) :=
  (ps_setLc C.calm (by rw [C.hN]; exact C.nd) (by rw [C.hN]; exact hi) (by rw [C.hs]; exact hy) hsw L.h_iter (by rw [C.hN, C.hs]; exact L.h_blk) (fun s H c cl fp => L.h_tg _ (C.blk s H scope cl c fp)) (fun s H c cl fp => L.h_tests _ (C.blk s H scope cl c fp)) (fun s H c cl fp => L.h_elt _ (C.blk s H scope cl c fp)) (noSet_ok L.h_set)).imp fun D σ H h =>
    asg_rd (fun Q q => by rw [L.h_vs]; exact lc_rd L.h_slots q) h
theorem s_setLc2 (C : XC G N sc fn X) {m : Bool} {i : Nat} {y : Str} {scope : Scope} {own : List (Str × Nat)} {vs vs1 : List Nat} {elt tg iter tg1 iter1 : Expr} {ifs ifs1 : List Expr} {pos py spos : Pos} {g g1 : Md.G} {it c it1 c1 ee : Md.E} (L : Lc2Ok G N sc X scope own vs vs1 elt tg iter ifs tg1 iter1 ifs1 g it c g1 it1 c1 ee)
    (hi : N[i]? = some y) (hy : sc.names.lookup y = some .local) (hsw : swapsWith (.ListComp elt [⟨tg, iter, ifs, 0⟩, ⟨tg1, iter1, ifs1, 0⟩] scope pos) (some (.Name y py)) spos.line X.env = pure true) :
    PS X (.Assign [.Name y py] (.ListComp elt [⟨tg, iter, ifs, 0⟩, ⟨tg1, iter1, ifs1, 0⟩] scope pos) spos) (tS G (.asg i (.comp2 m vs vs1 g it c g1 it1 c1 ee))) :=
  (ps_setLc2 C.calm (by rw [C.hN]; exact C.nd) (by rw [C.hN]; exact hi) (by rw [C.hs]; exact hy) hsw L.h_iter (by rw [C.hN, C.hs]; exact L.h_blk) (by rw [L.h_vs]; exact L.h_sub) (fun s H c cl fp => L.h_tg _ (C.blk s H scope cl c fp)) (fun s H c cl fp => L.h_tests _ (C.blk s H scope cl c fp))
    (fun s H c cl fp => L.h_iter1 _ (C.blk s H scope cl c fp)) (fun s H c cl fp => L.h_tg1 _ (C.blk s H scope cl c fp)) (fun s H c cl fp => L.h_tests1 _ (C.blk s H scope cl c fp)) (fun s H c cl fp => L.h_elt _ (C.blk s H scope cl c fp)) (noSet_ok L.h_set) (fun env => noSet_ok L.h_set1)).imp fun D σ H h =>
    asg_rd (fun Q q => by rw [L.h_vs]; exact lc2_rd L.h_slots L.h_slots1 L.h_sub q) h
end
end Sn
end
section
set_option maxRecDepth 100000
/-! Snd11: more statements: fields, items, loops. -/
namespace Sn
open PySem PySem.Spec PyProof.Rows L2
section
variable {K : PySem.W.Frag} {F : Fo} {μ : List Addr} {H : Hp}
theorem Xt.put {a : Addr} {o : HO} (hm : a ∈ μ) (nt : ∀ vs, H a ≠ some (.tup vs)) : Xt μ H μ (L2.upd H a o) := by
  refine ⟨⟨[], by simp⟩, fun b u e h => ?_, fun _ h => .inl h, fun b vs h => ?_⟩
  · rw [upd_ne (fun z => h (by rw [z]; exact hm))]; exact e
  · have : b ≠ a := fun z => nt vs (z ▸ h)
    rw [upd_ne this]; exact h
theorem RS.put {s : Md.St} (R : RS K F μ H s) {n : Nat} {a : Addr} {o : HO} {ob : Md.O} (hn : μ[n]? = some a) (nt : ∀ vs, H a ≠ some (.tup vs)) (ho : Xt μ H μ (L2.upd H a o) → OR K F μ (L2.upd H a o) a ob) :
    Xt μ H μ (L2.upd H a o) ∧ RS K F μ (L2.upd H a o) (s.set n ob) := R.set hn nt (ho (Xt.put (List.mem_of_getElem? hn) nt))
end
section
variable {G : Gv} {N : List Str} {sc : Scope} {fn : Str → Bool} {X : Cx}
def noTup : Expr → Bool
  | .Tuple _ _ _ => false
  | _ => true
theorem sw2_no {tg e : Expr} {env : Env} (h : noTup e = true) : swappedStores [tg] e env = pure none := by
  cases e with
  | Tuple _ _ _ => simp [noTup] at h
  | _ => cases tg <;> rfl
theorem sole_no {tg e : Expr} {l : Nat} {env : Env} (h : noLc e = true) : swapsWithSole [tg] e l env = pure false := sw_no h
theorem each1 {tg : Expr} {env : Env} (h : noStar tg = true) : (assignEach [tg] env).map (·.2) = [assign tg env] := by rw [aeach_ok h]; rfl
theorem s_asgT {tg e : Expr} {g : Md.G} {ee : Md.E} {pos : Pos} (hg : PG X tg (tG G g)) (he : PE X e (tE G ee)) (h1 : noTup e = true) (h2 : noLc e = true) (h3 : noStar tg = true) : PS X (.Assign [tg] e pos) (tS G (.asgT g ee)) :=
  (ps_asg he hg (sole_no h2) (sw2_no h1) (each1 h3)).imp fun D σ H ⟨F, μ, ρ, s, r, ρ', s', R, E, h, k⟩ => by
    simp only [Md.ex] at h
    obtain ⟨x, s1, h1, h⟩ := bnd_inv h
    split at h
    · rename_i ρ1 e1
      cases h
      exact ⟨F, μ, ρ, s, x, _, R, E, h1, fun v H' μ' X' R' V' => ⟨F, μ', ρ, _, x, _, R', E.mono X', V', e1, fun σ' E' _ => k σ' H' μ' X' R' E'⟩⟩
    · cases h
/-! ### fields -/
theorem KR.putF {F : Fo} {μ : List Addr} {H : Hp} {f : Str} {d : Md.D} {v : V} (hv : VR F μ H d v) : ∀ {fs : List (Str × Md.D)} {us : List (Str × V)}, KR F μ H fs us → KR F μ H (Md.putF fs f d) (L2.putF f v us)
  | [], us, h => by
    simp only [KR] at h
    subst h
    simp only [Md.putF, L2.putF, KR]
    exact ⟨v, [], rfl, hv, rfl⟩
  | (g, x) :: fs, us, h => by
    simp only [KR] at h
    obtain ⟨u, t, rfl, h1, h2⟩ := h
    simp only [Md.putF, L2.putF]
    by_cases e : g = f
    · simp only [e, if_true, KR]
      exact ⟨v, t, rfl, hv, h2⟩
    · simp only [e, if_false, KR]
      exact ⟨u, _, rfl, h1, KR.putF hv h2⟩
theorem s_setF (O : GOk G) (C : XC G N sc fn X) {o e : Expr} {f : Str} {cs : List Str} {eo ee : Md.E} {pos pos' : Pos} (ho : PE X o (tE G eo)) (he : PE X e (tE G ee)) (hl : swapsWith e (some (.Attribute o f pos')) pos.line X.env = pure false) (hf : ∀ c ∈ cs, (c, f) ∈ G.flds) : PS X (.Assign [.Attribute o f pos'] e pos) (tS G (.setF eo f cs ee)) :=
  (ps_fld ho he hl).imp fun D σ H ⟨F, μ, ρ, s, r, ρ', s', R, E, h, k⟩ => by
    simp only [Md.ex] at h
    obtain ⟨x, s1, h1, h⟩ := bnd_inv h
    obtain ⟨y, s2, h2, h⟩ := bnd_inv h
    refine ⟨F, μ, ρ, s, x, s1, R, E, h1, fun v1 H1 μ1 X1 R1 V1 => ⟨F, μ1, ρ, s1, y, s2, R1, E.mono X1, h2, fun v2 H2 μ2 X2 R2 V2 => ?_⟩⟩
    split at h
    · rename_i n
      split at h
      · rename_i c fs e1
        split at h
        · rename_i hc
          cases h
          simp only [VR] at V2
          obtain ⟨a, rfl, ha⟩ := V2
          obtain ⟨dx, us, h3, h4⟩ := R2.ob n _ a e1 ha
          obtain ⟨o1, o2⟩ := O.fl _ (hf c (List.contains_iff_mem.mp hc.2))
          refine ⟨a, _, dx, us, rfl, h3, by rw [C.hK]; exact O.cl _ o1, by rw [C.hK]; exact o2, by rw [← h4.len]; omega, ?_⟩
          have V1' := V1.mono X2
          obtain ⟨X3, R3⟩ := R2.put (ob := .ins c (Md.putF fs f x)) (o := .ins (He.ga G.K c) dx (L2.putF f v1 us)) ha (fun vs z => by rw [h3] at z; cases z) fun X => ⟨dx, _, upd_same, (KR.putF V1' h4).mono X⟩
          exact k _ _ μ2 (X1.trans (X2.trans X3)) R3 (E.mono (X1.trans (X2.trans X3)))
        · cases h
      · cases h
    · cases h
/-! ### items -/
theorem KR.putK {κ : Type} [DecidableEq κ] {F : Fo} {μ : List Addr} {H : Hp} {q : κ} {d : Md.D} {v : V} (hv : VR F μ H d v) {kvs : List (κ × Md.D)} {us : List (κ × V)} (h : KR F μ H kvs us) : KR F μ H (Md.putK kvs q d) (L2.putK us q v) := by
  have any : ∀ {kvs : List (κ × Md.D)} {us : List (κ × V)}, KR F μ H kvs us → (kvs.any fun kv => decide (kv.1 = q)) = us.any fun kv => decide (kv.1 = q) := by
    intro kvs
    induction kvs with
    | nil => intro us h; simp only [KR] at h; rw [h]; rfl
    | cons x kvs ih =>
      intro us h
      obtain ⟨k, d⟩ := x
      simp only [KR] at h
      obtain ⟨u, t, rfl, _, h2⟩ := h
      simp only [List.any_cons, ih h2]
  have map : ∀ {kvs : List (κ × Md.D)} {us : List (κ × V)}, KR F μ H kvs us → KR F μ H (kvs.map fun kv => if kv.1 = q then (kv.1, d) else kv) (us.map fun kv => if kv.1 = q then (kv.1, v) else kv) := by
    intro kvs
    induction kvs with
    | nil => intro us h; simp only [KR] at h; rw [h]; simp [KR]
    | cons x kvs ih =>
      intro us h
      obtain ⟨k, d'⟩ := x
      simp only [KR] at h
      obtain ⟨u, t, rfl, h1, h2⟩ := h
      simp only [List.map_cons]
      by_cases e : k = q
      · simp only [e, if_true, KR]
        exact ⟨v, _, rfl, hv, ih h2⟩
      · simp only [e, if_false, KR]
        exact ⟨u, _, rfl, h1, ih h2⟩
  have app : ∀ {kvs : List (κ × Md.D)} {us : List (κ × V)}, KR F μ H kvs us → KR F μ H (kvs ++ [(q, d)]) (us ++ [(q, v)]) := by
    intro kvs
    induction kvs with
    | nil => intro us h; simp only [KR] at h; rw [h]; simp only [List.nil_append, KR]; exact ⟨v, [], rfl, hv, rfl⟩
    | cons x kvs ih =>
      intro us h
      obtain ⟨k, d'⟩ := x
      simp only [KR] at h
      obtain ⟨u, t, rfl, h1, h2⟩ := h
      simp only [List.cons_append, KR]
      exact ⟨u, _, rfl, h1, ih h2⟩
  unfold Md.putK L2.putK
  rw [any h]
  split
  · exact map h
  · exact app h
def rSet (G : Gv) : TSet := fun o i v H Q => ∃ F μ s dx di dv s', RS G.K F μ H s ∧ VR F μ H dx o ∧ VR F μ H di i ∧ VR F μ H dv v ∧ Md.setAt dx di dv s = some s' ∧ ∀ H' μ', Xt μ H μ' H' → RS G.K F μ' H' s' → Q H'
theorem set_ok (C : XC G N sc fn X) : PSet X (rSet G) := by
  intro pins st σ H o i v ov iv u Q I ro ri rv ⟨F, μ, s, dx, di, dv, s', R, ho, hi, hv, e, k⟩
  unfold Md.setAt at e
  split at e
  · rename_i n
    simp only [VR] at ho
    obtain ⟨a, rfl, ha⟩ := ho
    split at e
    · rename_i xs kk e1
      simp only [Option.map_eq_some_iff] at e
      obtain ⟨j, e2, e3⟩ := e
      subst e3
      obtain ⟨vs, h1, h2⟩ := R.ob n _ a e1 ha
      simp only [VR] at hi
      subst hi
      obtain ⟨X3, R3⟩ := R.put (ob := .lst (xs.set j dv)) (o := .lst (vs.set j v)) ha (fun vs z => by rw [h1] at z; cases z) fun X => ⟨_, upd_same, (h2.set j hv).mono X⟩
      exact set_list pins st σ H _ _ v ov iv u Q I ro ri rv ⟨a, vs, kk, j, rfl, rfl, h1, by rw [← h2.len]; exact e2, k _ μ X3 R3⟩
    · rename_i kvs e1
      obtain ⟨q, e2, e3⟩ := Option.bind_eq_some_iff.mp e
      split at e3
      · rename_i hc
        cases e3
        obtain ⟨us, h1, h2⟩ := R.ob n _ a e1 ha
        obtain ⟨X3, R3⟩ := R.put (ob := .dk (Md.putK kvs q dv)) (o := .dK (L2.putK us q v)) ha (fun vs z => by rw [h1] at z; cases z) fun X => ⟨_, upd_same, (h2.putK hv).mono X⟩
        cases (show ov = Value.ref a from ro)
        have g : DPut H a i v (upd H a (.dK (L2.putK us q v))) := by rw [keyK_ok hi e2]; exact DPut.k h1 (by rw [← h2.len]; exact capLt hc)
        exact d_setItem C.un1 I g ri rv fun s2 I2 => ⟨_, I2, k _ μ X3 R3⟩
      · cases e3
    · rename_i kvs e1
      obtain ⟨q, e2, e3⟩ := Option.bind_eq_some_iff.mp e
      split at e3
      · rename_i hc
        cases e3
        obtain ⟨us, h1, h2⟩ := R.ob n _ a e1 ha
        obtain ⟨X3, R3⟩ := R.put (ob := .dt (Md.putK kvs q dv)) (o := .dT (L2.putK us q v)) ha (fun vs z => by rw [h1] at z; cases z) fun X => ⟨_, upd_same, (h2.putK hv).mono X⟩
        cases (show ov = Value.ref a from ro)
        obtain ⟨b, e4, hb⟩ := keyT_ok hi e2
        have g : DPut H a i v (upd H a (.dT (L2.putK us q v))) := by rw [e4]; exact DPut.t h1 hb (by rw [← h2.len]; exact capLt hc)
        exact d_setItem C.un1 I g ri rv fun s2 I2 => ⟨_, I2, k _ μ X3 R3⟩
      · cases e3
    · cases e
  · cases e
theorem s_setI (C : XC G N sc fn X) {o i e : Expr} {eo ei ee : Md.E} {pos pos' : Pos} (ho : PE X o (tE G eo)) (hi : PE X i (tE G ei)) (he : PE X e (tE G ee)) (hl : noLc e = true) (ht : noTup e = true) (hs : noSlice i = true) : PS X (.Assign [.Subscript o i pos'] e pos) (tS G (.setI eo ei ee)) :=
  (ps_asg he (pg_sub ho hi (set_ok C) (fun v => by cases i <;> first | (simp [noSlice] at hs; done) | rfl)) (sole_no hl) (sw2_no ht) (each1 rfl)).imp fun D σ H ⟨F, μ, ρ, s, r, ρ', s', R, E, h, k⟩ => by
    simp only [Md.ex] at h
    obtain ⟨x, s1, h1, h⟩ := bnd_inv h
    obtain ⟨y, s2, h2, h⟩ := bnd_inv h
    obtain ⟨z, s3, h3, h⟩ := bnd_inv h
    simp only [Option.map_eq_some_iff] at h
    obtain ⟨s4, h4, h5⟩ := h
    cases h5
    refine ⟨F, μ, ρ, s, x, s1, R, E, h1, fun v1 H1 μ1 X1 R1 V1 => ⟨F, μ1, ρ, s1, y, s2, R1, E.mono X1, h2, fun v2 H2 μ2 X2 R2 V2 => ⟨F, μ2, ρ, s2, z, s3, R2, E.mono (X1.trans X2), h3, fun v3 H3 μ3 X3 R3 V3 => ?_⟩⟩⟩
    refine ⟨F, μ3, s3, y, z, x, _, R3, V2.mono X3, V3, V1.mono (X2.trans X3), h4, fun H4 μ4 X4 R4 => ?_⟩
    have XX := X1.trans (X2.trans (X3.trans X4))
    exact k σ H4 μ4 XX R4 (E.mono XX)
/-! ### name op= value -/
theorem aug_rd {i : Nat} {ee : Md.E} {o : Md.Bo} {f : Int → Int → Int} (hf : ∀ a b z, Md.augI o a b = some z → z = f a b) {D : Ends} {σ : L2.St} {H : Hp} (h : tS G (.aug i o ee) D σ H) : tAug i (tE G ee) (ipI f) D σ H := by
  obtain ⟨F, μ, ρ, s, r, ρ', s', R, E, h, k⟩ := h
  simp only [Md.ex] at h
  split at h
  · rename_i a e1
    obtain ⟨y, s1, h1, h⟩ := bnd_inv h
    split at h
    · rename_i b
      simp only [Option.map_eq_some_iff] at h
      obtain ⟨z, e3, e4⟩ := h
      cases e4
      rw [hf a b z e3] at k
      obtain ⟨v, e2, V⟩ := E.at_ i _ e1
      simp only [VR] at V
      subst V
      refine ⟨_, e2, F, μ, ρ, s, _, _, R, E, h1, fun w H1 μ1 X1 R1 V1 => ?_⟩
      simp only [VR] at V1
      exact ⟨a, b, rfl, V1, k _ H1 μ1 X1 R1 ((E.mono X1).set (by simp only [VR]) i)⟩
    · cases h
  · cases h
theorem s_augA (C : XC G N sc fn X) {i : Nat} {x : Str} {e : Expr} {ee : Md.E} {pos pos' : Pos} (hi : N[i]? = some x) (hx : Loc sc x) (hf : fn x = true ∨ sc.names.lookup x = some .local) (he : PE X e (tE G ee)) : PS X (.AugAssign (.Name x pos') .Add e pos) (tS G (.aug i .add ee)) :=
  (ps_aug (by rw [C.hN]; exact C.nd) (by rw [C.hN]; exact hi) (by rw [C.hs]; exact hx) he ip_add (by rw [C.hf, C.hs]; exact hf)).imp fun D σ H h => aug_rd (fun a b z e => by simp only [Md.augI] at e; cases e; rfl) h
theorem s_augS (C : XC G N sc fn X) {i : Nat} {x : Str} {e : Expr} {ee : Md.E} {pos pos' : Pos} (hi : N[i]? = some x) (hx : Loc sc x) (hf : fn x = true ∨ sc.names.lookup x = some .local) (he : PE X e (tE G ee)) : PS X (.AugAssign (.Name x pos') .Sub e pos) (tS G (.aug i .sub ee)) :=
  (ps_aug (by rw [C.hN]; exact C.nd) (by rw [C.hN]; exact hi) (by rw [C.hs]; exact hx) he ip_sub (by rw [C.hf, C.hs]; exact hf)).imp fun D σ H h => aug_rd (fun a b z e => by simp only [Md.augI] at e; cases e; rfl) h
/-! ### loops -/
theorem own_ok (C : XC G N sc fn X) : PassesOwn (model X.prog X.w) X.A X.env X.xe := by rw [C.xe]; exact PassesOwn.never
theorem forL_cons {f : Md.D → Md.Env → Md.St → Option (Md.R × Md.Env × Md.St)} {ok : Md.St → Bool} {x : Md.D} {xs : List Md.D} {ρ : Md.Env} {s : Md.St} {r} (h : Md.forL f ok (x :: xs) ρ s = some r) :
    (∃ ρ1 s1, f x ρ s = some (.nx, ρ1, s1) ∧ ok s1 = true ∧ Md.forL f ok xs ρ1 s1 = some r) ∨ (∃ ρ1 s1, f x ρ s = some (.brk, ρ1, s1) ∧ r = (.nx, ρ1, s1)) ∨ ∃ d ρ1 s1, f x ρ s = some (.ret d, ρ1, s1) ∧ r = (.ret d, ρ1, s1) := by
  simp only [Md.forL] at h
  split at h
  · rename_i ρ1 s1 e
    split at h
    · rename_i c
      exact .inl ⟨ρ1, s1, e, c, h⟩
    · cases h
  · rename_i ρ1 s1 e
    cases h
    exact .inr (.inl ⟨ρ1, s1, e, rfl⟩)
  · rename_i d ρ1 s1 e
    cases h
    exact .inr (.inr ⟨d, ρ1, s1, e, rfl⟩)
  · cases h
theorem s_for (C : XC G N sc fn X) {tg iter : Expr} {body : List Stmt} {g : Md.G} {it : Md.E} {b : Md.S} {pos : Pos} (hi : PI X tg iter (tI G it)) (hg : PG X tg (tG G g)) (hb : PSs X body (tS G b)) (hs : noSet iter = true) : PS X (.For tg iter body [] pos) (tS G (.forS g it b)) :=
  (ps_for (own_ok C) C.calm hi hg hb (noSet_ok hs)).imp fun D σ H ⟨F, μ, ρ, s, r, ρ', s', R, E, h, k⟩ => by
    simp only [Md.ex] at h
    obtain ⟨x, s1, h1, h⟩ := bnd_inv h
    split at h
    · rename_i items h2
      refine ⟨F, μ, ρ, s, x, s1, items, R, E, h1, h2, fun J H1 μ1 X1 R1 jok hlen => ?_⟩
      generalize hf : (fun d ρ s => match Md.bindG g d ρ with
        | some ρ1 => Md.ex G.Γ G.gl b ρ1 s
        | none => none) = f at h
      refine ⟨fun i n σ H' => n = items.length - i ∧ i ≤ items.length ∧ ∃ μi ρi si, Md.forL f (Md.stab x items) (items.drop i) ρi si = some (r, ρ', s') ∧ Xt μ1 H1 μi H' ∧ RS G.K F μi H' si ∧ ER F μi H' ρi σ ∧ Md.stab x items si = true, ⟨_, rfl, Nat.zero_le _, μ1, ρ, s1, h, Xt.refl, R1, E.mono X1, stab_now h2⟩, ?_⟩
      rintro i n σ' H' ⟨rfl, hi, μi, ρi, si, hc, Xi, Ri, Ei, hok⟩
      have L : Lt F μ1 H1 F μi H' := Xi.lt fun a z => .inl z
      by_cases hn : i = items.length
      · subst hn
        rw [List.drop_length] at hc
        simp only [Md.forL, Option.some.injEq, Prod.mk.injEq] at hc
        obtain ⟨rfl, rfl, rfl⟩ := hc
        exact .inl ⟨jok.stop _ μi H' si L Ri hok, k σ' H' μi (X1.trans Xi) Ri Ei⟩
      · have hlt : i < items.length := by omega
        rw [List.drop_eq_getElem_cons hlt] at hc
        obtain ⟨j1, j2⟩ := jok.go i _ _ μi H' si L Ri hok (List.getElem?_eq_getElem hlt)
        refine .inr ⟨j1, fun σ'' H'' => i + 1 ≤ items.length ∧ ∃ μi ρi si, Md.forL f (Md.stab x items) (items.drop (i + 1)) ρi si = some (r, ρ', s') ∧ Xt μ1 H1 μi H'' ∧ RS G.K F μi H'' si ∧ ER F μi H'' ρi σ'' ∧ Md.stab x items si = true, fun σ'' H'' w => ⟨_, by omega, rfl, w.1, w.2⟩, fun xv H2 y => ?_⟩
        obtain ⟨X2, R2, V2⟩ := j2 xv H2 y
        have bnd : ∀ {o}, f items[i] ρi si = some o → ∃ ρ1, Md.bindG g items[i] ρi = some ρ1 ∧ Md.ex G.Γ G.gl b ρ1 si = some o := fun {o} e => by
          rw [← hf] at e
          simp only at e
          split at e
          · rename_i ρ1 e1; exact ⟨ρ1, e1, e⟩
          · cases e
        rcases forL_cons hc with ⟨ρ2, s2, e1, e2, e3⟩ | ⟨ρ2, s2, e1, e2⟩ | ⟨d, ρ2, s2, e1, e2⟩
        · obtain ⟨ρ1, e4, e5⟩ := bnd e1
          refine ⟨F, μi, ρi, si, _, ρ1, R2, Ei.mono X2, V2, e4, fun σ2 E2 _ => ⟨F, μi, ρ1, si, .nx, ρ2, s2, R2, E2, e5, fun σ3 H3 μ3 X3 R3 E3 => ⟨hlt, μ3, ρ2, s2, e3, Xi.trans (X2.trans X3), R3, E3, e2⟩⟩⟩
        · obtain ⟨ρ1, e4, e5⟩ := bnd e1
          cases e2
          refine ⟨F, μi, ρi, si, _, ρ1, R2, Ei.mono X2, V2, e4, fun σ2 E2 _ => ⟨F, μi, ρ1, si, .brk, _, _, R2, E2, e5, fun σ3 H3 μ3 X3 R3 E3 => k σ3 H3 μ3 (X1.trans (Xi.trans (X2.trans X3))) R3 E3⟩⟩
        · obtain ⟨ρ1, e4, e5⟩ := bnd e1
          cases e2
          refine ⟨F, μi, ρi, si, _, ρ1, R2, Ei.mono X2, V2, e4, fun σ2 E2 _ => ⟨F, μi, ρ1, si, .ret d, _, _, R2, E2, e5, fun v H3 μ3 X3 R3 V3 => k v H3 μ3 (X1.trans (Xi.trans (X2.trans X3))) R3 V3⟩⟩
    · cases h
theorem s_while (C : XC G N sc fn X) {c : Expr} {body : List Stmt} {ec : Md.E} {b : Md.S} {pos : Pos} (hc : PT X c (tT G ec)) (hb : PSs X body (tS G b)) : PS X (.While c body [] pos) (tS G (.whl ec b)) :=
  (ps_while (own_ok C) hc hb).imp fun D σ H ⟨F, μ, ρ, s, r, ρ', s', R, E, h, k⟩ => by
    simp only [Md.ex] at h
    generalize hcf : (fun ρ s => Md.bnd (Md.ev G.Γ G.gl ec ρ s) fun x s => (Md.truth s x).map fun b => (b, s)) = cf at h
    generalize hff : (fun ρ s => Md.ex G.Γ G.gl b ρ s) = ff at h
    refine ⟨fun m σ' H' => ∃ μi ρi si, Md.whlL cf ff m ρi si = some (r, ρ', s') ∧ Xt μ H μi H' ∧ RS G.K F μi H' si ∧ ER F μi H' ρi σ', ⟨Md.wfuel, μ, ρ, s, h, Xt.refl, R, E⟩, ?_⟩
    rintro m σ1 H1 ⟨μi, ρi, si, hw, Xi, Ri, Ei⟩
    cases m with
    | zero => simp [Md.whlL] at hw
    | succ m =>
      simp only [Md.whlL] at hw
      have test : ∀ {o s1}, cf ρi si = some (o, s1) → ∃ d, Md.ev G.Γ G.gl ec ρi si = some (d, s1) ∧ Md.truth s1 d = some o := fun {o s1} e => by
        rw [← hcf] at e
        obtain ⟨d, s2, e1, e⟩ := bnd_inv e
        simp only [Option.map_eq_some_iff] at e
        obtain ⟨o', e2, e3⟩ := e
        cases e3
        exact ⟨d, e1, e2⟩
      split at hw
      · rename_i s1 e1
        obtain ⟨d, e2, e3⟩ := test e1
        refine ⟨F, μi, ρi, si, d, s1, true, Ri, Ei, e2, e3, fun H2 μ2 X2 R2 => iteT ?_⟩
        refine ⟨fun σ'' H'' => ∃ μi ρi si, Md.whlL cf ff m ρi si = some (r, ρ', s') ∧ Xt μ H μi H'' ∧ RS G.K F μi H'' si ∧ ER F μi H'' ρi σ'', fun σ'' H'' w => ⟨m, Nat.lt_succ_self m, w⟩, ?_⟩
        rw [← hff] at hw
        split at hw
        · rename_i ρ2 s2 e4
          rw [hff] at hw
          exact ⟨F, μ2, ρi, s1, .nx, ρ2, s2, R2, Ei.mono X2, e4, fun σ3 H3 μ3 X3 R3 E3 => ⟨μ3, ρ2, s2, hw, Xi.trans (X2.trans X3), R3, E3⟩⟩
        · rename_i ρ2 s2 e4
          cases hw
          exact ⟨F, μ2, ρi, s1, .brk, _, _, R2, Ei.mono X2, e4, fun σ3 H3 μ3 X3 R3 E3 => k σ3 H3 μ3 (Xi.trans (X2.trans X3)) R3 E3⟩
        · rename_i d ρ2 s2 e4
          cases hw
          exact ⟨F, μ2, ρi, s1, .ret d, _, _, R2, Ei.mono X2, e4, fun v H3 μ3 X3 R3 V3 => k v H3 μ3 (Xi.trans (X2.trans X3)) R3 V3⟩
        · cases hw
      · rename_i s1 e1
        obtain ⟨d, e2, e3⟩ := test e1
        cases hw
        exact ⟨F, μi, _, si, d, _, false, Ri, Ei, e2, e3, fun H2 μ2 X2 R2 => iteF (k σ1 H2 μ2 (Xi.trans X2) R2 (Ei.mono X2))⟩
      · cases hw
end
end Sn
end
section
set_option maxRecDepth 100000
set_option maxHeartbeats 1000000
/-! SortT: sorted of a list of tuples of ints, of any lengths. -/
namespace St
open PySem PySem.W PySem.Calls PyProof.Rows L2
section
variable {prog : Program} {w : World} {A : Around} {E : Value → Shared → Prop} {s : Shared}
/-- v is a tuple of these ints -/
def TI (h : Heap) (v : Value) (ns : List Int) : Prop := ∃ a o its n, v = .ref a ∧ h.get? a = some o ∧ o.cls = .type "tuple" ∧ o.data = .seq its n ∧ IntsAre its.toList ns
theorem TI.keeps {h h' : Heap} {v : Value} {ns : List Int} (x : TI h v ns) (k : ∀ b o, h.get? b = some o → o.cls = .type "tuple" → h'.get? b = some o) : TI h' v ns := by
  obtain ⟨a, o, its, n, e, ho, hc, hd, hi⟩ := x
  exact ⟨a, o, its, n, e, k a o ho hc, hc, hd, hi⟩
theorem TI.tup {h : Heap} {v : Value} {ns : List Int} (x : TI h v ns) : ∃ a its, v = .ref a ∧ IsTup h a its ∧ IntsAre its.toList ns := by
  obtain ⟨a, o, its, n, e, ho, hc, hd, hi⟩ := x
  exact ⟨a, its, e, ⟨o, ho, hc, n, hd⟩, hi⟩
theorem TI.type {M : Model} {h : Heap} {v : Value} {ns : List Int} (x : TI h v ns) : Looks M h (typeOf v) (.type "tuple") := by
  obtain ⟨a, o, its, n, rfl, ho, hc, hd, hi⟩ := x
  rw [← hc]
  exact (Looks.ld ho).andThen .now
/-- < of two -/
theorem lt_tt {v u : Value} {ns ms : List Int} {Q : Value → Shared → Prop} (hv : TI s.heap v ns) (hu : TI s.heap u ms) (hr : A.units < cLine) (h : Q (.bool (HT.lexLt ns ms)) s) : wpAny (model prog w) A (compareOp .Lt v u) Q E s := by
  obtain ⟨a, i1, rfl, t1, e1⟩ := hv.tup
  obtain ⟨b, i2, rfl, t2, e2⟩ := hu.tup
  exact HT.lt_tupInts t1 t2 e1 e2 hr h
theorem lt_general {v u : Value} {ns ms : List Int} {Q : Bool → Shared → Prop} (hv : TI s.heap v ns) (hu : TI s.heap u ms) (hr : A.units < cLine) (h : Q (HT.lexLt ns ms) s) : wpAny (model prog w) A (keyLt' general' v u) Q E s := by
  show wpAny (model prog w) A (oneLt' false v u) Q E s
  exact kat_one v u (lt_tt hv hu hr h)
theorem lt_one {v u : Value} {ns ms : List Int} {Q : Bool → Shared → Prop} (hv : TI s.heap v ns) (hu : TI s.heap u ms) (hr : A.units < cLine) (h : Q (HT.lexLt ns ms) s) : wpAny (model prog w) A (keyLt' oneType' v u) Q E s := by
  obtain ⟨a, ⟨cls, dd, data, sl⟩, i1, n, rfl, ho, hc, hd, e1⟩ := hv
  obtain ⟨b, ⟨cls2, dd2, data2, sl2⟩, i2, n2, rfl, ho2, hc2, hd2, e2⟩ := hu
  simp only at hc hd hc2 hd2
  subst hc hd hc2 hd2
  rw [keyLt'_oneType, oneLt'_eq]
  simp only [if_true]
  refine wpAny_bind (wpAny_cRoomFor hr ?_)
  refine wpAny_bind (wpAny_callSpecialIfBound?_slot (T := "tuple") (name := Str.ofString "__lt__") ⟨_, ho, rfl⟩ PySem.F.slot_tuple_lt (call_meets PySem.F.slot_tuple_lt ⟨_, ho, rfl⟩ PySem.F.entry_tuple_lt (PySem.F.args_tuple_lt_2 _ _) (HT.tuple_lt_ints a b i1 i2 n n2 dd dd2 sl sl2 ns ms e1 e2) ⟨ho, ho2, ?_⟩))
  exact wpAny_truthy_bool h
theorem lex_lex : ∀ {us vs : List Value} {ns ms : List Int} {Q : Bool → Shared → Prop} {i : Nat} {fin : Bool}, IntsAre us ns → IntsAre vs ms → (fin = decide (ns.length < ms.length)) → Q (HT.lexLt ns ms) s → KatLex prog w A true fin Q (us.zip vs) i s
  | _, _, _, _, Q, i, fin, .nil, hv, hf, h => by
    rw [List.zip_nil_left]
    cases hv with
    | nil => rw [HT.lexLt_nil_nil] at h; rw [hf]; exact h
    | cons n t r => rw [HT.lexLt_nil_cons] at h; rw [hf]; exact h
  | _, _, _, _, Q, i, fin, .cons n t r, .nil, hf, h => by
    rw [List.zip_nil_right]
    rw [HT.lexLt_cons_nil] at h; rw [hf]; exact h
  | _, _, _, _, Q, i, fin, .cons n t r, .cons m u q, hf, h => by
    rw [List.zip_cons_cons]
    rw [HT.lexLt_cons] at h
    refine kat_cons (SeqAt.EqAt.int_int n t m u prog w _ _ ?_)
    refine kat_go (fun e1 => ?_) (fun e1 => ?_)
    · have ex : n = m := by simpa using e1
      rw [if_pos ex] at h
      exact kat_yes (lex_lex r q (by rw [hf]; simp) h)
    · have ex : ¬ n = m := by simpa using e1
      rw [if_neg ex] at h
      refine kat_no ?_
      cases i with
      | zero => exact oneLt_int h
      | succ i => exact kat_one _ _ (PyProof.Rows.lt_int h)
theorem lt_tups {v u : Value} {ns ms : List Int} {Q : Bool → Shared → Prop} (hv : TI s.heap v ns) (hu : TI s.heap u ms) (h : Q (HT.lexLt ns ms) s) : wpAny (model prog w) A (keyLt' (tuples' true) v u) Q E s := by
  obtain ⟨a, o, i1, n, rfl, ho, hc, hd, e1⟩ := hv
  obtain ⟨b, o2, i2, n2, rfl, ho2, hc2, hd2, e2⟩ := hu
  refine kat_lt ho hd ho2 hd2 (lex_lex e1 e2 ?_ h)
  rw [← e1.length, ← e2.length]
  simp

/-- the first item of the tuple -/
def fst0 (h : Heap) : Value → Option Value
  | .ref a => match h.get? a with
    | some o => match o.data with
      | .seq its _ => its[0]?
      | _ => none
    | none => none
  | _ => none
theorem fst0_int {h : Heap} {v : Value} {ns : List Int} (x : TI h v ns) {f : Value} (e : fst0 h v = some f) : ∃ i t, f = Value.int i t := by
  obtain ⟨a, o, its, n, rfl, ho, hc, hd, hi⟩ := x
  unfold fst0 at e
  simp only [ho, hd] at e
  rw [← Array.getElem?_toList] at e
  generalize its.toList = l at hi e
  cases hi with
  | nil => simp at e
  | cons i t r => simp at e; exact ⟨i, t, e.symm⟩
/-- the firsts that the sort finds -/
theorem firsts_any : ∀ {vs : List Value} {k : Value → List Int}, (∀ v ∈ vs, TI s.heap v (k v)) → ∀ {M : Model} {A : Around} {E : Value → Shared → Prop} {Q : List (Option Value) → Shared → Prop}, Q (vs.map (fst0 s.heap)) s → wpAny M A (vs.mapM firstOfTuple') Q E s
  | [], k, hv, M, A, E, Q, h => by rw [List.mapM_nil]; exact wpAny_pure h
  | v :: vs, k, hv, M, A, E, Q, h => by
    have ih := firsts_any (fun u hu => hv u (List.mem_cons_of_mem _ hu)) (M := M) (A := A) (E := E) (Q := fun bs s' => wpAny M A (pure (fst0 s.heap v :: bs)) Q E s') (wpAny_pure (by simpa using h))
    obtain ⟨a, o, its, n, rfl, ho, hc, hd, hi⟩ := hv v List.mem_cons_self
    rw [List.mapM_cons]
    refine wpAny_bind ?_
    rw [kas_first_eq]
    refine wpAny_bind (Looks.here (show Looks M s.heap (typeOf (.ref a)) o.cls from (Looks.ld ho).andThen .now) ?_)
    rw [hc, if_neg (by first | decide | simp)]
    refine wpAny_bind (listItems_at ho hd (wpAny_pure ?_))
    have e : its[0]? = fst0 s.heap (.ref a) := by unfold fst0; simp only [ho, hd]
    rw [e]
    exact wpAny_bind ih
theorem types_const {M : Model} {T : Value} {vs : List Value} (hT : ∀ v ∈ vs, Looks M s.heap (typeOf v) T) (hne : vs ≠ []) (hT2 : (T == T) = true) {Q : Option Value → Shared → Prop} (h : Q (some T) s) : wpAny M A (oneTypeOnly' vs.toArray) Q E s := by
  rw [oneTypeOnly'_eq, List.mapM_toArray, map_eq_pure_bind]
  refine wpAny_bind (wpAny_bind (kas_mapM (r := T) _ (fun v hv Q' hq => (hT v hv).here hq) (wpAny_pure ?_)))
  obtain ⟨v, vr, rfl⟩ : ∃ v vr, vs = v :: vr := by
    cases vs with
    | nil => exact absurd rfl hne
    | cons v vr => exact ⟨v, vr, rfl⟩
  have hall : ((List.map (fun _ => T) (v :: vr)).toArray.all fun x => x == T) = true := by
    simp only [List.all_toArray, List.all_map, List.all_eq_true]
    intro _ _
    exact hT2
  have h0 : (List.map (fun _ => T) (v :: vr)).toArray[0]? = some T := by simp
  rw [h0]
  simp only [hall, if_true]
  exact wpAny_pure h
def kindOf' (fs : List (Option Value)) : SortKind := if (fs.all fun x => x.isSome) = true then tuples' true else if (fs[0]?.bind id).isSome = true then general' else oneType'
theorem kind_any {vs : List Value} {k : Value → List Int} (h2 : 2 ≤ vs.length) (hv : ∀ v ∈ vs, TI s.heap v (k v)) {M : Model} {Q : SortKind → Shared → Prop} (h : Q (kindOf' (vs.map (fst0 s.heap))) s) : wpAny M A (keyKind' vs.toArray) Q E s := by
  rw [kat_kind_eq, List.mapM_toArray, map_eq_pure_bind]
  refine wpAny_bind (wpAny_bind (firsts_any hv (wpAny_pure ?_)))
  generalize hfs : vs.map (fst0 s.heap) = fs at h
  have hf : ∀ f ∈ fs, ∀ x, f = some x → ∃ i t, x = Value.int i t := fun f hm x e => by
    rw [← hfs] at hm
    obtain ⟨v, hm, e2⟩ := List.mem_map.mp hm
    exact fst0_int (hv v hm) (e2.trans e)
  have hl : fs.length = vs.length := by rw [← hfs]; simp
  unfold kindOf' at h
  by_cases hall : (fs.all fun x => x.isSome) = true
  · rw [if_pos hall] at h
    rw [if_pos (by simpa using hall)]
    refine wpAny_bind (wpAny_rule ?_)
    have hall' : ∀ f ∈ fs, f.isSome = true := by simpa [List.all_eq_true] using hall
    have e : fs.toArray.filterMap id = (fs.filterMap id).toArray := by simp
    rw [e]
    refine wpAny_bind (types_const (T := .type "int") (fun v hv => ?_) ?_ (by rfl) ?_)
    · obtain ⟨f, hm, e2⟩ := List.mem_filterMap.mp hv
      obtain ⟨i, t, rfl⟩ := hf f hm v e2
      exact Looks.now
    · intro z
      cases fs with
      | nil => simp at hl; omega
      | cons f fs =>
        have := hall' f List.mem_cons_self
        cases f with
        | none => cases this
        | some x => simp at z
    · have e : (Value.type "int" != Value.type "tuple") = true := by first | decide +kernel | rfl | decide
      simp only [Option.any_some, e]
      exact wpAny_pure h
  · rw [if_neg hall] at h
    rw [if_neg (by simpa using hall)]
    have e : fs.toArray[0]? = fs[0]? := by simp
    rw [e]
    by_cases hs : (fs[0]?.bind id).isSome = true
    · rw [if_pos hs] at h ⊢; exact wpAny_pure h
    · rw [if_neg hs] at h ⊢
      refine wpAny_bind (types_const (T := .type "tuple") (fun v hm => (hv v hm).type) (fun z => by rw [z] at h2; simp at h2) (by rfl) ?_)
      exact wpAny_pure h
theorem cmp_any {κ : SortKind} {vs : List Value} {k : Value → List Int} (hk : κ = tuples' true ∨ κ = general' ∨ κ = oneType') (hr : A.units < cLine) (hv : ∀ v ∈ vs, TI s.heap v (k v)) : SrtO.Cmp prog w A s κ (fun p => p.1 ∈ vs) (SrtO.lt2 fun v u => HT.lexLt (k v) (k u)) := by
  intro p q hp hq
  have a := hv p.1 hp
  have b := hv q.1 hq
  rcases hk with rfl | rfl | rfl
  · exact lt_tups (Q := fun r s' => s' = s ∧ r = HT.lexLt (k p.1) (k q.1)) a b ⟨rfl, rfl⟩
  · exact lt_general (Q := fun r s' => s' = s ∧ r = HT.lexLt (k p.1) (k q.1)) a b hr ⟨rfl, rfl⟩
  · exact lt_one (Q := fun r s' => s' = s ∧ r = HT.lexLt (k p.1) (k q.1)) a b hr ⟨rfl, rfl⟩
theorem kind_of (fs : List (Option Value)) : kindOf' fs = tuples' true ∨ kindOf' fs = general' ∨ kindOf' fs = oneType' := by
  unfold kindOf'
  split
  · exact .inl rfl
  · split
    · exact .inr (.inl rfl)
    · exact .inr (.inr rfl)
theorem tups_sortable {a : Addr} {vs : List Value} {k : Value → List Int} (h2 : 2 ≤ vs.length) (hr : A.units < cLine) (hv : ∀ v ∈ vs, TI s.heap v (k v)) (ha : ∀ o, s.heap.get? a = some o → o.cls ≠ .type "tuple") : SrtO.SortableO prog w A s a vs fun v u => HT.lexLt (k v) (k u) := by
  intro h' keep
  have hv' : ∀ v ∈ vs, TI h' v (k v) := fun v hm => (hv v hm).keeps fun b o e c => keep b o (fun z => by subst z; exact ha o e c) e
  exact ⟨kindOf' (vs.map (fst0 h')), fun Q E hq => kind_any (s := { s with heap := h' }) h2 hv' hq, cmp_any (s := { s with heap := h' }) (kind_of _) hr hv'⟩
end
/-! ### sorted(l) -/
/-- l a list of tuples of ints -/
def rSortL (K : PySem.W.Frag) : List V → Hp → VK → Prop := fun vs H Q => ∃ (a : Addr) (ts : List Addr) (k : Addr → List Int), vs = [V.ref a] ∧ SqL K H a (ts.map V.ref) ∧ (∀ t ∈ ts, SqT K H t ((k t).map V.int)) ∧
  ∀ (ts' : List Addr) (p : Addr), ts'.Perm ts → ts'.Pairwise (fun x y => HT.lexLt (k y) (k x) = false) → H p = none → Q (.ref p) (upd H p (.lst (ts'.map V.ref)))
section
variable {X : Cx} {pins : List (Addr × Obj)} {σ : L2.St} {H : Hp} {s : Shared}
theorem ti_of (I : Inv X pins σ H s) {t : Addr} {ns : List Int} (h : SqT X.K H t (ns.map V.int)) : TI s.heap (.ref t) ns := by
  obtain ⟨its, rv, ⟨o, ho, hc, n, hd⟩, _⟩ := I.tuple h
  exact ⟨t, o, its.toArray, n, rfl, ho, hc, hd, by simpa using rv.ints⟩
theorem cr_sortL (hu : X.A.units + 8 < cLine) : CallR X (.builtin "sorted") (rSortL X.K) := by
  intro pins s σ H vs us Q I r h
  obtain ⟨a, ts, k, rfl, hs, hk, q⟩ := h
  obtain ⟨its, rv, hl, hz⟩ := I.list hs
  rw [Vals.ref1 r]
  have ei := nts_of rv
  have hti : ∀ v ∈ its, TI s.heap v (k (adO v)) := fun v hm => by
    rw [ei] at hm
    obtain ⟨t, ht, rfl⟩ := List.mem_map.mp hm
    exact ti_of I (hk t ht)
  refine SrtO.sorted_ord (NtL.swo_lexL fun u => k (adO u)) hl.isList (by rw [← rv.length]; exact hz) (fun h2 h₁ a' e kk => ?_) fun out h1 h2 => ?_
  · refine tups_sortable (s := { s with heap := h₁ }) h2 ?_ (fun v hm => (hti v hm).keeps fun b o e _ => (kk b o e).2) fun o e' => ?_
    · show X.A.units + 1 + 1 < cLine
      omega
    · have e2 : some o = some (seqObj "list" its.toArray 0) := e'.symm.trans e
      cases e2
      intro c
      exact absurd (Value.type.inj c) (by decide)
  · have eo : out = (out.map adO).map Value.ref := ref_map fun u hm => by
      have hm' : u ∈ its := h2.perm.mem_iff.mp hm
      rw [ei] at hm'
      obtain ⟨t, _, e⟩ := List.mem_map.mp hm'
      exact ⟨t, e.symm⟩
    have hp : (out.map adO).Perm ts := by
      have p1 := h2.perm.map adO
      rw [ei, ad_map] at p1
      exact p1
    have hsd : (out.map adO).Pairwise (fun x y => HT.lexLt (k y) (k x) = false) := List.pairwise_map.mpr (h1.imp fun {x y} z => z)
    obtain ⟨ep, he'⟩ := PyProof.Rows.sortedAll_at s.heap its out.toArray
    have hlen : ((out.map adO).map V.ref).length ≤ sizeLine := by
      rw [List.length_map, hp.length_eq]
      rw [List.length_map] at hz
      exact hz
    have rvo : Vals ((out.map adO).map V.ref) out := by
      have z := of_nts (out.map adO)
      rw [← eo] at z
      exact z
    exact ⟨.ref _, upd H (s.heap.objs.size + 1) (.lst ((out.map adO).map V.ref)), I.laid (t' := s.toks) (fun _ _ => PyProof.Rows.sortedAll_old) (Nat.le_succ _) ⟨hlen, out, ep, rvo, he'⟩, rfl, q _ _ hp hsd (I.hok.fresh (Nat.le_succ _))⟩
end
end St
end
section
set_option maxRecDepth 100000
set_option maxHeartbeats 4000000
/-! SetL: set(xs) of a list, of a tuple; sorted of such a set. -/
namespace St
open PySem PySem.W PySem.Calls PyProof.Rows L2
section
variable {P : Program} {w : World} {A : Around} {E : Value → Shared → Prop} {s : Shared}
/-- the empty set that is filled -/
abbrev set0 (w : World) : Obj := { cls := .type "set", dict := none, data := .set #[] 0 (.fresh 0 0 (!w.params.followText "set-order")) }
/-- the heap at the loop's start -/
abbrev hAt (w : World) (s : Shared) (it : Obj) : Heap := (s.heap.push (set0 w)).push it
theorem init_list {l : Addr} {items : Array Value} {R : PySem.Fin → Shared → Prop} (Good : Heap → Prop) (hl : s.heap.IsList l items)
    (loop : codeAny (model P w) A.in1 (.builtin "set.update.loop" ⟨[.ref s.heap.objs.size, .ref (s.heap.objs.size + 1)], []⟩) (fun r s' => r = .ok (.ret .none) ∧ ∃ h' tk, s' = { s with heap := h', toks := tk } ∧ Good h') { s with heap := hAt w s { cls := .type "list_iterator", data := .fields #[.ref l, .int 0 0] } })
    (hR : ∀ h' tk, Good h' → R (.done (.ret .none)) { s with heap := h', toks := tk }) : wpAny (model P w) A.in1 (Builtin.«set.__init__» ⟨[.ref s.heap.objs.size, .ref l], []⟩) R E { s with heap := s.heap.push (set0 w) } := by
  obtain ⟨ol, hol, hcl, nl, hdl⟩ := hl
  obtain ⟨ocls, odict, odata, oslots⟩ := ol
  simp only at hcl hdl
  subst hcl; subst hdl
  have hol' : (s.heap.push (set0 w)).get? l = some { cls := .type "list", dict := odict, data := .seq items nl, slots := oslots } := Heap.get?_push_of_some _ hol
  have hsls := F.sub_list_set
  have hslf := F.sub_list_frozenset
  have hne : (Value.type "list" == Value.type "dict") = false := by decide
  have hl1 : (s.heap.push (set0 w)).IsList l items := ⟨_, hol', rfl, nl, rfl⟩
  have hz1 : (s.heap.push (set0 w)).objs.size = s.heap.objs.size + 1 := Heap.size_push ..
  unfold Builtin.«set.__init__» noKeywords Builtin.Frozenset.updateFrom
  generalize hPI : pyIter = PI
  wp_walk
  subst hPI
  refine wpAny_pyIter_list hl1 ?_
  refine wpAny_bind (wpAny_runValue ?_)
  show codeAny _ _ (.builtin "set.update.loop" ⟨[.ref s.heap.objs.size, .ref (s.heap.push (set0 w)).objs.size], []⟩) _ _
  rw [hz1]
  refine codeAny_mono loop fun r s' ⟨hr, h', tk, hs, hg⟩ => ?_
  subst hr hs
  show wpAny _ _ _ _ _ _
  refine wpAny_pure ?_
  show wpAny _ _ (ret Value.none) _ _ _
  exact wpAny_pure (hR h' tk hg)
theorem init_tuple {l : Addr} {items : Array Value} {R : PySem.Fin → Shared → Prop} (Good : Heap → Prop) (hl : s.heap.IsTuple l items)
    (loop : codeAny (model P w) A.in1 (.builtin "set.update.loop" ⟨[.ref s.heap.objs.size, .ref (s.heap.objs.size + 1)], []⟩) (fun r s' => r = .ok (.ret .none) ∧ ∃ h' tk, s' = { s with heap := h', toks := tk } ∧ Good h') { s with heap := hAt w s { cls := .type "tuple_iterator", data := .fields #[.ref l, .int 0 0] } })
    (hR : ∀ h' tk, Good h' → R (.done (.ret .none)) { s with heap := h', toks := tk }) : wpAny (model P w) A.in1 (Builtin.«set.__init__» ⟨[.ref s.heap.objs.size, .ref l], []⟩) R E { s with heap := s.heap.push (set0 w) } := by
  obtain ⟨ol, hol, hcl, nl, hdl⟩ := hl
  obtain ⟨ocls, odict, odata, oslots⟩ := ol
  simp only at hcl hdl
  subst hcl; subst hdl
  have hol' : (s.heap.push (set0 w)).get? l = some { cls := .type "tuple", dict := odict, data := .seq items nl, slots := oslots } := Heap.get?_push_of_some _ hol
  have hsls := F.sub_tuple_set
  have hslf := F.sub_tuple_frozenset
  have hne : (Value.type "tuple" == Value.type "dict") = false := by decide
  have hl1 : (s.heap.push (set0 w)).IsTuple l items := ⟨_, hol', rfl, nl, rfl⟩
  have hz1 : (s.heap.push (set0 w)).objs.size = s.heap.objs.size + 1 := Heap.size_push ..
  unfold Builtin.«set.__init__» noKeywords Builtin.Frozenset.updateFrom
  generalize hPI : pyIter = PI
  wp_walk
  subst hPI
  refine wpAny_pyIter_tuple hl1 ?_
  refine wpAny_bind (wpAny_runValue ?_)
  show codeAny _ _ (.builtin "set.update.loop" ⟨[.ref s.heap.objs.size, .ref (s.heap.push (set0 w)).objs.size], []⟩) _ _
  rw [hz1]
  refine codeAny_mono loop fun r s' ⟨hr, h', tk, hs, hg⟩ => ?_
  subst hr hs
  show wpAny _ _ _ _ _ _
  refine wpAny_pure ?_
  show wpAny _ _ (ret Value.none) _ _ _
  exact wpAny_pure (hR h' tk hg)
theorem set_made {l : Addr} {Q : Value → Shared → Prop} (Good : Heap → Prop)
    (hl : ∀ (R : PySem.Fin → Shared → Prop) (E : Value → Shared → Prop), (∀ h' tk, Good h' → R (.done (.ret .none)) { s with heap := h', toks := tk }) → wpAny (model P w) A.in1.in1 (Builtin.«set.__init__» ⟨[.ref s.heap.objs.size, .ref l], []⟩) R E { s with heap := s.heap.push (set0 w) })
    (h : ∀ h' tk, Good h' → Q (.ref s.heap.objs.size) { s with heap := h', toks := tk }) : wpAny (model P w) A (call (.type "set") [.ref l]) Q E s := by
  obtain ⟨c, tl, hmro⟩ := F.called_set.mro
  have hmade := F.called_set.made
  have hsub := F.called_set.sub
  refine wpAny_call (codeAny_of_tree ?_)
  show wpAny _ _ (callAny (.type "set") _) _ _ _
  refine wpAny_pure ⟨Code.quiet_builtin _ (by decide +kernel), codeAny_builtin F.entry_type_call ?_⟩
  rw [Around.under_plain (weight_type_call_type "set" [.ref l] []) rfl]
  have h1 := F.called_set.notType
  have h2 := F.called_set.canCreate
  have hct := F.typeCall_set_1 (.ref l)
  repeat (any_goals (first | assumption | wp_step))
  refine codeAny_mono (code_set_led1 (.ref l) (E := E) (Q₁ := fun obj s₁ => obj = .ref s.heap.objs.size ∧ s₁ = { s with heap := s.heap.push (set0 w) }) ⟨rfl, rfl⟩) fun r s₁ hr => ?_
  cases r with
  | error e => exact hr
  | ok fl =>
    cases fl with
    | ret obj =>
      obtain ⟨rfl, rfl⟩ := hr
      have hS : (s.heap.push (set0 w)).get? s.heap.objs.size = some (set0 w) := Heap.get?_push_size _ rfl
      have hT : Shared.TypeIs { s with heap := s.heap.push (set0 w) } (.ref s.heap.objs.size) "set" := ⟨_, hS, rfl⟩
      have hli := F.called_set.init.lookup
      have hbi := F.called_set.init.bind (.ref s.heap.objs.size)
      repeat (any_goals (first | assumption | wp_step))
      refine codeAny_mono (codeAny_call_builtin (R := wants (fun r s₂ => r = .none ∧ ∃ h' tk, s₂ = { s with heap := h', toks := tk } ∧ Good h') E) F.called_set.init.plain F.entry_set_init (check_set_init_1 hT ?_)) fun r₂ s₂ hr₂ => ?_
      · exact hl _ _ fun h' tk hg => ⟨rfl, h', tk, rfl, hg⟩
      · cases r₂ with
        | error e => exact hr₂
        | ok fl₂ =>
          cases fl₂ with
          | ret r =>
            obtain ⟨rfl, h', tk, rfl, hg⟩ := hr₂
            repeat (any_goals (first | assumption | wp_step))
            exact h _ _ hg
          | _ => exact hr₂.elim
    | _ => exact hr.elim

theorem none_at {b : Addr} (hb : s.heap.objs.size ≤ b) : s.heap.get? b = none := by
  cases q : s.heap.get? b with
  | none => rfl
  | some o => exact absurd (Nat.lt_of_lt_of_le (Heap.lt_size q) hb) (Nat.lt_irrefl _)
theorem size_h1 : (s.heap.push (set0 w)).objs.size = s.heap.objs.size + 1 := Heap.size_push ..
theorem get_set {it : Obj} : (hAt w s it).get? s.heap.objs.size = some (set0 w) := Heap.get?_push_of_some _ (Heap.get?_push_size _ rfl)
theorem get_it {it : Obj} (hf : it.isFreed = false := by rfl) : (hAt w s it).get? (s.heap.objs.size + 1) = some it := by
  have := Heap.get?_push_size (s.heap.push (set0 w)) (o := it) hf
  rwa [size_h1] at this
theorem get_old {it : Obj} {b : Addr} {o : Obj} (e : s.heap.get? b = some o) : (hAt w s it).get? b = some o := Heap.get?_push_of_some _ (Heap.get?_push_of_some _ e)
/-- behind the loop -/
def GI (P : Program) (w : World) (s : Shared) (ns : List Int) (h' : Heap) : Prop := (∃ c, c ≤ ns.length ∧ SetR w h' s.heap.objs.size (fun j => decide (j ∈ ns)) c) ∧ ∀ b o, s.heap.get? b = some o → h'.get? b = some o
def GT (P : Program) (w : World) (s : Shared) (ks : List (Addr × List Int)) (h' : Heap) : Prop := (∃ L es ep t, SetTR P w h' s.heap.objs.size L es ep t ∧ Got ks ks.length L) ∧ ∀ b o, s.heap.get? b = some o → h'.get? b = some o
section
variable {it : Obj} {l : Addr} {fp wr : List Addr} {G : Array GenState → Array GenState → Prop} {n : Nat} {Pv : Nat → Value → Prop} {St : Nat → Shared → Prop}
theorem loop_ints (W : WalksS P w A.in1 (s.heap.objs.size + 1) fp wr G n Pv St) (hS : s.heap.objs.size ∉ fp) (ns : List Int) (hn : n = ns.length) (hb : ns.length + 1 < scanBound) (hval : ∀ i v, Pv i v → ∃ k t, ns[i]? = some k ∧ v = .int k t) (hst : St 0 { s with heap := hAt w s it })
    (hm : ∀ s' : Shared, Moved (s.heap.objs.size :: wr) G { s with heap := hAt w s it } s' → s'.gens = s.gens ∧ s'.drawn = s.drawn ∧ s'.os = s.os) (hw : ∀ b ∈ wr, s.heap.objs.size ≤ b) :
    codeAny (model P w) A (.builtin "set.update.loop" ⟨[.ref s.heap.objs.size, .ref (s.heap.objs.size + 1)], []⟩) (fun r s' => r = .ok (.ret .none) ∧ ∃ h' tk, s' = { s with heap := h', toks := tk } ∧ GI P w s ns h') { s with heap := hAt w s it } := by
  refine set_update_ints W s.heap.objs.size hS ns hn hb hval (n - 0) 0 _ rfl (Nat.zero_le _) hst ⟨0, Nat.le_refl 0, setR_new_at get_set⟩ fun s' c' mv hc' hS' => ?_
  obtain ⟨h', g2, d', tk', os'⟩ := s'
  obtain ⟨eg, ed, eo⟩ := hm _ mv
  simp only at eg ed eo
  subst eg; subst ed; subst eo
  refine ⟨rfl, h', tk', rfl, ⟨c', by omega, hS'⟩, fun b o e => ?_⟩
  have hb0 : b < s.heap.objs.size := Heap.lt_size e
  refine mv.heap b o (fun z => ?_) (get_old e)
  rcases List.mem_cons.mp z with z | z
  · exact absurd hb0 (by rw [z]; exact Nat.lt_irrefl _)
  · exact absurd hb0 (Nat.not_lt_of_le (hw b z))
theorem loop_tups (W : WalksS P w A.in1 (s.heap.objs.size + 1) fp wr G n Pv St) (hS : s.heap.objs.size ∉ fp) (ks : List (Addr × List Int)) (hn : n = ks.length) (hfew : ks.length < 64) (hval : ∀ i v, Pv i v → ∃ p, ks[i]? = some p ∧ v = .ref p.1) (hk : ∀ p ∈ ks, IsT P w s.heap p.2 p.1) (hu : A.in1.units < cLine) (hst : St 0 { s with heap := hAt w s it })
    (hm : ∀ s' : Shared, Moved (s.heap.objs.size :: wr) G { s with heap := hAt w s it } s' → s'.gens = s.gens ∧ s'.drawn = s.drawn ∧ s'.os = s.os) (hw : ∀ b ∈ wr, s.heap.objs.size ≤ b) :
    codeAny (model P w) A (.builtin "set.update.loop" ⟨[.ref s.heap.objs.size, .ref (s.heap.objs.size + 1)], []⟩) (fun r s' => r = .ok (.ret .none) ∧ ∃ h' tk, s' = { s with heap := h', toks := tk } ∧ GT P w s ks h') { s with heap := hAt w s it } := by
  refine set_update_tups W s.heap.objs.size hS ks hn hfew hval s.heap hk (none_at (Nat.le_refl _)) (fun b hb => none_at (hw b hb)) hu (n - 0) 0 _ rfl (Nat.zero_le _) hst (fun b o e => get_old e) ⟨[], #[], 0, _, setTR_fresh get_set, Got.zero ks⟩ fun s' L es ep t mv hS' g' hkp => ?_
  obtain ⟨h', g2, d', tk', os'⟩ := s'
  obtain ⟨eg, ed, eo⟩ := hm _ mv
  simp only at eg ed eo
  subst eg; subst ed; subst eo
  exact ⟨rfl, h', tk', rfl, ⟨L, es, ep, t, hS', by rw [← hn]; exact g'⟩, hkp⟩
end
theorem hd3 (hh : A.handled = none) : A.in1.in1.in1.handled = none := by simp [hh]
theorem not2 {l : Addr} (h : l < s.heap.objs.size) : s.heap.objs.size ∉ [s.heap.objs.size + 1, l] := by
  simp only [List.mem_cons, List.mem_singleton, List.not_mem_nil, or_false, not_or]
  exact ⟨Nat.ne_of_lt (Nat.lt_succ_self _), Nat.ne_of_gt h⟩
theorem le2 : ∀ b ∈ [s.heap.objs.size + 1], s.heap.objs.size ≤ b := fun b hb => by
  rw [List.mem_singleton.mp hb]; exact Nat.le_succ _
theorem call_ints_list {l : Addr} {items : Array Value} (ns : List Int) {Q : Value → Shared → Prop} (hh : A.handled = none) (hl : s.heap.IsList l items) (hit : IntsAre items.toList ns) (hb : ns.length + 1 < scanBound)
    (h : ∀ h' tk, GI P w s ns h' → Q (.ref s.heap.objs.size) { s with heap := h', toks := tk }) : wpAny (model P w) A (call (.type "set") [.ref l]) Q E s := by
  have hlS : l < s.heap.objs.size := by obtain ⟨o, ho, _⟩ := hl; exact Heap.lt_size ho
  refine set_made (GI P w s ns) (fun R E' hR => init_list _ hl ?_ hR) h
  have hisz : items.size = ns.length := by
    have q := IntsAre.length hit
    rw [Array.length_toList] at q
    exact q
  refine loop_ints (n := items.size) ((Walks.list (hd3 hh) (s.heap.objs.size + 1) l (Nat.ne_of_lt (Nat.lt_succ_of_lt hlS)) items).toS) (not2 hlS) ns hisz hb (fun i v hv => ?_) ⟨⟨_, get_it, rfl, rfl⟩, (hl.push _).push _⟩ (fun s' mv => ⟨mv.gens, mv.drawn, mv.os⟩) le2
  have hi : i < ns.length := by rw [← hisz]; exact (Array.getElem?_eq_some_iff.mp hv).1
  obtain ⟨t, e⟩ := PyProof.Rows.IntsAre.int_at hit i v (by rw [Array.getElem?_toList]; exact hv)
  refine ⟨ns[i], t, List.getElem?_eq_getElem hi, ?_⟩
  rw [e, List.getD_eq_getElem?_getD, List.getElem?_eq_getElem hi] <;> rfl
end
end St
end
section
set_option maxRecDepth 100000
set_option maxHeartbeats 4000000
/-! SetM: set(xs), sorted(set) as rules. -/
namespace St
open PySem PySem.W PySem.Calls PyProof.Rows L2
section
variable {P : Program} {w : World} {A : Around} {E : Value → Shared → Prop} {s : Shared}
theorem val_ints {items : Array Value} {ns : List Int} (hit : IntsAre items.toList ns) (hisz : items.size = ns.length) : ∀ (i : Nat) (v : Value), items[i]? = some v → ∃ k t, ns[i]? = some k ∧ v = Value.int k t := fun i v hv => by
  have hi : i < ns.length := by rw [← hisz]; exact (Array.getElem?_eq_some_iff.mp hv).1
  obtain ⟨t, e⟩ := PyProof.Rows.IntsAre.int_at hit i v (by rw [Array.getElem?_toList]; exact hv)
  refine ⟨ns[i], t, List.getElem?_eq_getElem hi, ?_⟩
  rw [e, List.getD_eq_getElem?_getD, List.getElem?_eq_getElem hi] <;> rfl
theorem val_tups {items : Array Value} {ks : List (Addr × List Int)} (hit : items.toList = ks.map fun p => Value.ref p.1) : ∀ (i : Nat) (v : Value), items[i]? = some v → ∃ p, ks[i]? = some p ∧ v = Value.ref p.1 := fun i v hv => by
  have q : items.toList[i]? = some v := by rw [Array.getElem?_toList]; exact hv
  rw [hit, List.getElem?_map] at q
  cases hq : ks[i]? with
  | none => rw [hq] at q; cases q
  | some p =>
    rw [hq] at q
    exact ⟨p, rfl, (Option.some.inj q).symm⟩
theorem call_ints_tuple {l : Addr} {items : Array Value} (ns : List Int) {Q : Value → Shared → Prop} (hh : A.handled = none) (hl : s.heap.IsTuple l items) (hit : IntsAre items.toList ns) (hb : ns.length + 1 < scanBound)
    (h : ∀ h' tk, GI P w s ns h' → Q (.ref s.heap.objs.size) { s with heap := h', toks := tk }) : wpAny (model P w) A (call (.type "set") [.ref l]) Q E s := by
  have hlS : l < s.heap.objs.size := by obtain ⟨o, ho, _⟩ := hl; exact Heap.lt_size ho
  have hisz : items.size = ns.length := by
    have q := IntsAre.length hit
    rw [Array.length_toList] at q
    exact q
  refine set_made (GI P w s ns) (fun R E' hR => init_tuple _ hl ?_ hR) h
  exact loop_ints (n := items.size) ((Walks.tuple (hd3 hh) (s.heap.objs.size + 1) l (Nat.ne_of_lt (Nat.lt_succ_of_lt hlS)) items).toS) (not2 hlS) ns hisz hb (val_ints hit hisz) ⟨⟨_, get_it, rfl, rfl⟩, (hl.push _).push _⟩ (fun s' mv => ⟨mv.gens, mv.drawn, mv.os⟩) le2
theorem call_tups_list {l : Addr} {items : Array Value} (ks : List (Addr × List Int)) {Q : Value → Shared → Prop} (hh : A.handled = none) (hl : s.heap.IsList l items) (hit : items.toList = ks.map fun p => Value.ref p.1) (hk : ∀ p ∈ ks, IsT P w s.heap p.2 p.1) (hfew : ks.length < 64) (hu : A.units + 8 < cLine)
    (h : ∀ h' tk, GT P w s ks h' → Q (.ref s.heap.objs.size) { s with heap := h', toks := tk }) : wpAny (model P w) A (call (.type "set") [.ref l]) Q E s := by
  have hlS : l < s.heap.objs.size := by obtain ⟨o, ho, _⟩ := hl; exact Heap.lt_size ho
  have hisz : items.size = ks.length := by
    have q := congrArg List.length hit
    rw [Array.length_toList, List.length_map] at q
    exact q
  refine set_made (GT P w s ks) (fun R E' hR => init_list _ hl ?_ hR) h
  exact loop_tups (n := items.size) ((Walks.list (hd3 hh) (s.heap.objs.size + 1) l (Nat.ne_of_lt (Nat.lt_succ_of_lt hlS)) items).toS) (not2 hlS) ks hisz hfew (val_tups hit) hk (show A.units + 1 + 1 + 1 < cLine by omega) ⟨⟨_, get_it, rfl, rfl⟩, (hl.push _).push _⟩ (fun s' mv => ⟨mv.gens, mv.drawn, mv.os⟩) le2
theorem call_tups_tuple {l : Addr} {items : Array Value} (ks : List (Addr × List Int)) {Q : Value → Shared → Prop} (hh : A.handled = none) (hl : s.heap.IsTuple l items) (hit : items.toList = ks.map fun p => Value.ref p.1) (hk : ∀ p ∈ ks, IsT P w s.heap p.2 p.1) (hfew : ks.length < 64) (hu : A.units + 8 < cLine)
    (h : ∀ h' tk, GT P w s ks h' → Q (.ref s.heap.objs.size) { s with heap := h', toks := tk }) : wpAny (model P w) A (call (.type "set") [.ref l]) Q E s := by
  have hlS : l < s.heap.objs.size := by obtain ⟨o, ho, _⟩ := hl; exact Heap.lt_size ho
  have hisz : items.size = ks.length := by
    have q := congrArg List.length hit
    rw [Array.length_toList, List.length_map] at q
    exact q
  refine set_made (GT P w s ks) (fun R E' hR => init_tuple _ hl ?_ hR) h
  exact loop_tups (n := items.size) ((Walks.tuple (hd3 hh) (s.heap.objs.size + 1) l (Nat.ne_of_lt (Nat.lt_succ_of_lt hlS)) items).toS) (not2 hlS) ks hisz hfew (val_tups hit) hk (show A.units + 1 + 1 + 1 < cLine by omega) ⟨⟨_, get_it, rfl, rfl⟩, (hl.push _).push _⟩ (fun s' mv => ⟨mv.gens, mv.drawn, mv.os⟩) le2
/-! ### sorted -/
theorem ti_isT {h : Heap} {k : List Int} {b : Addr} (x : IsT P w h k b) : TI h (.ref b) k := by
  obtain ⟨o, items, n, ho, hc, hd, hi⟩ := x
  exact ⟨b, o, items, n, rfl, ho, hc, hd, ints_of_items hi⟩
theorem sorted_setL {a : Addr} {L : List (Addr × List Int)} {es : Array (Int × Value)} {ep : Nat} {t : SetTable} {Q : Value → Shared → Prop} (R : SetTR P w s.heap a L es ep t) (hh : A.handled = none) (hu : A.units + 8 < cLine)
    (hQ : ∀ s' p (out : List Value) (c : Nat) (k : Value → List Int), (∀ b o, s.heap.get? b = some o → s'.heap.get? b = some o) → s'.gens = s.gens → s'.os = s.os → s.heap.objs.size ≤ p →
      s'.heap.get? p = some (seqObj "list" out.toArray c) → out.Perm (L.map fun q => Value.ref q.1) → (∀ q ∈ L, k (.ref q.1) = q.2) → out.Pairwise (fun q r => HT.lexLt (k r) (k q) = false) → Q (.ref p) s') :
    wpAny (model P w) A (call (.builtin "sorted") [.ref a]) Q E s := by
  obtain ⟨o, ho, hex, hd⟩ := R.ob
  have hsz := R.size
  have hfew := R.few
  refine Calls.call_function_entry kind_sorted plain_sorted entry_sorted (args_sorted1 _) ?_
  unfold Builtin.«sorted»
  refine wpAny_bind (m := checkCount "sorted" 1 1 _) (wpAny_pure ?_)
  refine wpAny_bind (collect_set (A := A.in1) hh ⟨o, ho, hex.1, hd⟩ R.fits (by unfold scanBound; omega) R.tab.ris R.led fun s1 vs k1 hz g1 o1 pm => ?_)
  have hes : es.toList.map (·.2) = L.map fun q => Value.ref q.1 := by
    rw [R.rows]
    unfold L2.rowsOf
    rw [List.map_map] <;> rfl
  rw [hes] at pm
  have hvl : vs.length < 64 := by rw [pm.length_eq, List.length_map]; exact hfew
  have hsl : vs.length ≤ sizeLine := by rw [sizeLine_eq]; omega
  refine wpAny_bind (wpAny_newList ?_ hsl)
  generalize hL1 : s1.heap.push (seqObj "list" vs.toArray 0) = hp
  have hoL : hp.get? s1.heap.objs.size = some (seqObj "list" vs.toArray 0) := by rw [← hL1]; exact Heap.get?_push_size _ rfl
  have kp : ∀ b u, s.heap.get? b = some u → hp.get? b = some u := fun b u e => by rw [← hL1]; exact Heap.get?_push_of_some _ (k1 b u e)
  have kk : ∀ q ∈ L, TI hp (.ref q.1) q.2 := fun q hq => (ti_isT (R.tup q hq)).keeps fun b u e _ => kp b u e
  let k : Value → List Int := TS.intsOf hp
  have hk : ∀ q ∈ L, k (.ref q.1) = q.2 := fun q hq => by
    obtain ⟨a', its, e, t1, i1⟩ := (kk q hq).tup
    exact TS.TupInts.ints ⟨a', its, e, t1, i1⟩
  have hv : ∀ v ∈ vs, TI hp v (k v) := fun v hm => by
    obtain ⟨q, hq, e⟩ := List.mem_map.mp (pm.mem_iff.mp hm)
    rw [← e, hk q hq]
    exact kk q hq
  refine wpAny_bind (wpAny_holding (wpAny_call_entry slot_list_sort ⟨_, hoL, rfl⟩ entry_list_sort (SrtO.list_sort_ord (NtL.swo_lexL k) hoL hsl (fun h2 => tups_sortable (s := { s1 with heap := hp }) h2 (show A.units + 1 + 1 < cLine by omega) hv fun o e' => ?_) fun out h1 h2 => ⟨_, rfl, ?_⟩) (args_list_sort _)))
  · have e2 : some o = some (seqObj "list" vs.toArray 0) := e'.symm.trans hoL
    cases e2
    intro c
    exact absurd (Value.type.inj c) (by decide)
  · obtain ⟨c, hc⟩ := sortedHeap_at (vs := vs) (out := out.toArray) hoL
    refine wpAny_pure ⟨_, rfl, hQ _ s1.heap.objs.size out c k (fun b u e => ?_) g1 o1 hz hc (h2.perm.trans pm) hk h1⟩
    have hlt := Heap.lt_size (k1 b u e)
    show (sortedHeap hp s1.heap.objs.size vs out.toArray).get? b = some u
    rw [sortedHeap_old (Nat.ne_of_lt hlt) (Heap.lt_size (kp b u e))]
    exact kp b u e
end
/-! ### as rules -/
section
variable {X : Cx}
def rSetI (K : PySem.W.Frag) (w : World) : List V → Hp → VK → Prop := fun xs H Q => ∃ (p : Addr) (ns : List Int), xs = [V.ref p] ∧ (SqL K H p (ns.map V.int) ∨ SqT K H p (ns.map V.int)) ∧ ns.length + 1 < scanBound ∧ ∀ a c, H a = none → c ≤ ns.length → Q (.ref a) (upd H a (SetO w a (fun j => decide (j ∈ ns)) c))
theorem cr_setI (hc : X.calm = true) : CallR X (.type "set") (rSetI X.K X.w) := by
  intro pins s σ H xs us Q I r h
  obtain ⟨p, ns, rfl, hp, hb, q⟩ := h
  rw [Vals.ref1 r]
  have hn : H s.heap.objs.size = none := I.hok.fresh (Nat.le_refl _)
  have fin : ∀ h' tk, GI X.prog X.w s ns h' → EP X pins σ Q (.ref s.heap.objs.size) { s with heap := h', toks := tk } := fun h' tk ⟨⟨c, h1, h2⟩, h3⟩ =>
    ⟨.ref s.heap.objs.size, _, I.laid (t' := tk) h3 (Nat.le_refl _) (setO_new h2), rfl, q _ c hn h1⟩
  rcases hp with hp | hp
  · obtain ⟨its, rv, pl, hz⟩ := I.list hp
    exact call_ints_list ns (I.ok.hd hc) pl.isList (by simpa using rv.ints) hb fin
  · obtain ⟨its, rv, pl, hz⟩ := I.tuple hp
    exact call_ints_tuple ns (I.ok.hd hc) (show s.heap.IsTuple p its.toArray from pl) (by simpa using rv.ints) hb fin
def rSetT (K : PySem.W.Frag) (P : Program) (w : World) : List V → Hp → VK → Prop := fun xs H Q => ∃ (l : Addr) (ks : List (Addr × List Int)), xs = [V.ref l] ∧ (SqL K H l (ks.map fun p => V.ref p.1) ∨ SqT K H l (ks.map fun p => V.ref p.1)) ∧ (∀ p ∈ ks, SqT K H p.1 (p.2.map V.int)) ∧ ks.length < 64 ∧
  ∀ a L, H a = none → (∀ p ∈ L, p ∈ ks) → (∀ p ∈ ks, p.2 ∈ L.map (·.2)) → Q (.ref a) (upd H a (SetTO P w a L))
theorem cr_setT (hc : X.calm = true) (hu : X.A.units + 8 < cLine) : CallR X (.type "set") (rSetT X.K X.prog X.w) := by
  intro pins s σ H xs us Q I r h
  obtain ⟨l, ks, rfl, hl, hk, hf, q⟩ := h
  rw [Vals.ref1 r]
  have hn : H s.heap.objs.size = none := I.hok.fresh (Nat.le_refl _)
  have fin : ∀ h' tk, GT X.prog X.w s ks h' → EP X pins σ Q (.ref s.heap.objs.size) { s with heap := h', toks := tk } := fun h' tk ⟨⟨L, es, ep, t, R, g⟩, h3⟩ =>
    ⟨.ref s.heap.objs.size, upd H s.heap.objs.size (SetTO X.prog X.w s.heap.objs.size L), I.laid (t' := tk) h3 (Nat.le_refl _) (setTO_new R.t0), rfl, q _ L hn (fun p hp => List.mem_of_mem_take (g.sub p hp)) fun p hp => g.all p (by rw [List.take_length]; exact hp)⟩
  rcases hl with hl | hl
  · obtain ⟨its, rv, pl, hz⟩ := I.list hl
    exact call_tups_list (P := X.prog) (w := X.w) ks (I.ok.hd hc) pl.isList (by simpa using refs_of_vals rv) (fun p hp => I.isT (hk p hp)) hf hu fin
  · obtain ⟨its, rv, pl, hz⟩ := I.tuple hl
    exact call_tups_tuple (P := X.prog) (w := X.w) ks (I.ok.hd hc) (show s.heap.IsTuple l its.toArray from pl) (by simpa using refs_of_vals rv) (fun p hp => I.isT (hk p hp)) hf hu fin
/-- sorted(set), tuples of ints -/
def rSortST (K : PySem.W.Frag) (P : Program) (w : World) : List V → Hp → VK → Prop := fun vs H Q => ∃ (a : Addr) (L : List (Addr × List Int)), vs = [V.ref a] ∧ H a = some (SetTO P w a L) ∧ (∀ p ∈ L, SqT K H p.1 (p.2.map V.int)) ∧
  ∀ (ts : List Addr) (k : Addr → List Int) (p : Addr), ts.Perm (L.map (·.1)) → (∀ q ∈ L, k q.1 = q.2) → (L.map (·.2)).Nodup → L.length < 64 → ts.Pairwise (fun x y => HT.lexLt (k y) (k x) = false) → H p = none → Q (.ref p) (upd H p (.lst (ts.map V.ref)))
theorem cr_sortST (hc : X.calm = true) (hu : X.A.units + 8 < cLine) : CallR X (.builtin "sorted") (rSortST X.K X.prog X.w) := by
  intro pins s σ H vs us Q I r h
  obtain ⟨a, L, rfl, ha, hk, q⟩ := h
  have R0 : SetT0 X.prog X.w s.heap a L := (I.hok a _ ha).1
  obtain ⟨es, ep, t, R⟩ := R0.full fun p hp => I.isT (hk p hp)
  rw [Vals.ref1 r]
  refine sorted_setL R (I.ok.hd hc) hu fun s' p out c k kp g o hp hg pm hk' pw => ?_
  have eo : out = (out.map adO).map Value.ref := ref_map fun u hm => by
    obtain ⟨x, _, e⟩ := List.mem_map.mp (pm.mem_iff.mp hm)
    exact ⟨x.1, e.symm⟩
  have pp : (out.map adO).Perm (L.map (·.1)) := by
    have p1 := pm.map adO
    rw [List.map_map] at p1
    exact p1
  have hlen : ((out.map adO).map V.ref).length ≤ sizeLine := by
    have := R.few
    rw [List.length_map, pp.length_eq, List.length_map, sizeLine_eq]; omega
  have hn : H p = none := I.hok.fresh hp
  have hv : Vals ((out.map adO).map V.ref) out := by
    have z := of_nts (out.map adO)
    rw [← eo] at z
    exact z
  have J : Inv X pins σ (upd H p (.lst ((out.map adO).map V.ref))) { s with heap := s'.heap, gens := s'.gens, drawn := s'.drawn, toks := s'.toks } :=
    I.call (ch := []) (Un.laid kp hp hn) (I.hok.laid kp hp ⟨hlen, out, c, hv, hg⟩) (by rw [g]; exact I.bare) (fun _ z => nomatch z)
  have e : s' = { s with heap := s'.heap, gens := s'.gens, drawn := s'.drawn, toks := s'.toks } := by
    cases s'
    cases s
    cases o
    rfl
  rw [e]
  refine ⟨.ref p, _, J, rfl, q _ (fun b => k (.ref b)) p pp hk' R.nd R.few ?_ hn⟩
  refine List.pairwise_map.mpr ?_
  have aux : ∀ {l : List Value}, (∀ u ∈ l, u ∈ out) → l.Pairwise (fun q r => HT.lexLt (k r) (k q) = false) → l.Pairwise (fun q r => HT.lexLt (k (.ref (adO r))) (k (.ref (adO q))) = false) := fun {l} hl h => List.Pairwise.imp_of_mem (fun {x y} hx hy h => by
    obtain ⟨x', _, ex⟩ := List.mem_map.mp (pm.mem_iff.mp (hl x hx))
    obtain ⟨y', _, ey⟩ := List.mem_map.mp (pm.mem_iff.mp (hl y hy))
    rw [← ex, ← ey] at h ⊢
    exact h) h
  exact aux (fun u h => h) pw
end
end St
end
section
set_option maxRecDepth 100000
set_option maxHeartbeats 4000000
/-! SortU: sorted(xs) of a tuple of ints, as a rule. -/
namespace St
open PySem PySem.W PySem.Calls PyProof.Rows L2
section
variable {P : Program} {w : World} {A : Around} {E : Value → Shared → Prop} {s : Shared}
theorem sorted_tupI {a : Addr} {vs : List Value} {ns : List Int} {Q : Value → Shared → Prop} (hl : IsTup s.heap a vs.toArray) (hi : IntsAre vs ns) (hsl : vs.length ≤ sizeLine)
    (hQ : ∀ h' p (out : List Value) (c : Nat) (ns' : List Int), (∀ b o, s.heap.get? b = some o → h'.get? b = some o) → s.heap.get? p = none → (∀ H, HOk P w H s.heap → H p = none) → h'.get? p = some (seqObj "list" out.toArray c) → IntsAre out ns' → ns'.Perm ns → ns'.Pairwise (· ≤ ·) → Q (.ref p) { s with heap := h' }) :
    wpAny (model P w) A (call (.builtin "sorted") [.ref a]) Q E s := by
  obtain ⟨o, ho, hc, n, hd⟩ := hl
  refine Calls.call_function_entry kind_sorted plain_sorted entry_sorted (args_sorted1 _) ?_
  unfold Builtin.«sorted»
  refine wpAny_bind (m := checkCount "sorted" 1 1 _) (wpAny_pure ?_)
  refine wpAny_bind (wpAny_collect_seq (A := A.in1) a (.inr rfl) ho hc hd (fun h1 k1 => ?_) (by simpa using hsl))
  rw [List.toList_toArray]
  refine wpAny_bind (wpAny_newList ?_ hsl)
  generalize hL1 : h1.push (seqObj "list" vs.toArray 0) = hp
  have hoL : hp.get? h1.objs.size = some (seqObj "list" vs.toArray 0) := by rw [← hL1]; exact Heap.get?_push_size _ rfl
  have kp : ∀ b u, s.heap.get? b = some u → hp.get? b = some u := fun b u e => by rw [← hL1]; exact Heap.get?_push_of_some _ (k1 b u e)
  have hz : s.heap.get? h1.objs.size = none := by
    cases e : s.heap.get? h1.objs.size with
    | none => rfl
    | some u => exact absurd (Heap.lt_size (k1 _ _ e)) (Nat.lt_irrefl _)
  refine wpAny_bind (wpAny_holding (wpAny_call_entry slot_list_sort ⟨_, hoL, rfl⟩ entry_list_sort (SrtO.list_sort_ord SrtO.swo_int hoL hsl (fun h2 => SrtO.ints_sortable hi h2) fun out h1' h2 => ⟨_, rfl, ?_⟩) (args_list_sort _)))
  obtain ⟨q1, q2, q3⟩ := SrtO.ints_out hi h1' h2
  obtain ⟨c, hcc⟩ := sortedHeap_at (vs := vs) (out := out.toArray) hoL
  refine wpAny_pure ⟨_, rfl, hQ _ h1.objs.size out c _ (fun b u e => ?_) hz (fun H x => (x.kept k1).fresh (Nat.le_refl _)) hcc q1 q2 q3⟩
  have hlt := Heap.lt_size (k1 b u e)
  show (sortedHeap hp h1.objs.size vs out.toArray).get? b = some u
  rw [sortedHeap_old (Nat.ne_of_lt hlt) (Heap.lt_size (kp b u e))]
  exact kp b u e
end
section
variable {X : Cx}
def rSortTI (K : PySem.W.Frag) : List V → Hp → VK → Prop := fun vs H Q => ∃ (a : Addr) (ns : List Int), vs = [V.ref a] ∧ SqT K H a (ns.map V.int) ∧
  ∀ (ns' : List Int) (p : Addr), ns'.Perm ns → ns'.Pairwise (· ≤ ·) → H p = none → Q (.ref p) (upd H p (.lst (ns'.map V.int)))
theorem cr_sortTI : CallR X (.builtin "sorted") (rSortTI X.K) := by
  intro pins s σ H vs us Q I r h
  obtain ⟨a, ns, rfl, hs, q⟩ := h
  obtain ⟨its, rv, hl, hz⟩ := I.tuple hs
  rw [Vals.ref1 r]
  have hi := rv.ints
  refine sorted_tupI hl hi (by rw [← rv.length]; exact hz) fun h' p out c ns' kp hp hf hg hv pm pw => ?_
  have hn : H p = none := hf H I.hok
  have hlen : (ns'.map V.int).length ≤ sizeLine := by
    rw [List.length_map, pm.length_eq]
    rw [List.length_map] at hz
    exact hz
  have J : Inv X pins σ (upd H p (.lst (ns'.map V.int))) { s with heap := h' } := I.laidN (t' := s.toks) kp hp hn ⟨hlen, out, c, vals_of_ints hv, hg⟩
  exact ⟨.ref p, _, J, rfl, q _ _ pm pw hn⟩
end
end St
end
section
set_option maxRecDepth 100000
/-! Snd12: built-in functions. -/
namespace Sn
open PySem PySem.Spec PyProof.Rows L2
section
variable {G : Gv} {N : List Str} {sc : Scope} {fn : Str → Bool} {X : Cx}
theorem bi_rd {b : Md.Bi} {m : Bool} {es : Md.E} {σ : L2.St} {H : Hp} {Q : VK} (h : tE G (.bi b m es) σ H Q) : tCB (rVs G (Md.biop b m)) (tA G es) σ H Q := by
  obtain ⟨F, μ, ρ, s, d, s', R, E, h, k⟩ := h
  simp only [Md.ev] at h
  obtain ⟨x, s1, h1, h⟩ := bnd_inv h
  split at h
  · rename_i vs
    exact ⟨F, μ, ρ, s, vs, s1, R, E, h1, fun xs H1 μ1 X1 R1 V1 => ⟨F, μ1, s1, vs, d, s', R1, V1, h, k.from X1⟩⟩
  · cases h
/-- f(..), f a built-in function -/
theorem r_biF {b : Md.Bi} {m : Bool} {id : String} {x : Str} {e : Expr} {es : List Expr} {ee : Md.E} {p pos : Pos} (hc : CallR X (.builtin id) (rVs G (Md.biop b m))) (hg : Gl X x) (hm : X.mg x = none) (hv : bootBuiltins x = some (.builtin id)) (hn : x ≠ "__name__") (hd : (x == ("__debug__" : Str)) = false)
    (ha : PA X (e :: es) (tA G ee)) (hs : (e :: es).all noStar = true) : PE X (.Call (.Name x p) (e :: es) [] pos) (tE G (.bi b m ee)) := by
  have hs' := hs
  rw [List.all_cons, Bool.and_eq_true] at hs'
  exact (pe_callB hc hg hm hv ha hn hd (star_ok hs'.1) (stars_ok hs'.2)).imp fun σ H Q h => bi_rd h
theorem r_biT {b : Md.Bi} {m : Bool} {T : String} {x : Str} {e : Expr} {es : List Expr} {ee : Md.E} {p pos : Pos} (hc : CallR X (.type T) (rVs G (Md.biop b m))) (hg : Gl X x) (hm : X.mg x = none) (hv : bootBuiltins x = some (.type T)) (hn : x ≠ "__name__") (hd : (x == ("__debug__" : Str)) = false)
    (ha : PA X (e :: es) (tA G ee)) (hs : (e :: es).all noStar = true) : PE X (.Call (.Name x p) (e :: es) [] pos) (tE G (.bi b m ee)) := by
  have hs' := hs
  rw [List.all_cons, Bool.and_eq_true] at hs'
  exact (pe_callTy hc hg hm hv ha hn hd (star_ok hs'.1) (stars_ok hs'.2)).imp fun σ H Q h => bi_rd h
theorem one_vs {F : Fo} {μ : List Addr} {H : Hp} {d : Md.D} {xs : List V} (V : VRs F μ H [d] xs) : ∃ v, xs = [v] ∧ VR F μ H d v := by
  simp only [VRs] at V
  obtain ⟨v, r, rfl, h, rfl⟩ := V
  exact ⟨v, rfl, h⟩
theorem two_vs {F : Fo} {μ : List Addr} {H : Hp} {d e : Md.D} {xs : List V} (V : VRs F μ H [d, e] xs) : ∃ v u, xs = [v, u] ∧ VR F μ H d v ∧ VR F μ H e u := by
  simp only [VRs] at V
  obtain ⟨v, r, rfl, h, u, r2, rfl, h2, rfl⟩ := V
  exact ⟨v, u, rfl, h, h2⟩
theorem mk_eta {m : Bool} {ds : List Md.D} {s s' : Md.St} {d : Md.D} {Q : VK} {F : Fo} {μ : List Addr} {H : Hp} (e : Md.mk m ds s = (d, s')) (k : KE G F μ H d s' Q) : KE G F μ H (Md.mk m ds s).1 (Md.mk m ds s).2 Q := by rw [e]; exact k
theorem op1_inv {β : Type} {f : Md.D → Option β} {vs : List Md.D} {r : β} (h : Md.op1 f vs = some r) : ∃ x, vs = [x] ∧ f x = some r := by
  unfold Md.op1 at h
  split at h
  · exact ⟨_, rfl, h⟩
  · cases h
theorem op2_inv {β : Type} {f : Md.D → Md.D → Option β} {vs : List Md.D} {r : β} (h : Md.op2 f vs = some r) : ∃ x y, vs = [x, y] ∧ f x y = some r := by
  unfold Md.op2 at h
  split at h
  · exact ⟨_, _, rfl, h⟩
  · cases h
/-- one argument -/
def r1 (G : Gv) (f : Md.D → Md.St → Option (Md.D × Md.St)) : List V → Hp → VK → Prop := fun xs H Q => ∃ F μ s v x d s', xs = [v] ∧ RS G.K F μ H s ∧ VR F μ H x v ∧ f x s = some (d, s') ∧ KE G F μ H d s' Q
theorem cr1 {f : Value} {b : Md.Bi} {m : Bool} {g : Md.D → Md.St → Option (Md.D × Md.St)} (hb : ∀ vs s, Md.biop b m vs s = Md.op1 (fun x => g x s) vs) (h : CallR X f (r1 G g)) : CallR X f (rVs G (Md.biop b m)) := by
  intro pins st σ H xs us Q I r ⟨F, μ, s, ds, d, s', R, V, e, k⟩
  rw [hb] at e
  obtain ⟨x, rfl, e⟩ := op1_inv e
  obtain ⟨v, rfl, V1⟩ := one_vs V
  exact h pins st σ H _ us Q I r ⟨F, μ, s, v, x, d, s', rfl, R, V1, e, k⟩
def r2v (G : Gv) (f : Md.D → Md.D → Md.St → Option (Md.D × Md.St)) : List V → Hp → VK → Prop := fun xs H Q => ∃ F μ s v u x y d s', xs = [v, u] ∧ RS G.K F μ H s ∧ VR F μ H x v ∧ VR F μ H y u ∧ f x y s = some (d, s') ∧ KE G F μ H d s' Q
theorem cr2 {f : Value} {b : Md.Bi} {m : Bool} {g : Md.D → Md.D → Md.St → Option (Md.D × Md.St)} (hb : ∀ vs s, Md.biop b m vs s = Md.op2 (fun x y => g x y s) vs) (h : CallR X f (r2v G g)) : CallR X f (rVs G (Md.biop b m)) := by
  intro pins st σ H xs us Q I r ⟨F, μ, s, ds, d, s', R, V, e, k⟩
  rw [hb] at e
  obtain ⟨x, y, rfl, e⟩ := op2_inv e
  obtain ⟨v, u, rfl, V1, V2⟩ := two_vs V
  exact h pins st σ H _ us Q I r ⟨F, μ, s, v, u, x, y, d, s', rfl, R, V1, V2, e, k⟩
/-! ### len, abs, max, min, int, list, tuple, all -/
theorem c_len (C : XC G N sc fn X) (m : Bool) : CallR X (.builtin "len") (rVs G (Md.biop .len m)) := cr1 (g := fun x s => Md.lenB s x) (fun _ _ => rfl) <| by
  intro pins st σ H xs us Q I r ⟨F, μ, s, v, x, d, s', ex, R, V, h, k⟩
  subst ex
  simp only [Md.lenB, Option.map_eq_some_iff] at h
  obtain ⟨n, h1, h2⟩ := h
  cases h2
  have fin : ∀ {m : Nat}, m = n → Q (.int m) H := fun {m} e => by subst e; exact k.now R (by simp only [VR])
  cases x with
  | str y =>
    simp only [Md.lenOf] at h1
    split at h1
    · rename_i hc
      cases h1
      simp only [VR] at V
      subst V
      exact call_len_str pins st σ H _ us Q I r ⟨y, rfl, capLine hc, fin rfl⟩
    · cases h1
  | tup ys =>
    simp only [Md.lenOf, Option.some.injEq] at h1
    obtain ⟨a, vs, rfl, h2, h3⟩ := tup_at V
    exact call_len_seq pins st σ H _ us Q I r ⟨a, vs, rfl, .inr (.of h2), fin (by rw [← h3.len]; exact h1)⟩
  | lst ys =>
    simp only [Md.lenOf, Option.some.injEq] at h1
    simp only [VR] at V
    obtain ⟨a, vs, rfl, h2, _, _, h3⟩ := V
    exact call_len_seq pins st σ H _ us Q I r ⟨a, vs, rfl, .inl (.of h2), fin (by rw [← h3.len]; exact h1)⟩
  | scr ns =>
    simp only [Md.lenOf, Option.some.injEq] at h1
    simp only [VR] at V
    obtain ⟨a, rfl, h2⟩ := V
    refine call_len_seq pins st σ H _ us Q I r ⟨a, ns.map V.int, rfl, .inl ?_, fin (by rw [List.length_map]; exact h1)⟩
    rcases h2 with ⟨o, h2, _⟩ | h2
    · exact .inl (.inr ⟨o, h2⟩)
    · exact .inr (by rw [C.hK, ← R.kk]; exact h2)
  | ref j =>
    simp only [Md.lenOf] at h1
    simp only [VR] at V
    obtain ⟨a, rfl, ha⟩ := V
    split at h1
    · rename_i ys e
      cases h1
      obtain ⟨vs, h2, h3⟩ := R.ob j _ a e ha
      exact call_len_seq pins st σ H _ us Q I r ⟨a, vs, rfl, .inl (.of h2), fin (by rw [← h3.len])⟩
    · rename_i ys e
      cases h1
      obtain ⟨vs, h2, h3⟩ := R.ob j _ a e ha
      obtain ⟨u, rfl, ru⟩ := vals1 r
      cases ru
      exact d_len I (.inl h2) fun t s2 I2 => ⟨.int vs.length, H, I2, ⟨t, rfl⟩, fin (by rw [← h3.len])⟩
    · cases h1
  | _ => simp [Md.lenOf] at h1
theorem c_abs (C : XC G N sc fn X) (m : Bool) : CallR X (.builtin "abs") (rVs G (Md.biop .abs m)) := cr1 (g := fun x s => Md.absB s x) (fun _ _ => rfl) <| by
  intro pins st σ H xs us Q I r ⟨F, μ, s, v, x, d, s', ex, R, V, h, k⟩
  subst ex
  cases x <;> simp only [Md.absB, reduceCtorEq] at h
  cases h
  simp only [VR] at V
  subst V
  exact call_abs pins st σ H _ us Q I r ⟨_, rfl, k.now R (by simp only [VR])⟩
theorem c_max2 (C : XC G N sc fn X) (m : Bool) : CallR X (.builtin "max") (rVs G (Md.biop .max2 m)) := cr2 (g := fun x y s => Md.max2B s x y) (fun _ _ => rfl) <| by
  intro pins st σ H xs us Q I r ⟨F, μ, s, v, u, x, y, d, s', ex, R, V, V2, h, k⟩
  subst ex
  have h : Md.max2B s x y = some (d, s') := h
  unfold Md.max2B at h
  split at h
  · cases h
    simp only [VR] at V V2
    subst V V2
    exact call_max2 C.calm pins st σ H _ us Q I r ⟨_, _, rfl, k.now R (by simp only [VR])⟩
  · cases h
theorem c_min2 (C : XC G N sc fn X) (m : Bool) : CallR X (.builtin "min") (rVs G (Md.biop .min2 m)) := cr2 (g := fun x y s => Md.min2B s x y) (fun _ _ => rfl) <| by
  intro pins st σ H xs us Q I r ⟨F, μ, s, v, u, x, y, d, s', ex, R, V, V2, h, k⟩
  subst ex
  have h : Md.min2B s x y = some (d, s') := h
  unfold Md.min2B at h
  split at h
  · cases h
    simp only [VR] at V V2
    subst V V2
    exact call_min2 C.calm pins st σ H _ us Q I r ⟨_, _, rfl, k.now R (by simp only [VR])⟩
  · cases h
theorem c_int (C : XC G N sc fn X) (m : Bool) : CallR X (.type "int") (rVs G (Md.biop .int m)) := cr1 (g := fun x s => Md.intB s x) (fun _ _ => rfl) <| by
  intro pins st σ H xs us Q I r ⟨F, μ, s, v, x, d, s', ex, R, V, h, k⟩
  subst ex
  cases x <;> simp only [Md.intB, reduceCtorEq] at h
  · cases h
    simp only [VR] at V
    subst V
    exact call_int1 pins st σ H _ us Q I r (.inr ⟨_, rfl, k.now R (by simp only [VR])⟩)
  · cases h
    simp only [VR] at V
    subst V
    exact call_int1 pins st σ H _ us Q I r (.inl ⟨_, rfl, k.now R (by simp only [VR])⟩)
theorem seq_sq {K : PySem.W.Frag} {H : Hp} {a : Addr} {vs : List V} (h : Rd H a (.lst vs) ∨ H a = some (.tup vs)) : SqL K H a vs ∨ SqT K H a vs := by
  rcases h with h | h
  · exact .inl (.inl h)
  · exact .inr (.of h)
theorem c_list (C : XC G N sc fn X) (m : Bool) : CallR X (.type "list") (rVs G (Md.biop .list m)) := cr1 (g := fun x s => Md.listB m s x) (fun _ _ => rfl) <| by
  intro pins st σ H xs us Q I r ⟨F, μ, s, v, x, d, s', ex, R, V, h, k⟩
  subst ex
  simp only [Md.listB, Option.map_eq_some_iff] at h
  obtain ⟨ys, e, h⟩ := h
  obtain ⟨a, vs, rfl, h1, h2⟩ := seqOf_ok R V e
  exact call_list_of pins st σ H _ us Q I r ⟨a, vs, rfl, seq_sq h1, fun p hp => (mk_eta h k).mk R h2 hp⟩
theorem c_tuple (C : XC G N sc fn X) (m : Bool) : CallR X (.type "tuple") (rVs G (Md.biop .tuple m)) := cr1 (g := fun x s => Md.tupleB s x) (fun _ _ => rfl) <| by
  intro pins st σ H xs us Q I r ⟨F, μ, s, v, x, d, s', ex, R, V, h, k⟩
  subst ex
  simp only [Md.tupleB, Option.map_eq_some_iff] at h
  obtain ⟨ys, e, h⟩ := h
  cases h
  cases x with
  | tup zs =>
    simp only [Md.seqOf, Option.some.injEq] at e
    subst e
    obtain ⟨a, vs, rfl, h1, h2⟩ := tup_at V
    exact call_tuple_of pins st σ H _ us Q I r ⟨a, vs, rfl, .inr ⟨.of h1, k.now R V⟩⟩
  | lst zs =>
    obtain ⟨a, vs, rfl, h1, h2⟩ := lstOf_ok R V (show Md.lstOf _ (.lst zs) = some ys from e)
    exact call_tuple_of pins st σ H _ us Q I r ⟨a, vs, rfl, .inl ⟨.inl h1, fun p hp => k.tup R h2 hp⟩⟩
  | ref n =>
    obtain ⟨a, vs, rfl, h1, h2⟩ := lstOf_ok R V (show Md.lstOf _ (.ref n) = some ys from e)
    exact call_tuple_of pins st σ H _ us Q I r ⟨a, vs, rfl, .inl ⟨.inl h1, fun p hp => k.tup R h2 hp⟩⟩
  | _ => simp [Md.seqOf, Md.lstOf] at e
theorem allB_vs {F : Fo} {μ : List Addr} {H : Hp} : ∀ {ds : List Md.D} {vs : List V} {bs : List Bool}, VRs F μ H ds vs → Md.allB ds = some bs → vs = bs.map V.bl
  | [], vs, bs, V, h => by simp only [Md.allB, Option.some.injEq] at h; subst h; simpa [VRs] using V
  | d :: ds, vs, bs, V, h => by
    simp only [VRs] at V
    obtain ⟨v, r, rfl, h1, h2⟩ := V
    cases d <;> simp only [Md.allB, reduceCtorEq] at h
    simp only [Option.map_eq_some_iff] at h
    obtain ⟨bs', e, rfl⟩ := h
    simp only [VR] at h1
    rw [h1, allB_vs h2 e]; rfl
theorem c_all (C : XC G N sc fn X) (m : Bool) : CallR X (.builtin "all") (rVs G (Md.biop .all m)) := cr1 (g := fun x s => Md.allBB s x) (fun _ _ => rfl) <| by
  intro pins st σ H xs us Q I r ⟨F, μ, s, v, x, d, s', ex, R, V, h, k⟩
  subst ex
  have h : Md.allBB s x = some (d, s') := h
  unfold Md.allBB at h
  split at h
  · rename_i ys e
    simp only [Option.map_eq_some_iff] at h
    obtain ⟨bs, h1, h2⟩ := h
    cases h2
    obtain ⟨a, vs, rfl, h3, h4⟩ := lstOf_ok R V e
    rw [allB_vs h4 h1] at h3
    exact cr_all C.calm pins st σ H _ us Q I r ⟨a, bs, rfl, .inl h3, k.now R (by simp only [VR])⟩
  · cases h
/-! ### sorted -/
theorem hom0_of {d : Md.D} (h : Md.homD 0 d = true) : ∃ i, d = .int i := by
  cases d <;> simp only [Md.homD, Bool.false_eq_true] at h
  exact ⟨_, rfl⟩
/-- the order, on ints and on tuples of ints -/
theorem ltB_int (a b : Int) : Md.ltB (.int a) (.int b) = decide (a < b) := by simp [Md.ltB, Md.ltD]
theorem ltB_tup (a b : List Int) : Md.ltB (.tup (a.map .int)) (.tup (b.map .int)) = HT.lexLt a b := by simp [Md.ltB, Md.ltD, ltDs_ints]
section
variable {α : Type} {lt : α → α → Bool}
theorem insD_perm (x : α) : ∀ l : List α, (Md.insD lt x l).Perm (x :: l)
  | [] => List.Perm.refl _
  | y :: l => by
    simp only [Md.insD]
    split
    · exact ((insD_perm x l).cons y).trans (List.Perm.swap x y l)
    · exact List.Perm.refl _
theorem isort_perm : ∀ l : List α, (Md.isort lt l).Perm l
  | [] => List.Perm.refl _
  | x :: l => (insD_perm x _).trans ((isort_perm l).cons x)
theorem insD_sorted (O : SrtO.Swo lt) (x : α) : ∀ {l : List α}, l.Pairwise (fun a b => lt b a = false) → (Md.insD lt x l).Pairwise fun a b => lt b a = false
  | [], _ => List.pairwise_singleton _ _
  | y :: l, h => by
    obtain ⟨h1, h2⟩ := List.pairwise_cons.mp h
    simp only [Md.insD]
    split
    · rename_i c
      refine List.pairwise_cons.mpr ⟨fun z hz => ?_, insD_sorted O x h2⟩
      rcases List.mem_cons.mp ((insD_perm x l).mem_iff.mp hz) with rfl | hz
      · exact O.asym _ _ c
      · exact h1 z hz
    · rename_i c
      have c : lt y x = false := by simpa using c
      refine List.pairwise_cons.mpr ⟨fun z hz => ?_, h⟩
      rcases List.mem_cons.mp hz with rfl | hz
      · exact c
      · exact O.tr _ _ _ c (h1 z hz)
theorem isort_sorted (O : SrtO.Swo lt) : ∀ l : List α, (Md.isort lt l).Pairwise fun a b => lt b a = false
  | [] => List.Pairwise.nil
  | x :: l => insD_sorted O x (isort_sorted O l)
/-- sorted in one way alone -/
theorem sorted_eq (anti : ∀ x y, lt x y = false → lt y x = false → x = y) : ∀ {l m : List α}, l.Perm m → l.Pairwise (fun a b => lt b a = false) → m.Pairwise (fun a b => lt b a = false) → l = m := by
  intro l m p h g
  exact List.Perm.eq_of_pairwise (le := fun a b => lt b a = false) (fun a b _ _ h1 h2 => anti a b h2 h1) h g p
end
theorem lex_anti : ∀ a b : List Int, HT.lexLt a b = false → HT.lexLt b a = false → a = b
  | [], [], _, _ => rfl
  | [], y :: ys, h, _ => by rw [HT.lexLt_nil_cons] at h; cases h
  | x :: xs, [], _, h => by rw [HT.lexLt_nil_cons] at h; cases h
  | x :: xs, y :: ys, h, g => by
    rw [HT.lexLt_cons] at h g
    by_cases e : x = y
    · rw [if_pos e] at h
      rw [if_pos e.symm] at g
      rw [e, lex_anti xs ys h g]
    · rw [if_neg e] at h
      rw [if_neg (Ne.symm e)] at g
      have a := of_decide_eq_false h
      have b := of_decide_eq_false g
      omega
theorem isort_map {α β : Type} {lt : α → α → Bool} {lt' : β → β → Bool} (f : α → β) (h : ∀ x y, lt' (f x) (f y) = lt x y) : ∀ l : List α, Md.isort lt' (l.map f) = (Md.isort lt l).map f
  | [] => rfl
  | x :: l => by
    have ins : ∀ l : List α, Md.insD lt' (f x) (l.map f) = (Md.insD lt x l).map f := by
      intro l
      induction l with
      | nil => rfl
      | cons y l ih =>
        simp only [List.map_cons, Md.insD, h]
        split
        · rw [ih]; rfl
        · rfl
    simp only [List.map_cons, Md.isort]
    rw [isort_map f h l, ins]
def ltI (a b : Int) : Bool := decide (a < b)
theorem swoI : SrtO.Swo ltI := ⟨fun x y h => by unfold ltI at *; simp at *; omega, fun x y z h g => by unfold ltI at *; simp at *; omega⟩
theorem isort_ints {ns ns' : List Int} (p : ns'.Perm ns) (h : ns'.Pairwise (· ≤ ·)) : Md.isort Md.ltB (ns.map Md.D.int) = ns'.map Md.D.int := by
  rw [isort_map (lt := ltI) Md.D.int (fun x y => ltB_int x y)]
  congr 1
  refine sorted_eq (lt := ltI) (fun x y h g => by unfold ltI at *; simp at *; omega) ((isort_perm ns).trans p.symm) (isort_sorted swoI ns) (h.imp fun {a b} h => by unfold ltI; simp; exact h)
def tupI (ns : List Int) : Md.D := .tup (ns.map .int)
theorem isort_tups {ks ks' : List (List Int)} (p : ks'.Perm ks) (h : ks'.Pairwise fun x y => HT.lexLt y x = false) : Md.isort Md.ltB (ks.map tupI) = ks'.map tupI := by
  rw [isort_map (lt := HT.lexLt) tupI (fun x y => ltB_tup x y)]
  congr 1
  exact sorted_eq lex_anti ((isort_perm ks).trans p.symm) (isort_sorted (NtL.swo_lexL id) ks) h
/-- the tuples of ints -/
theorem hom1s : ∀ {xs : List Md.D}, xs.all (Md.homD 1) = true → ∃ ks : List (List Int), xs = ks.map tupI
  | [], _ => ⟨[], rfl⟩
  | x :: xs, h => by
    rw [List.all_cons, Bool.and_eq_true] at h
    obtain ⟨ks, e⟩ := hom1s h.2
    obtain ⟨ns, e2⟩ := hom1 h.1
    exact ⟨ns :: ks, by rw [e, e2]; rfl⟩
/-- where they stand -/
theorem tups_at {F : Fo} {μ : List Addr} {H : Hp} : ∀ {ks : List (List Int)} {vs : List V}, VRs F μ H (ks.map tupI) vs → ∃ ps : List (Addr × List Int), vs = ps.map (fun p => V.ref p.1) ∧ ps.map (·.2) = ks ∧ ∀ p ∈ ps, H p.1 = some (.tup (p.2.map V.int))
  | [], vs, h => by
    simp only [List.map_nil, VRs] at h
    exact ⟨[], by rw [h]; rfl, rfl, fun p hp => absurd hp (by simp)⟩
  | k :: ks, vs, h => by
    simp only [List.map_cons, VRs] at h
    obtain ⟨v, r, rfl, h1, h2⟩ := h
    obtain ⟨a, us, rfl, h3, h4⟩ := tup_at h1
    obtain ⟨ps, e1, e2, e3⟩ := tups_at h2
    refine ⟨(a, k) :: ps, by rw [e1]; rfl, by rw [← e2]; rfl, fun p hp => ?_⟩
    rcases List.mem_cons.mp hp with rfl | hp
    · rw [h3, h4.ints]
    · exact e3 p hp
theorem vrs_tups {F : Fo} {μ : List Addr} {H : Hp} : ∀ {ps : List (Addr × List Int)}, (∀ p ∈ ps, H p.1 = some (.tup (p.2.map V.int))) → VRs F μ H (ps.map fun p => tupI p.2) (ps.map fun p => V.ref p.1)
  | [], _ => by simp [VRs]
  | p :: ps, h => by
    simp only [List.map_cons]
    refine .cons ?_ (vrs_tups fun q hq => h q (List.mem_cons_of_mem _ hq))
    unfold tupI
    simp only [VR]
    exact ⟨p.1, _, rfl, h p List.mem_cons_self, VRs.of_ints p.2⟩
end
end Sn
end
section
set_option maxRecDepth 100000
/-! Snd13: sorted, sorted(set(..)). -/
namespace Sn
open PySem PySem.Spec PyProof.Rows L2
section
variable {α : Type} [DecidableEq α]
theorem mem_dedup {a : α} : ∀ {l : List α}, a ∈ Md.dedup l ↔ a ∈ l
  | [] => by simp [Md.dedup]
  | x :: l => by
    simp only [Md.dedup]
    split
    · rename_i h
      rw [mem_dedup, List.mem_cons]
      exact ⟨.inr, fun z => z.elim (fun e => e ▸ h) id⟩
    · rw [List.mem_cons, List.mem_cons, mem_dedup]
theorem nodup_dedup : ∀ l : List α, (Md.dedup l).Nodup
  | [] => List.nodup_nil
  | x :: l => by
    simp only [Md.dedup]
    split
    · exact nodup_dedup l
    · rename_i h
      exact List.nodup_cons.mpr ⟨fun z => h (mem_dedup.mp z), nodup_dedup l⟩
theorem dedup_map {β : Type} [DecidableEq β] (f : α → β) (inj : ∀ x y, f x = f y → x = y) : ∀ l : List α, Md.dedup (l.map f) = (Md.dedup l).map f
  | [] => rfl
  | x :: l => by
    have e : (f x ∈ l.map f) ↔ x ∈ l := ⟨fun h => by
      obtain ⟨y, hy, e⟩ := List.mem_map.mp h
      exact inj _ _ e ▸ hy, fun h => List.mem_map.mpr ⟨x, h, rfl⟩⟩
    simp only [List.map_cons, Md.dedup]
    by_cases h : x ∈ l
    · rw [if_pos h, if_pos (e.mpr h), dedup_map f inj l]
    · rw [if_neg h, if_neg (fun z => h (e.mp z)), dedup_map f inj l]; rfl
end
theorem tupI_inj (x y : List Int) (h : tupI x = tupI y) : x = y := by
  unfold tupI at h
  have h := Md.D.tup.inj h
  exact (List.map_inj_right (fun a b e => Md.D.int.inj e)).mp h
section
variable {G : Gv} {N : List Str} {sc : Scope} {fn : Str → Bool} {X : Cx}
theorem intKeys_ok {F : Fo} {μ : List Addr} {H : Hp} : ∀ {kvs : List (Md.KK × Md.D)} {us : List (Key × V)} {xs : List Md.D}, KR F μ H kvs us → Md.intKeys kvs = some xs → ∃ ks : List Int, xs = ks.map .int ∧ us.map (·.1) = ks.map Sum.inl ∧ ks.length = kvs.length
  | [], us, xs, h, e => by
    simp only [KR] at h
    simp only [Md.intKeys, Option.some.injEq] at e
    exact ⟨[], by rw [← e]; rfl, by rw [h]; rfl, rfl⟩
  | (k, d) :: kvs, us, xs, h, e => by
    simp only [KR] at h
    obtain ⟨v, t, rfl, _, h2⟩ := h
    cases k with
    | inl i =>
      simp only [Md.intKeys, Option.map_eq_some_iff] at e
      obtain ⟨ys, e1, rfl⟩ := e
      obtain ⟨ks, a1, a2, a3⟩ := intKeys_ok h2 e1
      exact ⟨i :: ks, by rw [a1]; rfl, by simp [a2], by simp [a3]⟩
    | inr x => simp [Md.intKeys] at e
theorem sortD_inv {xs ys : List Md.D} (h : Md.sortD xs = some ys) : ys = Md.isort Md.ltB xs ∧ ((∃ ns : List Int, xs = ns.map .int) ∨ ∃ ks : List (List Int), xs = ks.map tupI) := by
  unfold Md.sortD at h
  split at h
  · rename_i c
    cases h
    refine ⟨rfl, ?_⟩
    unfold Md.homs at c
    rcases Bool.or_eq_true _ _ ▸ c with c | c
    · exact .inl (hom0 c)
    · exact .inr (hom1s c)
  · cases h
theorem c_sorted (C : XC G N sc fn X) (m : Bool) : CallR X (.builtin "sorted") (rVs G (Md.biop .sorted m)) := cr1 (g := fun x s => Md.sortedB m s x) (fun _ _ => rfl) <| by
  intro pins st σ H xs us Q I r ⟨F, μ, s, v, x, d, s', ex, R, hV, h, k⟩
  subst ex
  have h : Md.sortedB m s x = some (d, s') := h
  unfold Md.sortedB at h
  split at h
  · rename_i zs e
    simp only [Option.map_eq_some_iff] at h
    obtain ⟨ys, h1, h2⟩ := h
    have k := mk_eta h2 k
    obtain ⟨rfl, ho⟩ := sortD_inv h1
    have list : ∀ {a : Addr} {vs : List V}, v = .ref a → Rd H a (.lst vs) → VRs F μ H zs vs → wpAny (model X.prog X.w) X.A (call (.builtin "sorted") us) (EP X pins σ Q) X.xe st := by
      intro a vs ev hr hv
      subst ev
      rcases ho with ⟨ns, rfl⟩ | ⟨ks, rfl⟩
      · rw [hv.ints] at hr
        refine cr_sortedI pins st σ H _ us Q I r ⟨a, ns, rfl, .inl hr, fun ns' p hp hs hn => ?_⟩
        rw [isort_ints hp hs] at k
        exact k.mk R (VRs.of_ints ns') hn
      · obtain ⟨ps, e1, e2, e3⟩ := tups_at hv
        rw [e1] at hr
        obtain ⟨kf, hkf⟩ : ∃ kf : Addr → List Int, ∀ p ∈ ps, kf p.1 = p.2 := by
          refine ⟨fun b => match H b with
            | some (.tup us) => us.map fun u => match u with
              | .int i => i
              | _ => 0
            | _ => [], fun p hp => ?_⟩
          simp only [e3 p hp, List.map_map]
          exact (List.map_congr_left fun _ _ => rfl).trans (List.map_id p.2)
        have e4 : ps.map (fun p => V.ref p.1) = (ps.map (·.1)).map V.ref := by rw [List.map_map]; rfl
        rw [e4] at hr
        refine St.cr_sortL (by have := C.un; omega) pins st σ H _ us Q I r ⟨a, ps.map (·.1), kf, rfl, .inl hr, fun t ht => ?_, fun ts' p hp hs hn => ?_⟩
        · obtain ⟨q, hq, rfl⟩ := List.mem_map.mp ht
          rw [hkf q hq]
          exact .of (e3 q hq)
        · have hpk : (ts'.map kf).Perm ks := by
            have h1 := hp.map kf
            rw [List.map_map] at h1
            rw [← e2]
            refine h1.trans (List.Perm.of_eq (List.map_congr_left fun q hq => hkf q hq))
          have hsk : (ts'.map kf).Pairwise fun x y => HT.lexLt y x = false := List.pairwise_map.mpr hs
          rw [isort_tups hpk hsk] at k
          refine k.mk R ?_ hn
          have hts : ∀ t ∈ ts', H t = some (.tup ((kf t).map V.int)) := fun t ht => by
            obtain ⟨q, hq, rfl⟩ := List.mem_map.mp (hp.mem_iff.mp ht)
            rw [hkf q hq]; exact e3 q hq
          have := vrs_tups (F := F) (μ := μ) (ps := ts'.map fun t => (t, kf t)) fun p hp => by
            obtain ⟨t, ht, rfl⟩ := List.mem_map.mp hp
            exact hts t ht
          simpa only [List.map_map, Function.comp_def] using this
    cases x with
    | lst ys =>
      simp only [Md.sortArg, Option.some.injEq] at e
      subst e
      simp only [VR] at hV
      obtain ⟨a, vs, ev, hr, _, _, hv⟩ := hV
      exact list ev (.inl hr) hv
    | ref n =>
      simp only [Md.sortArg] at e
      simp only [VR] at hV
      obtain ⟨a, ev, ha⟩ := hV
      split at e
      · rename_i ys e1
        cases e
        obtain ⟨vs, h3, h4⟩ := R.ob n _ a e1 ha
        exact list ev (.inl h3) h4
      · rename_i kvs e1
        split at e
        · rename_i hc
          obtain ⟨us', h3, h4⟩ := R.ob n _ a e1 ha
          obtain ⟨ks, rfl, h5, h6⟩ := intKeys_ok h4 e
          subst ev
          refine call_sortedDI C.calm pins st σ H _ us Q I r ⟨a, us', ks, rfl, .inl h3, h5, by omega, fun ys p hp hs hn => ?_⟩
          rw [isort_ints hp hs] at k
          exact k.mk R (VRs.of_ints ys) hn
        · cases e
      · cases e
    | tup ys =>
      simp only [Md.sortArg] at e
      split at e
      · rename_i hc
        cases e
        obtain ⟨ns, rfl⟩ := hom0 hc
        obtain ⟨a, vs, rfl, hr, hv⟩ := tup_at hV
        rw [hv.ints] at hr
        refine St.cr_sortTI pins st σ H _ us Q I r ⟨a, ns, rfl, .inl (.inl hr), fun ns' p hp hs hn => ?_⟩
        rw [isort_ints hp hs] at k
        exact k.mk R (VRs.of_ints ns') hn
      · cases e
    | _ => simp [Md.sortArg] at e
  · cases h
/-! ### sorted(set(x)) -/
theorem line64 {n : Nat} (h : n < 64) : n + 1 < scanBound := by unfold scanBound; omega
def rSetA (X : Cx) : List V → Hp → VK → Prop := fun xs H Q => St.rSetI X.K X.w xs H Q ∨ St.rSetT X.K X.prog X.w xs H Q
def rSrtA (X : Cx) : List V → Hp → VK → Prop := fun xs H Q => rSortedSet X.w xs H Q ∨ St.rSortST X.K X.prog X.w xs H Q
theorem perm_of_mem {α : Type} {l m : List α} (h1 : l.Nodup) (h2 : m.Nodup) (h : ∀ a, a ∈ l ↔ a ∈ m) : l.Perm m := (List.perm_ext_iff_of_nodup h1 h2).mpr h
theorem small_inv {xs : List Md.D} (h : Md.smallT xs = true) : xs.length < 64 ∧ ((∃ ns : List Int, xs = ns.map .int) ∨ ∃ ks : List (List Int), xs = ks.map tupI) := by
  unfold Md.smallT at h
  rw [Bool.and_eq_true, Bool.or_eq_true, decide_eq_true_eq] at h
  exact ⟨h.1, h.2.elim (fun c => .inl (hom0 c)) fun c => .inr (hom1s c)⟩
theorem sortSet_rd {m : Bool} {ee : Md.E} {σ : L2.St} {H : Hp} {Q : VK} (h : tE G (.bi .sortSet m ee) σ H Q) : tCB (rSrtA X) (tCons (tCB (rSetA X) (tA G ee)) tNil) σ H Q := by
  obtain ⟨F, μ, ρ, s, d, s', R, E, h, k⟩ := h
  simp only [Md.ev] at h
  obtain ⟨x0, s1, h1', h⟩ := bnd_inv h
  split at h
  case h_2 => cases h
  rename_i ds
  have h : Md.op1 (Md.sortSetB m s1) ds = some (d, s') := h
  obtain ⟨x, rfl, hq⟩ := op1_inv h
  clear h
  have h := hq
  clear hq
  unfold Md.sortSetB at h
  split at h
  · rename_i xs e
    split at h
    · rename_i hc
      have k := mk_eta (Option.some.inj h) k
      obtain ⟨h64, ho⟩ := small_inv hc
      refine ⟨F, μ, ρ, s, [x], s1, R, E, h1', fun xs H1 μ1 X1 R1 V0 => ?_⟩
      obtain ⟨v, rfl, V1⟩ := one_vs V0
      obtain ⟨a, vs, rfl, hr, hv⟩ := seqOf_ok R1 V1 e
      have hq : SqL X.K H1 a vs ∨ SqT X.K H1 a vs := seq_sq hr
      have k := k.from X1
      rcases ho with ⟨ns, rfl⟩ | ⟨ks, rfl⟩
      · rw [hv.ints] at hq
        refine .inl ⟨a, ns, rfl, hq, line64 (by simpa using h64), fun b c hb hc' => ?_⟩
        refine .inl ⟨b, _, c, rfl, upd_same, by simp at h64; omega, fun ns' p hs hm hl hp => ?_⟩
        have hp' : ns'.Perm (Md.dedup ns) := perm_of_mem (hs.imp fun {a b} h => Int.ne_of_lt h) (nodup_dedup ns) fun j => by rw [hm j, decide_eq_true_eq, mem_dedup]
        have e2 : Md.dedup (ns.map Md.D.int) = (Md.dedup ns).map Md.D.int := dedup_map Md.D.int (fun x y e => Md.D.int.inj e) ns
        rw [e2, isort_ints hp' (hs.imp fun {a b} h => Int.le_of_lt h)] at k
        exact (k.from (Xt.upd hb)).mk (R1.upd hb) (VRs.of_ints ns') hp
      · obtain ⟨ps, e1, e2, e3⟩ := tups_at hv
        rw [e1] at hq
        have hpl : ps.length < 64 := by
          have := congrArg List.length e2
          simp at this h64; omega
        refine .inr ⟨a, ps, rfl, hq, fun p hp => .of (e3 p hp), hpl, fun b L hb hL1 hL2 => ?_⟩
        have ne : ∀ q ∈ L, q.1 ≠ b := fun q hq z => by
          have := e3 q (hL1 q hq)
          rw [z, hb] at this; cases this
        have hL : ∀ q ∈ L, (upd H1 b (SetTO X.prog X.w b L)) q.1 = some (.tup (q.2.map V.int)) := fun q hq => by rw [upd_ne (ne q hq)]; exact e3 q (hL1 q hq)
        refine .inr ⟨b, L, rfl, upd_same, fun q hq => .of (hL q hq), fun ts kf p hp hk hnd hl64 hs hn => ?_⟩
        have hpk : (ts.map kf).Perm (Md.dedup ks) := by
          have h1 : (ts.map kf).Perm (L.map (·.2)) := by
            have := hp.map kf
            rw [List.map_map] at this
            exact this.trans (List.Perm.of_eq (List.map_congr_left fun q hq => hk q hq))
          refine h1.trans (perm_of_mem hnd (nodup_dedup ks) fun y => ?_)
          rw [mem_dedup]
          constructor
          · intro h
            obtain ⟨q, hq, rfl⟩ := List.mem_map.mp h
            rw [← e2]
            exact List.mem_map.mpr ⟨q, hL1 q hq, rfl⟩
          · intro h
            rw [← e2] at h
            obtain ⟨q, hq, rfl⟩ := List.mem_map.mp h
            exact hL2 q hq
        have e4 : Md.dedup (ks.map tupI) = (Md.dedup ks).map tupI := dedup_map tupI tupI_inj ks
        rw [e4, isort_tups hpk (List.pairwise_map.mpr hs)] at k
        refine (k.from (Xt.upd hb)).mk (R1.upd hb) ?_ hn
        have hts : ∀ t ∈ ts, (upd H1 b (SetTO X.prog X.w b L)) t = some (.tup ((kf t).map V.int)) := fun t ht => by
          obtain ⟨q, hq, rfl⟩ := List.mem_map.mp (hp.mem_iff.mp ht)
          rw [hk q hq]; exact hL q hq
        have := vrs_tups (F := F) (μ := μ1) (ps := ts.map fun t => (t, kf t)) fun p hp => by
          obtain ⟨t, ht, rfl⟩ := List.mem_map.mp hp
          exact hts t ht
        simpa only [List.map_map, Function.comp_def] using this
    · cases h
  · cases h
theorem r_sortSet (O : GOk G) (C : XC G N sc fn X) {m : Bool} {a : Expr} {ee : Md.E} {p p2 q pos : Pos} (hg : Gl X "sorted") (hg2 : Gl X "set") (ha : PA X [a] (tA G ee)) (hs : noStar a = true) : PE X (.Call (.Name "sorted" p) [.Call (.Name "set" p2) [a] [] q] [] pos) (tE G (.bi .sortSet m ee)) := by
  have hm : X.mg "sorted" = none := by rw [C.hmg]; exact O.bn _ (by decide)
  have hm2 : X.mg "set" = none := by rw [C.hmg]; exact O.bn _ (by decide)
  have i : PE X (.Call (.Name "set" p2) [a] [] q) (tCB (rSetA X) (tA G ee)) := pe_callTy (CallR.or (St.cr_setI C.calm) (St.cr_setT C.calm (by have := C.un; omega))) hg2 hm2 PyProof.Rows.boot_set ha (by decide) (by decide) (star_ok hs) rfl
  exact (pe_callB (CallR.or (cr_sortedSet C.calm) (St.cr_sortST C.calm (by have := C.un; omega))) hg hm PyProof.Rows.boot_sorted (pa_cons i pa_nil rfl) (by decide) (by decide) rfl rfl).imp fun σ H Q h => sortSet_rd h
end
end Sn
end
section
set_option maxRecDepth 100000
/-! Snd14: isinstance; methods of built-in types; dict displays. -/
namespace Sn
open PySem PySem.Spec PyProof.Rows L2
/-! ### isinstance -/
def tyNames : List String := ["int", "bool", "str", "tuple", "list"]
theorem kit_all : ∀ t ∈ tyNames, ∀ u ∈ ["NoneType", "bool", "int", "str", "tuple", "list"], kitB u t = some (Md.instOf t u) := by decide +kernel
theorem boot_all : ∀ t ∈ tyNames, bootBuiltins (Str.ofString t) = some (.type t) ∧ Str.ofString t ≠ "__name__" ∧ ((Str.ofString t) == ("__debug__" : Str)) = false ∧ Str.ofString t ∈ bnames := by decide +kernel
section
variable {G : Gv} {N : List Str} {sc : Scope} {fn : Str → Bool} {X : Cx}
theorem tyOf_ok {F : Fo} {μ : List Addr} {H : Hp} {s : Md.St} {d : Md.D} {v : V} {u : String} (R : RS G.K F μ H s) (r : VR F μ H d v) (h : Md.tyOf s d = some u) : TyOf G.K H v (.type u) ∧ u ∈ ["NoneType", "bool", "int", "str", "tuple", "list"] := by
  cases d with
  | non => simp only [Md.tyOf, Option.some.injEq] at h; subst h; simp only [VR] at r; subst r; exact ⟨.non, by decide⟩
  | bl b => simp only [Md.tyOf, Option.some.injEq] at h; subst h; simp only [VR] at r; subst r; exact ⟨.bl b, by decide⟩
  | int b => simp only [Md.tyOf, Option.some.injEq] at h; subst h; simp only [VR] at r; subst r; exact ⟨.int b, by decide⟩
  | str b => simp only [Md.tyOf, Option.some.injEq] at h; subst h; simp only [VR] at r; subst r; exact ⟨.str b, by decide⟩
  | tup ds =>
    simp only [Md.tyOf, Option.some.injEq] at h; subst h
    obtain ⟨a, vs, rfl, h1, _⟩ := tup_at r
    exact ⟨.tup h1, by decide⟩
  | lst ds =>
    simp only [Md.tyOf, Option.some.injEq] at h; subst h
    simp only [VR] at r
    obtain ⟨a, vs, rfl, h1, _⟩ := r
    exact ⟨.lst h1, by decide⟩
  | ref n =>
    simp only [Md.tyOf] at h
    split at h
    · rename_i xs e
      cases h
      simp only [VR] at r
      obtain ⟨a, rfl, ha⟩ := r
      obtain ⟨vs, h1, _⟩ := R.ob n _ a e ha
      exact ⟨.lst h1, by decide⟩
    · cases h
  | scr ns => simp [Md.tyOf] at h
theorem r_inst (O : GOk G) (C : XC G N sc fn X) {m : Bool} {t : String} {a : Expr} {ea : Md.E} {p q pos : Pos} (ht : t ∈ tyNames) (hg : Gl X "isinstance") (hg2 : Gl X (Str.ofString t)) (ha : PE X a (tE G ea)) (hs : noStar a = true) :
    PE X (.Call (.Name "isinstance" p) [a, .Name (Str.ofString t) q] [] pos) (tE G (.bi (.isInst t) m (.cons ea .nil))) := by
  obtain ⟨b1, b2, b3, b4⟩ := boot_all t ht
  have hm : X.mg "isinstance" = none := by rw [C.hmg]; exact O.bn _ (by decide)
  have hm2 : X.mg (Str.ofString t) = none := by rw [C.hmg]; exact O.bn _ b4
  have i : PE X (.Name (Str.ofString t) q) (tC (.ty t)) := pe_bltn hg2 hm2 b1 (show RelV (.ty t) (.type t) from rfl) b2 b3
  refine (pe_callB call_isi hg hm PyProof.Rows.boot_isinstance (pa_cons ha (pa_cons i pa_nil rfl) (star_ok hs)) (by decide) (by decide) (star_ok hs) rfl).imp fun σ H Q ⟨F, μ, ρ, s, d, s', R, E, h, k⟩ => ?_
  simp only [Md.ev] at h
  obtain ⟨x0, s1, h1, h⟩ := bnd_inv h
  obtain ⟨x, s1', h1', h1⟩ := bnd_inv h1
  simp only [Md.bnd_some, Option.some.injEq, Prod.mk.injEq] at h1
  obtain ⟨rfl, rfl⟩ := h1
  simp only [Md.biop, Md.op1, Md.instB, Option.map_eq_some_iff] at h
  obtain ⟨u, h2, h3⟩ := h
  cases h3
  refine ⟨F, μ, ρ, s, x, _, R, E, h1', fun v H1 μ1 X1 R1 V1 => ?_⟩
  obtain ⟨t1, t2⟩ := tyOf_ok R1 V1 h2
  refine ⟨v, .ty t, .type u, .type t, _, rfl, .ty t, .base (by rw [C.hK]; exact t1), kit_ty (kit_all t ht u t2), (k.from X1).now R1 (by simp only [VR])⟩
/-! ### methods of lists and dicts -/
def rBm (G : Gv) (b : Md.Bm) (m : Bool) : V → List V → Hp → VK → Prop := fun x xs H Q => ∃ F μ s dx ds d s', RS G.K F μ H s ∧ VR F μ H dx x ∧ VRs F μ H ds xs ∧ Md.bmop b m dx ds s = some (d, s') ∧ KE G F μ H d s' Q
theorem recv_list {F : Fo} {μ : List Addr} {H : Hp} {s : Md.St} {d : Md.D} {v : V} (R : RS G.K F μ H s) (r : VR F μ H d v) (h : (Md.lstOf s d).isSome = true) : tyV G.K "list" v H := by
  obtain ⟨xs, e⟩ := Option.isSome_iff_exists.mp h
  obtain ⟨a, vs, rfl, h1, _⟩ := lstOf_ok R r e
  exact .inl ⟨rfl, vs, .inl h1⟩
theorem recv_dict {F : Fo} {μ : List Addr} {H : Hp} {s : Md.St} {d : Md.D} {v : V} (R : RS G.K F μ H s) (r : VR F μ H d v) (h : Md.bmRecv .get d s = true) : tyV G.K "dict" v H := by
  cases d <;> simp only [Md.bmRecv, Bool.false_eq_true] at h
  rename_i n
  simp only [VR] at r
  obtain ⟨a, rfl, ha⟩ := r
  split at h
  · rename_i kvs e
    obtain ⟨us, h1, _⟩ := R.ob n _ a e ha
    exact .inr (.inr (.inl ⟨rfl, .inl ⟨us, h1⟩⟩))
  · rename_i kvs e
    obtain ⟨us, h1, _⟩ := R.ob n _ a e ha
    exact .inr (.inr (.inl ⟨rfl, .inr ⟨us, h1⟩⟩))
  · cases h
theorem bm_rd {T : String} {b : Md.Bm} {m : Bool} {o es : Md.E} {σ : L2.St} {H : Hp} {Q : VK} (hr : ∀ {F : Fo} {μ : List Addr} {H : Hp} {s : Md.St} {d : Md.D} {v : V}, RS G.K F μ H s → VR F μ H d v → Md.bmRecv b d s = true → tyV G.K T v H)
    (h : tE G (.bm b m o es) σ H Q) : tBM G.K T (rBm G b m) (tE G o) (tA G es) σ H Q := by
  obtain ⟨F, μ, ρ, s, d, s', R, E, h, k⟩ := h
  simp only [Md.ev] at h
  obtain ⟨x, s1, h1, h⟩ := bnd_inv h
  split at h
  · rename_i hc
    obtain ⟨y, s2, h2, h⟩ := bnd_inv h
    split at h
    · refine ⟨F, μ, ρ, s, x, s1, R, E, h1, fun v H1 μ1 X1 R1 V1 => ⟨hr R1 V1 hc, F, μ1, ρ, s1, _, s2, R1, E.mono X1, h2, fun xs H2 μ2 X2 R2 V2 => ?_⟩⟩
      exact ⟨F, μ2, s2, x, _, d, s', R2, V1.mono X2, V2, h, k.from (X1.trans X2)⟩
    · cases h
  · cases h
theorem bm0_rd {T : String} {b : Md.Bm} {m : Bool} {o : Md.E} {σ : L2.St} {H : Hp} {Q : VK} (hr : ∀ {F : Fo} {μ : List Addr} {H : Hp} {s : Md.St} {d : Md.D} {v : V}, RS G.K F μ H s → VR F μ H d v → Md.bmRecv b d s = true → tyV G.K T v H)
    (h : tE G (.bm b m o .nil) σ H Q) : tBM0 G.K T (rBm G b m) (tE G o) σ H Q := by
  obtain ⟨F, μ, ρ, s, d, s', R, E, h, k⟩ := h
  simp only [Md.ev] at h
  obtain ⟨x, s1, h1, h⟩ := bnd_inv h
  split at h
  · rename_i hc
    simp only [Md.bnd_some] at h
    exact ⟨F, μ, ρ, s, x, s1, R, E, h1, fun v H1 μ1 X1 R1 V1 => ⟨hr R1 V1 hc, F, μ1, s1, x, [], d, s', R1, V1, by simp only [VRs], h, k.from X1⟩⟩
  · cases h
theorem few_ok {env : Env} {pos : Pos} {es : List Expr} (hs : es.all noStar = true) (hn : es.length < 30) : ((backTo pos (starEach es env)).all (fun x => !x.1) && (backToKw pos (keywordEach [] env)).all (fun x => x.1.isSome)
      && decide (es.length + ([] : List Keyword).length + (if ([] : List Keyword).isEmpty then 0 else 1) < 30)) = true := by
  rw [stars_all hs]
  simp [backToKw, keywordEach, hn]
theorem r_bm1 (C : XC G N sc fn X) {T id : String} {name : Str} {b : Md.Bm} {m : Bool} {o e : Expr} {es : List Expr} {eo ee : Md.E} {apos cpos : Pos} (pa : PlainAttrs T) (slot : Slot T name id) (hty : typeOf (.builtin id) = pure (.type "method_descriptor")) (hm : MtR X id (rBm G b m))
    (hr : ∀ {F : Fo} {μ : List Addr} {H : Hp} {s : Md.St} {d : Md.D} {v : V}, RS G.K F μ H s → VR F μ H d v → Md.bmRecv b d s = true → tyV G.K T v H) (ho : PE X o (tE G eo)) (ha : PA X (e :: es) (tA G ee)) (hb : baseOk o = true) (hs : (e :: es).all noStar = true) (hn : (e :: es).length < 30) (hl : (apos.endLine == cpos.line) = true) :
    PE X (.Call (.Attribute o name apos) (e :: es) [] cpos) (tE G (.bm b m eo ee)) := by
  have hs' := hs
  rw [List.all_cons, Bool.and_eq_true] at hs'
  exact (pe_bm pa slot hty hm ho ha (base_ok hb) (few_ok hs hn) hl (star_ok hs'.1) (stars_ok hs'.2)).imp fun σ H Q h => by rw [C.hK]; exact bm_rd hr h
theorem r_bm0 (C : XC G N sc fn X) {T id : String} {name : Str} {b : Md.Bm} {m : Bool} {o : Expr} {eo : Md.E} {apos cpos : Pos} (pa : PlainAttrs T) (slot : Slot T name id) (hty : typeOf (.builtin id) = pure (.type "method_descriptor")) (hm : MtR X id (rBm G b m))
    (hr : ∀ {F : Fo} {μ : List Addr} {H : Hp} {s : Md.St} {d : Md.D} {v : V}, RS G.K F μ H s → VR F μ H d v → Md.bmRecv b d s = true → tyV G.K T v H) (ho : PE X o (tE G eo)) (hb : baseOk o = true) (hl : (apos.endLine == cpos.line) = true) :
    PE X (.Call (.Attribute o name apos) [] [] cpos) (tE G (.bm b m eo .nil)) :=
  (pe_bm0 pa slot hty hm ho (base_ok hb) hl).imp fun σ H Q h => by rw [C.hK]; exact bm0_rd hr h
/-- the list of the store at n is another -/
theorem ref_lst {F : Fo} {μ : List Addr} {H : Hp} {s : Md.St} {n : Nat} {xs : List Md.D} {x : V} (R : RS G.K F μ H s) (hx : VR F μ H (.ref n) x) (e : s[n]? = some (.lst xs)) : ∃ a vs, x = .ref a ∧ μ[n]? = some a ∧ H a = some (.lst vs) ∧ VRs F μ H xs vs := by
  simp only [VR] at hx
  obtain ⟨a, rfl, ha⟩ := hx
  obtain ⟨vs, h1, h2⟩ := R.ob n _ a e ha
  exact ⟨a, vs, rfl, ha, h1, h2⟩
theorem put_lst {F : Fo} {μ : List Addr} {H : Hp} {s : Md.St} {n : Nat} {a : Addr} {vs us : List V} {ys : List Md.D} (R : RS G.K F μ H s) (ha : μ[n]? = some a) (h1 : H a = some (.lst vs)) (h : VRs F μ H ys us) : Xt μ H μ (upd H a (.lst us)) ∧ RS G.K F μ (upd H a (.lst us)) (s.set n (.lst ys)) :=
  R.put ha (fun vs z => by rw [h1] at z; cases z) fun X => ⟨us, upd_same, h.mono X⟩
theorem hd_inv {o : Md.D} {f : Nat → Option (Md.D × Md.St)} {r} (h : Md.hd o f = some r) : ∃ n, o = .ref n ∧ f n = some r := by
  cases o <;> simp only [Md.hd, reduceCtorEq] at h
  exact ⟨_, rfl, h⟩
theorem op0_inv {β : Type} {r : Option β} {vs : List Md.D} {z : β} (h : Md.op0 r vs = some z) : vs = [] ∧ r = some z := by
  unfold Md.op0 at h
  split at h
  · exact ⟨rfl, h⟩
  · cases h
theorem nil_vs {F : Fo} {μ : List Addr} {H : Hp} {xs : List V} (V : VRs F μ H [] xs) : xs = [] := by simpa only [VRs] using V
theorem m_append (m : Bool) : MtR X "list.append" (rBm G .append m) := by
  intro pins st σ H x xs v us Q I rx rv ⟨F, μ, s, dx, ds, d, s', R, hx, hxs, h, k⟩
  obtain ⟨y, rfl, h0⟩ := op1_inv h
  obtain ⟨n, rfl, hq⟩ := hd_inv h0
  clear h h0
  have h := hq
  clear hq
  obtain ⟨w, rfl, hw⟩ := one_vs hxs
  unfold Md.appendM at h
  split at h
  · rename_i zs e
    split at h
    · rename_i hc
      cases h
      obtain ⟨a, vs, rfl, ha, h1, h2⟩ := ref_lst R hx e
      obtain ⟨X3, R3⟩ := put_lst R ha h1 (h2.append (.one hw))
      exact mt_append pins st σ H _ _ v us Q I rx rv ⟨a, vs, w, rfl, rfl, h1, by rw [← h2.len]; exact capLt hc, k .non _ μ X3 R3 (by simp only [VR])⟩
    · cases h
  · cases h
theorem m_extend (m : Bool) : MtR X "list.extend" (rBm G .extend m) := by
  intro pins st σ H x xs v us Q I rx rv ⟨F, μ, s, dx, ds, d, s', R, hx, hxs, h, k⟩
  obtain ⟨y, rfl, h0⟩ := op1_inv h
  obtain ⟨n, rfl, hq⟩ := hd_inv h0
  clear h h0
  have h := hq
  clear hq
  obtain ⟨w, rfl, hw⟩ := one_vs hxs
  unfold Md.extendM at h
  split at h
  · rename_i zs e
    split at h
    · rename_i ys e2
      split at h
      · rename_i hc
        cases h
        obtain ⟨a, vs, rfl, ha, h1, h2⟩ := ref_lst R hx e
        obtain ⟨b, ws, rfl, h3, h4⟩ : ∃ b ws, w = .ref b ∧ H b = some (.lst ws) ∧ VRs F μ H ys ws := by
          cases y <;> simp only [Md.lstOf, reduceCtorEq] at e2
          · cases e2
            simp only [VR] at hw
            obtain ⟨b, ws, rfl, h3, _, _, h4⟩ := hw
            exact ⟨b, ws, rfl, h3, h4⟩
          · split at e2
            · rename_i e3
              cases e2
              obtain ⟨b, ws, rfl, _, h3, h4⟩ := ref_lst R hw e3
              exact ⟨b, ws, rfl, h3, h4⟩
            · cases e2
        obtain ⟨X3, R3⟩ := put_lst R ha h1 (h2.append h4)
        exact mt_extend pins st σ H _ _ v us Q I rx rv ⟨a, b, vs, ws, rfl, rfl, h1, h3, by rw [← h2.len, ← h4.len]; exact capLine hc, k .non _ μ X3 R3 (by simp only [VR])⟩
      · cases h
    · cases h
  · cases h
theorem dropLast_vs {F : Fo} {μ : List Addr} {H : Hp} {ds : List Md.D} {vs : List V} (h : VRs F μ H ds vs) : VRs F μ H ds.dropLast vs.dropLast := by
  rw [List.dropLast_eq_take, List.dropLast_eq_take, ← h.len]
  exact h.take _
theorem m_pop (m : Bool) : MtR X "list.pop" (rBm G .pop m) := by
  intro pins st σ H x xs v us Q I rx rv ⟨F, μ, s, dx, ds, d, s', R, hx, hxs, h, k⟩
  obtain ⟨rfl, h0⟩ := op0_inv h
  obtain ⟨n, rfl, hq⟩ := hd_inv h0
  clear h h0
  have h := hq
  clear hq
  have e0 := nil_vs hxs
  subst e0
  unfold Md.popM at h
  split at h
  · rename_i zs e
    simp only [Option.map_eq_some_iff] at h
    obtain ⟨y, h3, h4⟩ := h
    cases h4
    obtain ⟨a, vs, rfl, ha, h1, h2⟩ := ref_lst R hx e
    obtain ⟨w, h5, h6⟩ := h2.get h3
    obtain ⟨X3, R3⟩ := put_lst R ha h1 (dropLast_vs h2)
    exact mt_pop pins st σ H _ _ v us Q I rx rv ⟨a, vs, w, rfl, rfl, h1, by rw [← h2.len]; exact h5, k w _ μ X3 R3 (h6.mono X3)⟩
  · cases h
theorem m_pop0 (m : Bool) : MtR X "list.pop" (rBm G .pop0 m) := by
  intro pins st σ H x xs v us Q I rx rv ⟨F, μ, s, dx, ds, d, s', R, hx, hxs, h, k⟩
  obtain ⟨y, rfl, h0⟩ := op1_inv h
  obtain ⟨n, rfl, hq⟩ := hd_inv h0
  clear h h0
  have h := hq
  clear hq
  obtain ⟨w, rfl, hw⟩ := one_vs hxs
  cases y <;> simp only [Md.pop0M, reduceCtorEq] at h
  rename_i i
  split at h
  · rename_i hi
    subst hi
    simp only [VR] at hw
    subst hw
    split at h
    · rename_i y ys e
      cases h
      obtain ⟨a, vs, rfl, ha, h1, h2⟩ := ref_lst R hx e
      simp only [VRs] at h2
      obtain ⟨u, r, rfl, h3, h4⟩ := h2
      obtain ⟨X3, R3⟩ := put_lst R ha h1 h4
      refine mt_popAt pins st σ H _ _ v us Q I rx rv ⟨a, _, 0, 0, u, rfl, rfl, h1, by omega, by omega, ?_, rfl, k u _ μ X3 R3 (h3.mono X3)⟩
      simp [seqIndex?]
      try omega
    · cases h
  · cases h
theorem m_reverse (m : Bool) : MtR X "list.reverse" (rBm G .reverse m) := by
  intro pins st σ H x xs v us Q I rx rv ⟨F, μ, s, dx, ds, d, s', R, hx, hxs, h, k⟩
  obtain ⟨rfl, h0⟩ := op0_inv h
  obtain ⟨n, rfl, hq⟩ := hd_inv h0
  clear h h0
  have h := hq
  clear hq
  have e0 := nil_vs hxs
  subst e0
  unfold Md.reverseM at h
  split at h
  · rename_i zs e
    cases h
    obtain ⟨a, vs, rfl, ha, h1, h2⟩ := ref_lst R hx e
    obtain ⟨X3, R3⟩ := put_lst R ha h1 h2.reverse
    exact mt_reverse pins st σ H _ _ v us Q I rx rv ⟨a, vs, rfl, rfl, h1, k .non _ μ X3 R3 (by simp only [VR])⟩
  · cases h
theorem toPys_get : ∀ {ds : List Md.D} {j : Nat}, (toPys ds)[j]? = (ds[j]?).map toPy
  | [], j => by simp [toPys]
  | d :: ds, 0 => by simp [toPys]
  | d :: ds, j + 1 => by simp only [toPys, List.getElem?_cons_succ]; exact toPys_get
theorem idxOf_ok {x : Md.D} : ∀ {ys : List Md.D} {k : Nat}, Md.idxOf x ys = some k → ∃ y, ys[k]? = some y ∧ Md.eqD y x = true ∧ ∀ (j : Nat) (z : Md.D), j < k → ys[j]? = some z → Md.eqD z x = false
  | [], k, h => by simp [Md.idxOf] at h
  | y :: ys, k, h => by
    simp only [Md.idxOf] at h
    by_cases c : Md.eqD y x = true
    · rw [if_pos c] at h
      cases h
      exact ⟨y, rfl, c, fun j z hj => by omega⟩
    · rw [if_neg c, Option.map_eq_some_iff] at h
      obtain ⟨i, h1, rfl⟩ := h
      obtain ⟨w, h2, h3, h4⟩ := idxOf_ok h1
      refine ⟨w, h2, h3, fun j z hj hz => ?_⟩
      cases j with
      | zero => simp at hz; subst hz; simpa using c
      | succ j => exact h4 j z (by omega) (by simpa using hz)
theorem m_index (C : XC G N sc fn X) (m : Bool) : MtR X "list.index" (rBm G .index m) := by
  intro pins st σ H x xs v us Q I rx rv ⟨F, μ, s, dx, ds, d, s', R, hx, hxs, h, k⟩
  obtain ⟨y, rfl, h0⟩ := op1_inv h
  obtain ⟨w, rfl, hw⟩ := one_vs hxs
  clear h
  have h : Md.indexM dx s y = some (d, s') := h0
  clear h0
  unfold Md.indexM at h
  split at h
  · rename_i ys e
    split at h
    · rename_i hc
      rw [Bool.and_eq_true] at hc
      simp only [Option.map_eq_some_iff] at h
      obtain ⟨j, h1, h2⟩ := h
      cases h2
      obtain ⟨a, vs, rfl, h3, h4⟩ := lstOf_ok R hx e
      obtain ⟨z, h5, h6, h7⟩ := idxOf_ok h1
      have hall : ∀ (i : Nat) (z : Md.D), ys[i]? = some z → PyData.eqv (toPy z) (toPy y) = Md.eqD z y := fun i z hz => by
        have hm : Md.eqOk 59 z = true := by
          clear h1 h3 h4 h5 h6 h7 e
          obtain ⟨_, hc⟩ := hc
          induction ys generalizing i with
          | nil => simp at hz
          | cons b ys ih =>
            simp only [Md.eqOks, Bool.and_eq_true] at hc
            cases i with
            | zero => simp at hz; subst hz; exact hc.1
            | succ i => exact ih i (by simpa using hz) hc.2
        exact py_eqv 60 z y (eqOk_mono (by omega) hm) hc.1
      have hs := pys_lay 59 ys hc.2
      have se : SeqAt.shaped (.list (toPys ys)) = true := by
        show (PyData.canLay0 (.list (toPys ys)) && decide (PyData.depth (.list (toPys ys)) ≤ 64)) = true
        rw [Bool.and_eq_true]
        exact ⟨by simp only [PyData.canLay0]; exact hs.1, decide_eq_true (by simp only [PyData.depth]; omega)⟩
      refine mt_indexD C.un65 pins st σ H _ _ v us Q I rx rv ⟨a, w, toPy y, toPys ys, j, toPy z, rfl, rfl, .lst (.inl h3) (h4.dp 59 hc.2), hw.dp 60 hc.1, se, py_shaped hc.1, by rw [toPys_get, h5]; rfl, by rw [hall j z h5]; exact h6, fun i z' hi hz' => ?_, k.now R (by simp only [VR])⟩
      rw [toPys_get, Option.map_eq_some_iff] at hz'
      obtain ⟨b, hb, rfl⟩ := hz'
      rw [hall i b hb]
      exact h7 i b hi hb
    · cases h
  · cases h
theorem m_get (C : XC G N sc fn X) (m : Bool) : MtR X "dict.get" (rBm G .get m) := by
  intro pins st σ H x xs v us Q I rx rv ⟨F, μ, s, dx, ds, d, s', R, hx, hxs, h, k⟩
  obtain ⟨y, z, rfl, h0⟩ := op2_inv h
  obtain ⟨n, rfl, hq⟩ := hd_inv h0
  clear h h0
  have h := hq
  clear hq
  obtain ⟨w, u, rfl, hw, hu⟩ := two_vs hxs
  obtain ⟨u1, u2, rfl, ru1, ru2⟩ := vals2 rv
  simp only [VR] at hx
  obtain ⟨a, rfl, ha⟩ := hx
  cases rx
  unfold Md.getM at h
  split at h
  · rename_i kvs e
    simp only [Option.map_eq_some_iff] at h
    obtain ⟨q, h1, h2⟩ := h
    cases h2
    obtain ⟨us, h3, h4⟩ := R.ob n _ a e ha
    have g : DGet H a w (valV us q) := by rw [keyK_ok hw h1]; exact DGet.k h3
    refine d_get2 C.un1 I g ru1 ru2 fun w' s2 I2 r2 => ⟨_, H, I2, r2, k.now R ?_⟩
    have := h4.find q
    split at this
    · rename_i d e1; obtain ⟨v', e2, e3⟩ := this; rw [e1, e2]; exact e3
    · rename_i e1; rw [e1, this]; exact hu
  · rename_i kvs e
    simp only [Option.map_eq_some_iff] at h
    obtain ⟨q, h1, h2⟩ := h
    cases h2
    obtain ⟨us, h3, h4⟩ := R.ob n _ a e ha
    obtain ⟨b, e6, hb⟩ := keyT_ok hw h1
    have g : DGet H a w (valV us q) := by rw [e6]; exact DGet.t h3 hb
    refine d_get2 C.un1 I g ru1 ru2 fun w' s2 I2 r2 => ⟨_, H, I2, r2, k.now R ?_⟩
    have := h4.find q
    split at this
    · rename_i d e1; obtain ⟨v', e2, e3⟩ := this; rw [e1, e2]; exact e3
    · rename_i e1; rw [e1, this]; exact hu
  · cases h
end
end Sn
end
section
set_option maxRecDepth 100000
/-! Snd15: starred items; dict displays. -/
namespace Sn
open PySem PySem.Spec PyProof.Rows L2
section
variable {G : Gv} {N : List Str} {sc : Scope} {fn : Str → Bool} {X : Cx}
theorem star_list {pins : List (Addr × Obj)} {σ : L2.St} {H : Hp} {s : Shared} {a : Addr} {xs : List V} {E : Value → Shared → Prop} {Q : List Value → Shared → Prop} (I : Inv X pins σ H s) (h : SqL X.K H a xs) (hQ : ∀ us s', Inv X pins σ H s' → Vals xs us → Q us s') :
    PySem.W.StarOf (model X.prog X.w) X.A E (.ref a) Q s := by
  obtain ⟨its, r, pl, hz⟩ := I.list h
  obtain ⟨o, ho, hc, n, hd⟩ := pl.isList
  have hl := r.length
  have z : wpAny (model X.prog X.w) X.A (collect (.ref a)) Q E s := by
    refine wpAny_collect_seq a (.inl rfl) ho hc hd (fun h' hk => ?_) (by rw [List.size_toArray]; omega)
    have e : its.toArray.toList = its := by simp
    rw [e]
    exact hQ its _ (I.kept (t' := s.toks) hk) r
  unfold PySem.W.StarOf notIterableAtAll
  exact wpAny_bind (wpAny_specialOf ⟨o, ho, hc⟩ PySem.F.slot_list_iter.lookup (wpAny_pure ⟨rfl, z⟩))
theorem a_star (C : XC G N sc fn X) {a : Expr} {p : Pos} {es : List Expr} {e r : Md.E} (ha : PE X a (tE G e)) (hr : PA X es (tA G r)) : PA X (.Starred a p :: es) (tA G (.star e r)) := by
  refine ⟨fun pos pins st σ H Q I ⟨F, μ, ρ, s, ds, s', R, E, h, k⟩ => ?_⟩
  simp only [Md.ev] at h
  obtain ⟨x, s1, h1, h⟩ := bnd_inv h
  split at h
  · rename_i zs e1
    obtain ⟨y, s2, h2, h⟩ := bnd_inv h
    split at h
    · rename_i ys
      cases h
      refine PySem.W.items_star (thn (ha.run pins st σ H (fun v H1 => ∃ μ1, Xt μ H μ1 H1 ∧ RS G.K F μ1 H1 s1 ∧ VR F μ1 H1 x v) I ⟨F, μ, ρ, s, x, s1, R, E, h1, fun v H1 μ1 X1 R1 V1 => ⟨μ1, X1, R1, V1⟩⟩) fun u st1 ⟨v, H1, I1, r1, μ1, X1, R1, V1⟩ => ?_) rfl
      obtain ⟨b, vs, rfl, hq, hv⟩ := seqOf_ok R1 V1 e1
      cases r1
      have rest : ∀ us st2, Inv X pins σ H1 st2 → Vals vs us → wpAny (model X.prog X.w) X.A (spliced (backTo pos (starEach es X.env))) (fun ws st3 => AP X pins σ Q (us ++ ws) st3) X.xe st2 := fun us st2 I2 rv =>
        thn (hr.run pos pins st2 σ H1 (fun ws H2 => Q (vs ++ ws) H2) I2 ⟨F, μ1, ρ, s1, ys, _, R1, E.mono X1, h2, fun ws H2 μ2 X2 R2 V2 => k _ H2 μ2 (X1.trans X2) R2 ((hv.mono X2).append V2)⟩) fun ws st3 ⟨wv, H3, I3, r3, q3⟩ => ⟨vs ++ wv, H3, I3, rv.append r3, q3⟩
      rcases hq with hq | hq
      · exact star_list I1 (.inl hq) rest
      · exact star_tup I1 (.of hq) rest
    · cases h
  · cases h
/-! ### dict displays -/
theorem r_dict0 {m : Bool} {pos : Pos} : PE X (.Dict [] [] pos) (tE G (.dict m .nil)) := by
  cases m with
  | false =>
    refine pe_dnewK.imp fun σ H Q ⟨F, μ, ρ, s, d, s', R, E, h, k⟩ p hp => ?_
    simp only [Md.ev, Md.bnd_some, Option.some.injEq, Prod.mk.injEq] at h
    obtain ⟨rfl, rfl⟩ := h
    refine k _ _ (μ ++ [p]) (Xt.new' hp) (R.push hp ⟨[], upd_same, by simp only [KR]⟩) ?_
    simp only [VR]
    exact ⟨p, rfl, by rw [← R.len, List.getElem?_concat_length]⟩
  | true =>
    refine pe_dnewT.imp fun σ H Q ⟨F, μ, ρ, s, d, s', R, E, h, k⟩ p hp => ?_
    simp only [Md.ev, Md.bnd_some, Option.some.injEq, Prod.mk.injEq] at h
    obtain ⟨rfl, rfl⟩ := h
    refine k _ _ (μ ++ [p]) (Xt.new' hp) (R.push hp ⟨[], upd_same, by simp only [KR]⟩) ?_
    simp only [VR]
    exact ⟨p, rfl, by rw [← R.len, List.getElem?_concat_length]⟩
inductive PairE : Md.E → List (Md.E × Md.E) → Prop
  | nil : PairE .nil []
  | cons {k v r : Md.E} {ps : List (Md.E × Md.E)} (h : PairE r ps) : PairE (.cons k (.cons v r)) ((k, v) :: ps)
def flat2 : List (V × V) → List V
  | [] => []
  | (k, v) :: r => k :: v :: flat2 r
theorem pairs_rd {F : Fo} {args : Md.E} {ps : List (Md.E × Md.E)} (hp : PairE args ps) : ∀ {μ : List Addr} {H : Hp} {ρ : Md.Env} {σ : L2.St} {s s' : Md.St} {ds : List Md.D} {Q : List (V × V) → Hp → Prop}, RS G.K F μ H s → ER F μ H ρ σ → Md.ev G.Γ G.gl args ρ s = some (.tup ds, s') →
    (∀ qs H' μ', Xt μ H μ' H' → RS G.K F μ' H' s' → VRs F μ' H' ds (flat2 qs) → qs.length = ps.length → Q qs H') → tPairs (ps.map fun p => (tE G p.1, tE G p.2)) σ H Q := by
  induction hp with
  | nil =>
    intro μ H ρ σ s s' ds Q R E h k
    simp only [Md.ev, Option.some.injEq, Prod.mk.injEq, Md.D.tup.injEq] at h
    obtain ⟨rfl, rfl⟩ := h
    exact k [] H μ Xt.refl R (by simp only [flat2, VRs]) rfl
  | cons hr ih =>
    intro μ H ρ σ s s' ds Q R E h k
    simp only [Md.ev] at h
    obtain ⟨x, s1, h1, h⟩ := bnd_inv h
    obtain ⟨z, s2, h2, h⟩ := bnd_inv h
    obtain ⟨y, s3, h3, h2⟩ := bnd_inv h2
    obtain ⟨w, s4, h4, h2⟩ := bnd_inv h2
    split at h2
    · rename_i ws
      cases h2
      simp only [Option.some.injEq, Prod.mk.injEq, Md.D.tup.injEq] at h
      obtain ⟨rfl, rfl⟩ := h
      refine ⟨F, μ, ρ, s, x, s1, R, E, h1, fun v1 H1 μ1 X1 R1 V1 => ⟨F, μ1, ρ, s1, y, s3, R1, E.mono X1, h3, fun v2 H2 μ2 X2 R2 V2 => ?_⟩⟩
      refine ih R2 (E.mono (X1.trans X2)) h4 fun qs H3 μ3 X3 R3 V3 hl => ?_
      exact k ((v1, v2) :: qs) H3 μ3 (X1.trans (X2.trans X3)) R3 (.cons (V1.mono (X2.trans X3)) (.cons (V2.mono X3) V3)) (by simp [hl])
    · cases h2
theorem pairsK_ok {F : Fo} {μ : List Addr} {H : Hp} : ∀ {ds : List Md.D} {qs : List (V × V)} {kvs : List (Md.KK × Md.D)}, VRs F μ H ds (flat2 qs) → Md.pairsK ds = some kvs → ∃ us : List (Key × V), qs = us.map (fun kv => (kV kv.1, kv.2)) ∧ KR F μ H kvs us
  | [], qs, kvs, V, h => by
    simp only [Md.pairsK, Option.some.injEq] at h
    subst h
    cases qs with
    | nil => exact ⟨[], rfl, by simp only [KR]⟩
    | cons q qs => simp only [flat2, VRs] at V; cases V
  | [x], qs, kvs, V, h => by simp [Md.pairsK] at h
  | x :: y :: ds, qs, kvs, V, h => by
    simp only [Md.pairsK] at h
    split at h
    · rename_i k r e1 e2
      cases h
      cases qs with
      | nil => simp only [flat2, VRs] at V; obtain ⟨v, r', e, _⟩ := V; cases e
      | cons q qs =>
        obtain ⟨a, b⟩ := q
        simp only [flat2, VRs] at V
        obtain ⟨v, r', e, h1, u, r2, e', h2, h3⟩ := V
        cases e
        cases e'
        obtain ⟨us, h4, h5⟩ := pairsK_ok h3 e2
        refine ⟨(k, b) :: us, by rw [h4, keyK_ok h1 e1]; rfl, ?_⟩
        simp only [KR]
        exact ⟨b, us, rfl, h2, h5⟩
    · cases h
theorem putAll_ok {F : Fo} {μ : List Addr} {H : Hp} : ∀ {kvs acc : List (Md.KK × Md.D)} {us us0 : List (Key × V)}, KR F μ H kvs us → KR F μ H acc us0 → KR F μ H (Md.putAll kvs acc) (mergeK us0 us)
  | [], acc, us, us0, h, g => by simp only [KR] at h; subst h; exact g
  | (k, d) :: kvs, acc, us, us0, h, g => by
    simp only [KR] at h
    obtain ⟨v, t, rfl, h1, h2⟩ := h
    simp only [Md.putAll]
    show KR F μ H _ (mergeK (L2.putK us0 k v) t)
    exact putAll_ok h2 (g.putK h1)
theorem r_dictN {args : Md.E} {ps : List (Md.E × Md.E)} {keys : List (Option Expr)} {values : List Expr} {pos : Pos} (hp : PairE args ps) (h : PPs X pos keys values (ps.map fun p => (tE G p.1, tE G p.2))) (hall : keys.all (·.isSome) = true) (hl : keys.length = values.length) (h0 : keys ≠ []) (h15 : keys.length ≤ 15) (hps : ps.length = keys.length) :
    PE X (.Dict keys values pos) (tE G (.dict false args)) :=
  (pe_disp h hall hl h0 h15).imp fun σ H Q ⟨F, μ, ρ, s, d, s', R, E, h, k⟩ p hpn => by
    simp only [Md.ev] at h
    obtain ⟨x, s1, h1, h⟩ := bnd_inv h
    have hne : ps ≠ [] := fun z => by rw [z] at hps; exact h0 (List.eq_nil_of_length_eq_zero hps.symm)
    refine pairs_rd (F := own F p) hp (R.claim (o := .dK []) hpn) (E.later (claim_lt hpn)) (ds := match x with | .tup vs => vs | _ => []) (s' := s1) ?_ fun qs H2 μ2 X2 R2 V2 hlq => ?_
    · split at h
      · exact h1
      · exact h1
      · cases h
    · have nD : p ∉ μ := R.fresh hpn
      have hD : H2 p = some (.dK []) := X2.keep p _ upd_same nD
      have nD2 : p ∉ μ2 := fun z => by
        rcases X2.new p z with z | z
        · exact nD z
        · rw [upd_same] at z; cases z
      refine ⟨hD, ?_⟩
      split at h
      · exfalso
        cases qs with
        | nil => exact hne (List.eq_nil_of_length_eq_zero (by simpa using hlq.symm))
        | cons q qs => simp only [flat2, VRs] at V2; cases V2
      · rename_i vs _
        simp only [Option.map_eq_some_iff] at h
        obtain ⟨kvs, e1, e2⟩ := h
        cases e2
        obtain ⟨us, e3, h4⟩ := pairsK_ok V2 e1
        refine ⟨us, e3, by have := congrArg List.length e3; simp at this; omega, ?_⟩
        have h0' : H p = none := hpn
        have Xh : Xt μ H μ2 H2 := (Xt.upd hpn).trans X2
        have nF : ¬ F p := fun z => by obtain ⟨o, e⟩ := R.ff p z; rw [hpn] at e; cases e
        -- the dict becomes an object of the store
        have nt : ∀ vs, H2 p ≠ some (.tup vs) := fun vs z => by rw [hD] at z; cases z
        have R3 := R2.poke' (o := .dK (mergeK [] us)) nt own_me nD2
        have hk : KR F (μ2 ++ [p]) (upd H2 p (.dK (mergeK [] us))) (Md.putAll kvs []) (mergeK [] us) := (KR.foreign own_back' rfl ⟨[p], rfl⟩ (KR.poke' nt own_me (putAll_ok h4 (by simp only [KR]))))
        refine k _ _ (μ2 ++ [p]) ((Xh.poke hpn).adopt hpn) (R3.adopt nD2 ⟨_, upd_same, hk⟩) ?_
        simp only [VR]
        exact ⟨p, rfl, by rw [← R3.len, List.getElem?_concat_length]⟩
      · cases h
end
end Sn
end
section
set_option maxRecDepth 100000
/-! MaxD: max(xs, default=d) of a list of ints. -/
namespace Sn
open PySem PySem.Spec PyProof.Rows L2
theorem depth_ints : ∀ ns : List Int, PyData.depthAll (ns.map PyData.int) = 0
  | [] => rfl
  | n :: ns => by
    rw [List.map_cons, PyData.depthAll, depth_ints ns]
    rfl
theorem alike_ints (ns : List Int) : PySem.W.AlikeAll (ns.map PyData.int) := by
  refine ⟨fun x hx y hy => ?_, fun x hx => ?_⟩
  · obtain ⟨a, _, rfl⟩ := List.mem_map.mp hx
    obtain ⟨b, _, rfl⟩ := List.mem_map.mp hy
    rfl
  · obtain ⟨a, _, rfl⟩ := List.mem_map.mp hx
    exact fun e => by cases e
theorem reads_ints {h : Heap} : ∀ {ns : List Int} {its : List Value}, Vals (ns.map V.int) its → ReadsAll h its (ns.map PyData.int) []
  | [], _, r => by cases r; exact .nil
  | n :: ns, _, r => by
    cases r with
    | cons r1 r2 =>
      obtain ⟨t, rfl⟩ := r1
      exact ReadsAll.cons (as := []) (bs := []) (.int n t) (reads_ints r2)
theorem maxL_fold : ∀ (n : Int) (ns : List Int) (d : Int), Md.maxL (n :: ns) d = ns.foldl max n
  | n, [], d => rfl
  | n, m :: ns, d => by
    rw [Md.maxL, maxL_fold m ns d, List.foldl_cons]
    · have : ∀ (l : List Int) (a b : Int), max a (l.foldl max b) = l.foldl max (max a b) := by
        intro l
        induction l with
        | nil => intro a b; rfl
        | cons c l ih => intro a b; rw [List.foldl_cons, List.foldl_cons, ih, Int.max_assoc]
      exact this ns n m
    · intro e; cases e
theorem allI_vs {F : Fo} {μ : List Addr} {H : Hp} : ∀ {ds : List Md.D} {vs : List V} {ns : List Int}, VRs F μ H ds vs → Md.allI ds = some ns → vs = ns.map V.int
  | [], vs, bs, v, h => by
    simp only [Md.allI, Option.some.injEq] at h
    subst h
    simpa [VRs] using v
  | d :: ds, vs, bs, v, h => by
    simp only [VRs] at v
    obtain ⟨u, r, rfl, h1, h2⟩ := v
    cases d <;> simp only [Md.allI, reduceCtorEq] at h
    obtain ⟨ms, e, rfl⟩ := Option.map_eq_some_iff.mp h
    simp only [VR] at h1
    rw [h1, allI_vs h2 e]
    rfl
section
variable {G : Gv} {N : List Str} {sc : Scope} {fn : Str → Bool} {X : Cx}
def rMaxDef (K : PySem.W.Frag) : List V → List V → Hp → VK → Prop := fun vs zs H Q => ∃ (a : Addr) (ns : List Int) (d : Int), vs = [V.ref a] ∧ zs = [V.int d] ∧ SqL K H a (ns.map V.int) ∧ Q (.int (Md.maxL ns d)) H
theorem cr_maxDef (hc : X.calm = true) (hu : X.A.units + 1 < cLine) : CallRK X (.builtin "max") [Str.ofString "default"] (rMaxDef X.K) := by
  intro pins s σ H vs zs us ws Q I r rz h
  obtain ⟨a, ns, d, rfl, rfl, hs, q⟩ := h
  obtain ⟨its, rv, hl, _⟩ := I.list hs
  obtain rfl := Vals.ref1 r
  obtain ⟨u, rfl, t, rfl⟩ : ∃ u, ws = [u] ∧ RelV (.int d) u := by
    cases rz with
    | cons r1 r2 => cases r2; exact ⟨_, rfl, r1⟩
  have rd : ReadsAll s.heap its.toArray.toList (ns.map PyData.int) [] := by rw [List.toList_toArray]; exact reads_ints rv
  refine PySem.W.max_list_default (I.ok.hd hc) hl.isList rd (alike_ints ns) (by rw [depth_ints]; exact hu) (fun e h' tk hk => ?_) fun y ys i v h' tk bs e hv hr hk => ?_
  · cases ns with
    | nil => exact ⟨.int d, H, I.kept hk, ⟨t, rfl⟩, q⟩
    | cons n ns => cases e
  · cases ns with
    | nil => cases e
    | cons n ns =>
      rw [List.map_cons, List.cons.injEq] at e
      obtain ⟨rfl, rfl⟩ := e
      rw [PySem.W.maxD_ints] at hr
      cases hr with
      | int _ t' => exact ⟨.int _, H, I.kept hk, ⟨t', rfl⟩, by rw [maxL_fold] at q; exact q⟩
def rMax1 (K : PySem.W.Frag) : List V → Hp → VK → Prop := fun vs H Q => ∃ (a : Addr) (n : Int) (ns : List Int), vs = [V.ref a] ∧ SqL K H a ((n :: ns).map V.int) ∧ Q (.int (Md.maxL (n :: ns) 0)) H
theorem cr_max1 (hc : X.calm = true) (hu : X.A.units + 1 < cLine) : CallR X (.builtin "max") (rMax1 X.K) := by
  intro pins s σ H vs us Q I r h
  obtain ⟨a, n, ns, rfl, hs, q⟩ := h
  obtain ⟨its, rv, hl, _⟩ := I.list hs
  obtain rfl := Vals.ref1 r
  have rd : ReadsAll s.heap its.toArray.toList (PyData.int n :: ns.map PyData.int) [] := by rw [List.toList_toArray]; exact reads_ints (ns := n :: ns) rv
  refine PySem.W.max_list_data (I.ok.hd hc) hl.isList rd (alike_ints (n :: ns)) (by have := depth_ints (n :: ns); rw [List.map_cons] at this; rw [this]; exact hu) fun i v h' tk bs hv hr hk => ?_
  rw [PySem.W.maxD_ints] at hr
  cases hr with
  | int _ t' => exact ⟨.int _, H, I.kept hk, ⟨t', rfl⟩, by rw [maxL_fold] at q; exact q⟩
theorem c_max1 (C : XC G N sc fn X) (m : Bool) : CallR X (.builtin "max") (rVs G (Md.biop .max m)) := cr1 (g := fun x s => Md.maxB s x) (fun _ _ => rfl) <| by
  intro pins st σ H xs us Q I r ⟨F, μ, s, v, x, d, s', ex, R, V, h, k⟩
  subst ex
  have h : Md.maxB s x = some (d, s') := h
  unfold Md.maxB at h
  split at h
  · rename_i ys e
    split at h
    · rename_i n ns e2
      cases h
      obtain ⟨a, vs, rfl, h3, h4⟩ := lstOf_ok R V e
      rw [allI_vs h4 e2] at h3
      exact cr_max1 C.calm C.un1 pins st σ H _ us Q I r ⟨a, n, ns, rfl, .inl h3, k.now R (by simp only [VR])⟩
    · cases h
  · cases h
theorem r_maxD (C : XC G N sc fn X) {m : Bool} {x d : Expr} {a b : Md.E} {p kp pos : Pos} (hx : PE X x (tE G a)) (hd : PE X d (tE G b)) (hs : noStar x = true) (hg : Gl X "max") (hm : X.mg "max" = none) :
    PE X (.Call (.Name "max" p) [x] [⟨some (Str.ofString "default"), d, kp⟩] pos) (tE G (.bi .maxD m (.cons a (.cons b .nil)))) := by
  refine (pe_callBK (cr_maxDef C.calm C.un1) hg hm (by decide +kernel) (pa_cons hx pa_nil (star_ok hs)) (pk_cons hd pk_nil) (by decide) (by decide) (by rw [star_ok hs]; rfl) (by rw [star_ok hs]; rfl) rfl rfl rfl).imp fun σ H Q ⟨F, μ, ρ, s, dd, s', R, E, h, k⟩ => ?_
  simp only [Md.ev] at h
  obtain ⟨z0, s0, h1, h⟩ := bnd_inv h
  obtain ⟨v1, s1, g1, h1⟩ := bnd_inv h1
  obtain ⟨z1, s2, g2, h1⟩ := bnd_inv h1
  obtain ⟨v2, s3, g3, g2⟩ := bnd_inv g2
  simp only [Md.bnd_some, Option.some.injEq, Prod.mk.injEq] at g2
  obtain ⟨rfl, rfl⟩ := g2
  simp only [Option.some.injEq, Prod.mk.injEq] at h1
  obtain ⟨rfl, rfl⟩ := h1
  simp only [Md.biop, Md.op2] at h
  refine ⟨F, μ, ρ, s, v1, s1, R, E, g1, fun u1 H1 μ1 X1 R1 V1 => ⟨F, μ1, ρ, s1, v2, _, R1, E.mono X1, g3, fun u2 H2 μ2 X2 R2 V2 => ?_⟩⟩
  have V1' := V1.mono X2
  unfold Md.maxDB at h
  split at h
  · rename_i i _
    split at h
    · rename_i xs e
      obtain ⟨ns, e2, e3⟩ := Option.map_eq_some_iff.mp h
      cases e3
      obtain ⟨ad, vs, rfl, h3, h4⟩ := lstOf_ok R2 V1' e
      rw [allI_vs h4 e2] at h3
      simp only [VR] at V2
      exact ⟨ad, ns, i, rfl, by rw [V2], .inl h3, ((k.from X1).from X2).now R2 (by simp only [VR])⟩
    · cases h
  · cases h
end
end Sn
end
section
set_option maxRecDepth 100000
/-! Snd16: the check of a text against the middle language, and that it is right. -/
namespace Sn
open PySem PySem.Spec PyProof.Rows L2
/-- where a text stands -/
structure Ck where
  N : List Str
  sc : Scope
  fn : Str → Bool
  flds : List (Str × Str)
/-- what an expression of the middle language is held against -/
inductive Tx where
  | e (x : Expr) | t (x : Expr) | w (x : Expr) | a (xs : List Expr) | o (x : Option Expr) | i (tg it : Expr) | f (ifs : List Expr)
  | d (ks : List (Option Expr)) (vs : List Expr) | dv (ks : List (Option Expr)) (vs : List Expr) | one (x : Expr) | two (x y : Expr)
def nmOk (x : Str) : Bool := !(x == ("__debug__" : Str))
def kind? (sc : Scope) (x : Str) (k : NameKind) : Bool := decide (sc.names.lookup x = some k)
def visB (sc : Scope) (x : Str) : Bool := kind? sc x .local || kind? sc x .cell || kind? sc x .free
def locB (c : Ck) (x : Str) : Bool := (kind? c.sc x .local || kind? c.sc x .cell) && (c.fn x || kind? c.sc x .local)
def gloB (c : Ck) (x : Str) : Bool := kind? c.sc x .globalImplicit && nmOk x
/-- a plain expression: as a value, a test, a slice's part, what is walked, an argument -/
def pE (tx : Tx) (f : Expr → Bool) : Bool := match tx with
  | .e x => f x
  | .t x => plainTest x && f x
  | .f [x] => plainTest x && f x
  | .o (some x) => f x
  | .i _ x => f x
  | _ => false
/-- a comparison: as a value, a test -/
def pT (tx : Tx) (f : Expr → Bool) : Bool := match tx with
  | .e x => f x
  | .t x => f x
  | .f [x] => f x
  | _ => false
def boB : Operator → Md.Bo → Bool
  | .Add, .add => true
  | .Sub, .sub => true
  | .Mult, .mul => true
  | .Mod, .mod => true
  | .FloorDiv, .fdiv => true
  | .Pow, .pow => true
  | .LShift, .shl => true
  | _, _ => false
def coB : CmpOp → Md.Co → Bool
  | .Eq, .eq => true
  | .NotEq, .ne => true
  | .Lt, .lt => true
  | .LtE, .le => true
  | .Gt, .gt => true
  | .GtE, .ge => true
  | .In, .isIn => true
  | .NotIn, .notIn => true
  | .Is, .is => true
  | .IsNot, .isNot => true
  | _, _ => false
def biName : Md.Bi → Option String
  | .len => some "len"
  | .abs => some "abs"
  | .max2 => some "max"
  | .min2 => some "min"
  | .max => some "max"
  | .int => some "int"
  | .list => some "list"
  | .tuple => some "tuple"
  | .sorted => some "sorted"
  | .all => some "all"
  | _ => none
def bmName : Md.Bm → Option String
  | .append => some "append"
  | .extend => some "extend"
  | .index => some "index"
  | .pop => some "pop"
  | .pop0 => some "pop"
  | .reverse => some "reverse"
  | .get => some "get"
/-! ### targets -/
inductive Gx where
  | e (x : Expr) | l (xs : List Expr)
def okG : Md.G → Ck → Gx → Bool
  | .v i, c, .e (.Name x _) => decide (c.N[i]? = some x) && locB c x
  | .t gs, c, .e (.Tuple es _ _) => es.all noStar && decide (glen gs = some es.length) && okG gs c (.l es)
  | .nil, _, .l [] => true
  | .cons a r, c, .l (e :: es) => noStar e && okG a c (.e e) && okG r c (.l es)
  | _, _, _ => false
/-! ### expressions -/
def ownOf (N : List Str) (vs : List Nat) : List (Str × Nat) := vs.map fun i => (N.getD i "", i)
def Ck.blk (c : Ck) (scope : Scope) : Ck := ⟨c.N, relS scope c.sc, blkFn scope, c.flds⟩
def isNil : Md.E → Bool
  | .nil => true
  | _ => false
def callB (c : Ck) (es : List Expr) (args : Md.E) (ok : Tx → Bool) : Bool := match es with
  | [] => isNil args
  | _ => es.all noStar && ok (.a es)
def ok : Md.E → Ck → Tx → Bool
  | .stop, _, tx => pE tx fun _ => true
  | .var i, c, tx => pE tx fun x => match x with
    | .Name y _ => decide (c.N[i]? = some y) && visB c.sc y && nmOk y && !(y == ("__classdict__" : Str))
    | _ => false
  | .int i, _, tx => pE tx fun x => match x with
    | .Constant (.int j) _ _ => decide (i = j)
    | _ => false
  | .str i, _, tx => pE tx fun x => match x with
    | .Constant (.str j) _ _ => decide (i = j)
    | _ => false
  | .bl i, _, tx => pE tx fun x => match x with
    | .Constant (.bool j) _ _ => decide (i = j)
    | _ => false
  | .non, _, tx => pE tx fun x => match x with
    | .Constant .none _ _ => true
    | _ => false
  | .glo y, c, tx => pE tx fun x => match x with
    | .Name z _ => decide (y = z) && gloB c z
    | _ => false
  | .isG n a y, c, tx => pT tx fun x => match x with
    | .Compare ea [op] [.Name z _] _ => decide (y = z) && gloB c z && (match op with
      | .Eq => !n
      | .NotEq => n
      | _ => false) && ok a c (.e ea)
    | _ => false
  | .bin o m a b, c, tx => pE tx fun x => match x with
    | .BinOp ea op eb _ => boB op o && ok a c (.e ea) && ok b c (.e eb)
    | _ => false
  | .neg a, c, tx => pE tx fun x => match x with
    | .UnaryOp .USub ea _ => ok a c (.e ea)
    | _ => false
  | .cmp o a b, c, tx => pT tx fun x => match x with
    | .Compare ea [op] [eb] _ => coB op o && ok a c (.e ea) && ok b c (.e eb) && !(behindInMarks op eb)
    | _ => false
  | .chain o p a b d, c, tx => pT tx fun x => match x with
    | .Compare ea [op, op'] [eb, ec] _ => coB op o && coB op' p && ok a c (.e ea) && ok b c (.e eb) && ok d c (.e ec) && !(lastMarks [op, op'] [eb, ec])
    | _ => false
  | .and a r, c, tx => match tx with
    | .e (.BoolOp .And (ea :: eb :: rest) pos) => ok a c (.e ea) && ok r c (.e (.BoolOp .And (eb :: rest) pos))
    | .t (.BoolOp .And (ea :: eb :: rest) pos) => ok a c (.t ea) && ok r c (.w (.BoolOp .And (eb :: rest) pos))
    | .w (.BoolOp .And (ea :: eb :: rest) pos) => ok a c (.t ea) && ok r c (.w (.BoolOp .And (eb :: rest) pos))
    | .f [.BoolOp .And (ea :: eb :: rest) pos] => ok a c (.t ea) && ok r c (.w (.BoolOp .And (eb :: rest) pos))
    | _ => false
  | .or a r, c, tx => match tx with
    | .e (.BoolOp .Or (ea :: eb :: rest) pos) => ok a c (.e ea) && ok r c (.e (.BoolOp .Or (eb :: rest) pos))
    | .t (.BoolOp .Or (ea :: eb :: rest) pos) => ok a c (.t ea) && ok r c (.w (.BoolOp .Or (eb :: rest) pos))
    | .w (.BoolOp .Or (ea :: eb :: rest) pos) => ok a c (.t ea) && ok r c (.w (.BoolOp .Or (eb :: rest) pos))
    | .f [.BoolOp .Or (ea :: eb :: rest) pos] => ok a c (.t ea) && ok r c (.w (.BoolOp .Or (eb :: rest) pos))
    | _ => false
  | .one a, c, tx => match tx with
    | .e (.BoolOp _ [ea] _) => ok a c (.e ea)
    | .w (.BoolOp _ [ea] _) => ok a c (.t ea)
    | _ => false
  | .not a, c, tx => match tx with
    | .e (.UnaryOp .Not ea _) => ok a c (.e ea)
    | .t (.UnaryOp .Not ea _) => ok a c (.t ea)
    | .f [.UnaryOp .Not ea _] => ok a c (.t ea)
    | _ => false
  | .ife d a b, c, tx => pE tx fun x => match x with
    | .IfExp ec ea eb _ => ok d c (.t ec) && ok a c (.e ea) && ok b c (.e eb)
    | _ => false
  | .nil, _, tx => match tx with
    | .a [] => true
    | .d [] [] => true
    | _ => false
  | .cons a r, c, tx => match tx with
    | .a (x :: xs) => noStar x && ok a c (.e x) && ok r c (.a xs)
    | .d (some k :: ks) (v :: vs) => ok a c (.e k) && ok r c (.dv ks (v :: vs))
    | .dv ks (v :: vs) => ok a c (.e v) && ok r c (.d ks vs)
    | .one x => noStar x && isNil r && ok a c (.e x)
    | .two x y => noStar x && ok a c (.e x) && ok r c (.one y)
    | _ => false
  | .star a r, c, tx => match tx with
    | .a (.Starred x _ :: xs) => ok a c (.e x) && ok r c (.a xs)
    | _ => false
  | .tup args, c, tx => pE tx fun x => match x with
    | .Tuple es _ _ => ok args c (.a es)
    | _ => false
  | .lst m args, c, tx => pE tx fun x => match x with
    | .List es _ => ok args c (.a es)
    | _ => false
  | .idx a i, c, tx => pE tx fun x => match x with
    | .Subscript ea ei _ => noSlice ei && ok a c (.e ea) && ok i c (.e ei)
    | _ => false
  | .slc m a lo hi, c, tx => pE tx fun x => match x with
    | .Subscript ea (.Slice el eh none _) _ => ok a c (.e ea) && ok lo c (.o el) && ok hi c (.o eh)
    | _ => false
  | .hole, _, tx => match tx with
    | .o none => true
    | _ => false
  | .fld a f cs, c, tx => pE tx fun x => match x with
    | .Attribute ea g _ => decide (f = g) && baseOk ea && cs.all (fun d => decide ((d, f) ∈ c.flds)) && ok a c (.e ea)
    | _ => false
  | .call f args, c, tx => pE tx fun x => match x with
    | .Call (.Name y _) es [] _ => decide (f = y) && gloB c y && callB c es args (ok args c)
    | _ => false
  | .meth o f args, c, tx => pE tx fun x => match x with
    | .Call (.Attribute eo y apos) es [] pos => decide (f = y) && decide (f ≠ initS) && ok o c (.e eo) && baseOk eo && es.all noStar && decide (es.length < 30) && (apos.endLine == pos.line) && callB c es args (ok args c)
    | _ => false
  | .make d args, c, tx => pE tx fun x => match x with
    | .Call (.Name y _) es [] _ => decide (d = y) && gloB c y && callB c es args (ok args c)
    | _ => false
  | .bi b m args, c, tx => pE tx fun x => match x with
    | .Call (.Name y _) es [] _ => gloB c y && (match b with
      | .sortSet => decide (y = "sorted") && (match es with
        | [.Call (.Name z _) [w] [] _] => decide (z = "set") && gloB c z && noStar w && ok args c (.a [w])
        | _ => false)
      | .isInst t => decide (y = "isinstance") && decide (t ∈ tyNames) && (match es with
        | [w, .Name z _] => decide (z = Str.ofString t) && gloB c z && ok args c (.one w)
        | _ => false)
      | _ => decide (biName b = some y.toString) && decide (y = Str.ofString y.toString) && !es.isEmpty && es.all noStar && ok args c (.a es))
    | .Call (.Name y _) [w] [⟨some k, d, _⟩] _ => gloB c y && (match b with
      | .maxD => decide (y = "max") && decide (k = Str.ofString "default") && noStar w && ok args c (.two w d)
      | _ => false)
    | _ => false
  | .bm b m o args, c, tx => pE tx fun x => match x with
    | .Call (.Attribute eo y apos) es [] pos => decide (bmName b = some y.toString) && decide (y = Str.ofString y.toString) && ok o c (.e eo) && baseOk eo && es.all noStar && decide (es.length < 30) && (apos.endLine == pos.line) && callB c es args (ok args c)
    | _ => false
  | .comp m vs g it d elt, c, tx => pE tx fun x => match x with
    | .ListComp ee [⟨tg, iter, ifs, 0⟩] scope _ => blkC c.N c.sc scope (ownOf c.N vs) && noSet iter && (Md.slots g).all (fun i => decide (i ∈ vs)) && ok it c (.i tg iter) && okG g (c.blk scope) (.e tg) && ok d (c.blk scope) (.f ifs) && ok elt (c.blk scope) (.e ee)
    | _ => false
  | .comp2 m vs vs1 g it d g1 it1 d1 elt, c, tx => pE tx fun x => match x with
    | .ListComp ee [⟨tg, iter, ifs, 0⟩, ⟨tg1, iter1, ifs1, 0⟩] scope _ => blkC c.N c.sc scope (ownOf c.N vs) && noSet iter && noSet iter1 && (Md.slots g).all (fun i => decide (i ∈ vs)) && (Md.slots g1).all (fun i => decide (i ∈ vs1)) && vs1.all (fun i => decide (i ∈ vs)) &&
      ok it c (.i tg iter) && okG g (c.blk scope) (.e tg) && ok d (c.blk scope) (.f ifs) && ok it1 (c.blk scope) (.i tg1 iter1) && okG g1 (c.blk scope) (.e tg1) && ok d1 (c.blk scope) (.f ifs1) && ok elt (c.blk scope) (.e ee)
    | _ => false
  | .yes, _, tx => match tx with
    | .f [] => true
    | _ => false
  | .rng args, c, tx => match tx with
    | .i _ (.Call (.Name y _) es [] _) => decide (y = "range") && gloB c y && es.all noStar && decide (alen args = some es.length) && (es.length == 1 || es.length == 2 || es.length == 3) && ok args c (.a es)
    | _ => false
  | .enm a, c, tx => match tx with
    | .i (.Tuple _ _ _) (.Call (.Name y _) [x] [] _) => decide (y = "enumerate") && gloB c y && noStar x && ok a c (.e x)
    | _ => false
  | .zip a b, c, tx => match tx with
    | .i (.Tuple _ _ _) (.Call (.Name y _) [x, z] [] _) => decide (y = "zip") && gloB c y && noStar x && noStar z && ok a c (.e x) && ok b c (.e z)
    | _ => false
  | .rev _, _, _ => false
  | .dict m args, c, tx => pE tx fun x => match x with
    | .Dict ks vs _ => match ks with
      | [] => vs.isEmpty && isNil args
      | _ => !m && ok args c (.d ks vs) && decide (ks.length ≤ 15)
    | _ => false
end Sn
end
section
set_option maxRecDepth 100000
/-! Snd17: the check is right: expressions. -/
namespace Sn
open PySem PySem.Spec PyProof.Rows L2
section
variable {G : Gv} {X : Cx} {c : Ck}
def Goal (G : Gv) (X : Cx) (e : Md.E) : Tx → Prop
  | .e x => PE X x (tE G e)
  | .t x => PT X x (tT G e)
  | .w x => PW X x (tT G e)
  | .a xs => PA X xs (tA G e)
  | .o x => PO X x (tO G e)
  | .i tg it => PI X tg it (tI G e)
  | .f ifs => PTs X ifs (tT G e)
  | .d ks vs => ∃ ps, PairE e ps ∧ (∀ pos, PPs X pos ks vs (ps.map fun p => (tE G p.1, tE G p.2))) ∧ ps.length = ks.length ∧ ks.length = vs.length ∧ ks.all (·.isSome) = true
  | .dv ks vs => ∃ ev r v vs' ps, e = .cons ev r ∧ vs = v :: vs' ∧ PE X v (tE G ev) ∧ PairE r ps ∧ (∀ pos, PPs X pos ks vs' (ps.map fun p => (tE G p.1, tE G p.2))) ∧ ps.length = ks.length ∧ ks.length = vs'.length ∧ ks.all (·.isSome) = true
  | .one x => ∃ a, e = .cons a .nil ∧ noStar x = true ∧ PE X x (tE G a)
  | .two x y => ∃ a b, e = .cons a (.cons b .nil) ∧ noStar x = true ∧ PE X x (tE G a) ∧ PE X y (tE G b)
theorem pE_ok (C : XC G c.N c.sc c.fn X) {e : Md.E} (hh : Md.isHole e = false) {tx : Tx} {f : Expr → Bool} (h : pE tx f = true) (k : ∀ x, f x = true → PE X x (tE G e)) : Goal G X e tx := by
  unfold pE at h
  split at h
  · exact k _ h
  · rw [Bool.and_eq_true] at h
    exact q_plain C (k _ h.2) (test_ok h.1)
  · rw [Bool.and_eq_true] at h
    exact pts_one (q_plain C (k _ h.2) (test_ok h.1))
  · exact o_some (k _ h) hh
  · exact i_any C (k _ h)
  · cases h
theorem pT_ok {e : Md.E} {tx : Tx} {f : Expr → Bool} (h : pT tx f = true) (k : ∀ x, f x = true → PE X x (tE G e)) (k2 : ∀ x, f x = true → PT X x (tT G e)) : Goal G X e tx := by
  unfold pT at h
  split at h
  · exact k _ h
  · exact k2 _ h
  · exact pts_one (k2 _ h)
  · cases h
theorem nm_ok {x : Str} (h : nmOk x = true) : (x == ("__debug__" : Str)) = false := by
  unfold nmOk at h
  simpa using h
theorem kind_ok {sc : Scope} {x : Str} {k : NameKind} (h : kind? sc x k = true) : sc.names.lookup x = some k := of_decide_eq_true h
theorem vis_ok {sc : Scope} {x : Str} (h : visB sc x = true) : Vis sc x := by
  unfold visB at h
  rw [Bool.or_eq_true, Bool.or_eq_true] at h
  rcases h with (h | h) | h
  · exact .inl (kind_ok h)
  · exact .inr (.inl (kind_ok h))
  · exact .inr (.inr (kind_ok h))
theorem loc_ok {x : Str} (h : locB c x = true) : Loc c.sc x ∧ (c.fn x = true ∨ c.sc.names.lookup x = some .local) := by
  unfold locB at h
  rw [Bool.and_eq_true, Bool.or_eq_true, Bool.or_eq_true] at h
  exact ⟨h.1.elim (fun h => .inl (kind_ok h)) fun h => .inr (kind_ok h), h.2.elim .inl fun h => .inr (kind_ok h)⟩
theorem glo_ok (C : XC G c.N c.sc c.fn X) {x : Str} (h : gloB c x = true) : Gl X x ∧ (x == ("__debug__" : Str)) = false := by
  unfold gloB at h
  rw [Bool.and_eq_true] at h
  refine ⟨?_, nm_ok h.2⟩
  show X.env.scope.names.lookup x = _
  rw [C.hs]
  exact kind_ok h.1
theorem bo_ok {op : Operator} {o : Md.Bo} (h : boB op o = true) : OpOf op o := by
  cases op <;> cases o <;> first | (simp [boB] at h; done) | constructor
theorem co_ok {op : CmpOp} {o : Md.Co} (h : coB op o = true) : CmpOf op o := by
  cases op <;> cases o <;> first | (simp [coB] at h; done) | constructor
theorem isNil_ok {e : Md.E} (h : isNil e = true) : e = .nil := by
  cases e <;> first | rfl | (simp [isNil] at h; done)
/-! ### targets -/
theorem g_sound (C : XC G c.N c.sc c.fn X) : ∀ (g : Md.G) (gx : Gx), okG g c gx = true → (match gx with
    | .e x => PG X x (tG G g)
    | .l xs => PGs X xs (tGs G g))
  | .v i, .e x, h => by
    cases x <;> first | (simp [okG] at h; done) | skip
    rename_i x pos
    simp only [okG, Bool.and_eq_true, decide_eq_true_eq] at h
    obtain ⟨h1, h2⟩ := loc_ok h.2
    exact g_name (by rw [C.hN]; exact C.nd) (by rw [C.hN]; exact h.1) (by rw [C.hs]; exact h1) (by rw [C.hf, C.hs]; exact h2)
  | .t gs, .e x, h => by
    cases x <;> first | (simp [okG] at h; done) | skip
    rename_i es k pos
    simp only [okG, Bool.and_eq_true, decide_eq_true_eq] at h
    exact g_tup C (g_sound C gs (.l es) h.2) h.1.1 h.1.2
  | .nil, .l xs, h => by
    cases xs <;> first | (simp [okG] at h; done) | exact g_nil
  | .cons a r, .l xs, h => by
    cases xs with
    | nil => simp [okG] at h
    | cons e es =>
      simp only [okG, Bool.and_eq_true] at h
      exact g_cons (g_sound C a (.e e) h.1.2) (g_sound C r (.l es) h.2) h.1.1
  | .v i, .l xs, h => by simp [okG] at h
  | .t gs, .l xs, h => by simp [okG] at h
  | .nil, .e x, h => by simp [okG] at h
  | .cons a r, .e x, h => by simp [okG] at h
/-! ### calls -/
theorem callB_ok {es : List Expr} {args : Md.E} {f : Tx → Bool} (h : callB c es args f = true) : (es = [] ∧ args = .nil) ∨ ∃ e es', es = e :: es' ∧ (e :: es').all noStar = true ∧ f (.a (e :: es')) = true := by
  unfold callB at h
  split at h
  · exact .inl ⟨rfl, isNil_ok h⟩
  · rw [Bool.and_eq_true] at h
    rename_i hne
    cases es with
    | nil => exact absurd rfl hne
    | cons e es => exact .inr ⟨e, es, rfl, h.1, h.2⟩
theorem bltn (O : GOk G) (C : XC G c.N c.sc c.fn X) {x : Str} (h : x ∈ bnames) : X.mg x = none := by rw [C.hmg]; exact O.bn x h
theorem ownOf_vs (N : List Str) (vs : List Nat) : (ownOf N vs).map (·.2) = vs := by
  unfold ownOf
  rw [List.map_map]
  exact (List.map_congr_left fun _ _ => rfl).trans (List.map_id vs)
theorem op_ok (C : XC G c.N c.sc c.fn X) {op : Operator} {o : Md.Bo} {m : Bool} (h : OpOf op o) : OpR X (binaryOp op) (r2D G (Md.binop o m)) := op_bin h
theorem bi_ok (O : GOk G) (C : XC G c.N c.sc c.fn X) {b : Md.Bi} {m : Bool} {y : Str} {e : Expr} {es : List Expr} {args : Md.E} {p pos : Pos} (hn : biName b = some y.toString) (hy : y = Str.ofString y.toString) (hg : Gl X y) (hs : (e :: es).all noStar = true) (ha : PA X (e :: es) (tA G args)) :
    PE X (.Call (.Name y p) (e :: es) [] pos) (tE G (.bi b m args)) := by
  generalize hz : y.toString = z at hn hy
  subst hy
  clear hz
  cases b <;> simp only [biName, Option.some.injEq, reduceCtorEq] at hn
  · subst hn; exact r_biF (c_len C m) hg (bltn O C (by decide)) boot_len (by decide) (by decide) ha hs
  · subst hn; exact r_biF (c_abs C m) hg (bltn O C (by decide)) PyProof.Rows.boot_abs (by decide) (by decide) ha hs
  · subst hn; exact r_biF (c_max2 C m) hg (bltn O C (by decide)) (by decide +kernel) (by decide) (by decide) ha hs
  · subst hn; exact r_biF (c_min2 C m) hg (bltn O C (by decide)) (by decide +kernel) (by decide) (by decide) ha hs
  · subst hn; exact r_biF (c_max1 C m) hg (bltn O C (by decide)) (by decide +kernel) (by decide) (by decide) ha hs
  · subst hn; exact r_biT (c_int C m) hg (bltn O C (by decide)) PyProof.Rows.boot_int (by decide) (by decide) ha hs
  · subst hn; exact r_biT (c_list C m) hg (bltn O C (by decide)) PyProof.Rows.boot_list (by decide) (by decide) ha hs
  · subst hn; exact r_biT (c_tuple C m) hg (bltn O C (by decide)) PyProof.Rows.boot_tuple (by decide) (by decide) ha hs
  · subst hn; exact r_biF (c_sorted C m) hg (bltn O C (by decide)) PyProof.Rows.boot_sorted (by decide) (by decide) ha hs
  · subst hn; exact r_biF (c_all C m) hg (bltn O C (by decide)) (by decide +kernel) (by decide) (by decide) ha hs
theorem bm_ok (C : XC G c.N c.sc c.fn X) {b : Md.Bm} {m : Bool} {y : Str} {o : Expr} {es : List Expr} {eo args : Md.E} {apos pos : Pos} (hn : bmName b = some y.toString) (hy : y = Str.ofString y.toString) (ho : PE X o (tE G eo)) (hb : baseOk o = true) (hs : es.all noStar = true) (hl : es.length < 30) (hp : (apos.endLine == pos.line) = true)
    (ha : (es = [] ∧ args = .nil) ∨ ∃ e es', es = e :: es' ∧ PA X (e :: es') (tA G args)) : PE X (.Call (.Attribute o y apos) es [] pos) (tE G (.bm b m eo args)) := by
  generalize hz : y.toString = z at hn hy
  subst hy
  clear hz
  have rl : ∀ {b : Md.Bm}, b ≠ .get → ∀ {F : Fo} {μ : List Addr} {H : Hp} {s : Md.St} {d : Md.D} {v : V}, RS G.K F μ H s → VR F μ H d v → Md.bmRecv b d s = true → tyV G.K "list" v H := fun {b} hb {F μ H s d v} R r h => by
    refine recv_list R r ?_
    cases b <;> first | exact absurd rfl hb | exact h
  rcases ha with ⟨rfl, rfl⟩ | ⟨e, es', rfl, ha⟩
  · cases b <;> simp only [bmName, Option.some.injEq, reduceCtorEq] at hn
    · subst hn; exact r_bm0 C PySem.F.plainAttrs_list PySem.F.slot_list_append PySem.F.type_list_append (m_append m) (rl (b := .append) nofun) ho hb hp
    · subst hn; exact r_bm0 C PySem.F.plainAttrs_list PySem.F.slot_list_extend PySem.F.type_list_extend (m_extend m) (rl (b := .extend) nofun) ho hb hp
    · subst hn; exact r_bm0 C PySem.F.plainAttrs_list PySem.F.slot_list_index PySem.F.type_list_index (m_index C m) (rl (b := .index) nofun) ho hb hp
    · subst hn; exact r_bm0 C PySem.F.plainAttrs_list PySem.F.slot_list_pop PySem.F.type_list_pop (m_pop m) (rl (b := .pop) nofun) ho hb hp
    · subst hn; exact r_bm0 C PySem.F.plainAttrs_list PySem.F.slot_list_pop PySem.F.type_list_pop (m_pop0 m) (rl (b := .pop0) nofun) ho hb hp
    · subst hn; exact r_bm0 C PySem.F.plainAttrs_list PySem.F.slot_list_reverse PySem.F.type_list_reverse (m_reverse m) (rl (b := .reverse) nofun) ho hb hp
    · subst hn; exact r_bm0 C PySem.F.plainAttrs_dict PySem.F.slot_dict_get PySem.F.type_dict_get (m_get C m) recv_dict ho hb hp
  · cases b <;> simp only [bmName, Option.some.injEq, reduceCtorEq] at hn
    · subst hn; exact r_bm1 C PySem.F.plainAttrs_list PySem.F.slot_list_append PySem.F.type_list_append (m_append m) (rl (b := .append) nofun) ho ha hb hs hl hp
    · subst hn; exact r_bm1 C PySem.F.plainAttrs_list PySem.F.slot_list_extend PySem.F.type_list_extend (m_extend m) (rl (b := .extend) nofun) ho ha hb hs hl hp
    · subst hn; exact r_bm1 C PySem.F.plainAttrs_list PySem.F.slot_list_index PySem.F.type_list_index (m_index C m) (rl (b := .index) nofun) ho ha hb hs hl hp
    · subst hn; exact r_bm1 C PySem.F.plainAttrs_list PySem.F.slot_list_pop PySem.F.type_list_pop (m_pop m) (rl (b := .pop) nofun) ho ha hb hs hl hp
    · subst hn; exact r_bm1 C PySem.F.plainAttrs_list PySem.F.slot_list_pop PySem.F.type_list_pop (m_pop0 m) (rl (b := .pop0) nofun) ho ha hb hs hl hp
    · subst hn; exact r_bm1 C PySem.F.plainAttrs_list PySem.F.slot_list_reverse PySem.F.type_list_reverse (m_reverse m) (rl (b := .reverse) nofun) ho ha hb hs hl hp
    · subst hn; exact r_bm1 C PySem.F.plainAttrs_dict PySem.F.slot_dict_get PySem.F.type_dict_get (m_get C m) recv_dict ho ha hb hs hl hp
/-- an expression that the check is right for -/
abbrev Snd (G : Gv) (e : Md.E) : Prop := ∀ (c : Ck) (tx : Tx) (X : Cx), c.flds = G.flds → XC G c.N c.sc c.fn X → ok e c tx = true → Goal G X e tx
theorem all_mem {l vs : List Nat} (h : (l.all fun i => decide (i ∈ vs)) = true) : ∀ i ∈ l, i ∈ vs := fun i hi => by
  have := List.all_eq_true.mp h i hi
  exact of_decide_eq_true this
theorem lc_ok (hf : c.flds = G.flds) (C : XC G c.N c.sc c.fn X) {vs : List Nat} {g : Md.G} {it d elt : Md.E} {scope : Scope} {ee tg iter : Expr} {ifs : List Expr}
    (h : (((((blkC c.N c.sc scope (ownOf c.N vs) = true ∧ noSet iter = true) ∧ ((Md.slots g).all fun i => decide (i ∈ vs)) = true) ∧ ok it c (.i tg iter) = true) ∧ okG g (c.blk scope) (.e tg) = true) ∧ ok d (c.blk scope) (.f ifs) = true) ∧ ok elt (c.blk scope) (.e ee) = true)
    (ihit : Snd G it) (ihd : Snd G d) (ihelt : Snd G elt) : LcOk G c.N c.sc X scope (ownOf c.N vs) vs ee tg iter ifs g it d elt := by
  obtain ⟨⟨⟨⟨⟨⟨h1, h2⟩, h3⟩, h4⟩, h5⟩, h6⟩, h7⟩ := h
  exact ⟨ihit c (.i _ _) X hf C h4, blkOk_by h1, ownOf_vs _ _, fun X' C' => g_sound (c := c.blk scope) C' g (.e tg) h5, fun X' C' => ihd (c.blk scope) (.f _) X' hf C' h6, fun X' C' => ihelt (c.blk scope) (.e _) X' hf C' h7, h2, all_mem h3⟩
theorem lc2_ok (hf : c.flds = G.flds) (C : XC G c.N c.sc c.fn X) {vs vs1 : List Nat} {g g1 : Md.G} {it d it1 d1 elt : Md.E} {scope : Scope} {ee tg iter tg1 iter1 : Expr} {ifs ifs1 : List Expr}
    (h : (((((((((((blkC c.N c.sc scope (ownOf c.N vs) = true ∧ noSet iter = true) ∧ noSet iter1 = true) ∧ ((Md.slots g).all fun i => decide (i ∈ vs)) = true) ∧ ((Md.slots g1).all fun i => decide (i ∈ vs1)) = true) ∧ (vs1.all fun i => decide (i ∈ vs)) = true) ∧
      ok it c (.i tg iter) = true) ∧ okG g (c.blk scope) (.e tg) = true) ∧ ok d (c.blk scope) (.f ifs) = true) ∧ ok it1 (c.blk scope) (.i tg1 iter1) = true) ∧ okG g1 (c.blk scope) (.e tg1) = true) ∧ ok d1 (c.blk scope) (.f ifs1) = true) ∧ ok elt (c.blk scope) (.e ee) = true)
    (ihit : Snd G it) (ihd : Snd G d) (ihit1 : Snd G it1) (ihd1 : Snd G d1) (ihelt : Snd G elt) : Lc2Ok G c.N c.sc X scope (ownOf c.N vs) vs vs1 ee tg iter ifs tg1 iter1 ifs1 g it d g1 it1 d1 elt := by
  obtain ⟨⟨⟨⟨⟨⟨⟨⟨⟨⟨⟨⟨h1, h2⟩, h3⟩, h4⟩, h5⟩, h6⟩, h7⟩, h8⟩, h9⟩, h10⟩, h11⟩, h12⟩, h13⟩ := h
  exact ⟨ihit c (.i _ _) X hf C h7, blkOk_by h1, ownOf_vs _ _, fun X' C' => g_sound (c := c.blk scope) C' g (.e tg) h8, fun X' C' => ihd (c.blk scope) (.f _) X' hf C' h9, fun X' C' => ihit1 (c.blk scope) (.i _ _) X' hf C' h10,
    fun X' C' => g_sound (c := c.blk scope) C' g1 (.e tg1) h11, fun X' C' => ihd1 (c.blk scope) (.f _) X' hf C' h12, fun X' C' => ihelt (c.blk scope) (.e _) X' hf C' h13, h2, h3, all_mem h4, all_mem h5, all_mem h6⟩
theorem rng_ok (C : XC G c.N c.sc c.fn X) {tg : Expr} {es : List Expr} {args : Md.E} {p pos : Pos} (hg : Gl X "range") (hm : X.mg "range" = none) (hs : es.all noStar = true) (hl : alen args = some es.length) (hn : (es.length = 1 ∨ es.length = 2) ∨ es.length = 3) (ha : PA X es (tA G args)) : PI X tg (.Call (.Name "range" p) es [] pos) (tI G (.rng args)) := by
  match es, hs, hl, hn, ha with
  | [a], hs, hl, _, ha => exact i_rng1 C hg hm ha (by simpa using hs) hl
  | [a, b], hs, hl, _, ha => simp at hs; exact i_rng2 C hg hm ha hs.1 hs.2 hl
  | [a, b, d], hs, hl, _, ha => simp at hs; exact i_rng3 C hg hm ha hs.1 hs.2.1 hs.2.2 hl
  | [], _, _, hn, _ => simp at hn
  | _ :: _ :: _ :: _ :: _, _, _, hn, _ => simp at hn
/-! ### the theorem -/
theorem sound (O : GOk G) : ∀ (e : Md.E) (c : Ck) (tx : Tx) (X : Cx), c.flds = G.flds → XC G c.N c.sc c.fn X → ok e c tx = true → Goal G X e tx := by
  intro e
  induction e with
  | stop => intro c tx X hf C h; exact pE_ok C rfl h fun x _ => r_stop
  | var i =>
    intro c tx X hf C h
    refine pE_ok C rfl h fun x hx => ?_
    split at hx
    · simp only [Bool.and_eq_true, decide_eq_true_eq] at hx
      exact r_var (by rw [C.hN]; exact hx.1.1.1) (by rw [C.hs]; exact vis_ok hx.1.1.2) (nm_ok hx.1.2) (by simpa using hx.2)
    · cases hx
  | int i =>
    intro c tx X hf C h
    refine pE_ok C rfl h fun x hx => ?_
    split at hx
    · cases of_decide_eq_true hx; exact r_int
    · cases hx
  | str i =>
    intro c tx X hf C h
    refine pE_ok C rfl h fun x hx => ?_
    split at hx
    · cases of_decide_eq_true hx; exact r_str
    · cases hx
  | bl i =>
    intro c tx X hf C h
    refine pE_ok C rfl h fun x hx => ?_
    split at hx
    · cases of_decide_eq_true hx; exact r_bl
    · cases hx
  | non =>
    intro c tx X hf C h
    refine pE_ok C rfl h fun x hx => ?_
    split at hx
    · exact r_non
    · cases hx
  | glo y =>
    intro c tx X hf C h
    refine pE_ok C rfl h fun x hx => ?_
    split at hx
    · rw [Bool.and_eq_true, decide_eq_true_eq] at hx
      obtain ⟨rfl, h2⟩ := hx
      obtain ⟨h3, h4⟩ := glo_ok C h2
      exact r_glo O C h3 h4
    · cases hx
  | isG n a y iha =>
    intro c tx X hf C h
    refine pT_ok h (fun x hx => ?_) fun x hx => ?_
    · split at hx
      · simp only [Bool.and_eq_true, decide_eq_true_eq] at hx
        obtain ⟨⟨⟨rfl, h2⟩, h3⟩, h4⟩ := hx
        obtain ⟨h5, h6⟩ := glo_ok C h2
        split at h3
        · have : n = false := by simpa using h3
          subst this
          exact r_isG (n := false) O C h5 h6 (iha c (.e _) X hf C h4)
        · have : n = true := h3
          subst this
          exact r_isG (n := true) O C h5 h6 (iha c (.e _) X hf C h4)
        · cases h3
      · cases hx
    · split at hx
      · simp only [Bool.and_eq_true, decide_eq_true_eq] at hx
        obtain ⟨⟨⟨rfl, h2⟩, h3⟩, h4⟩ := hx
        obtain ⟨h5, h6⟩ := glo_ok C h2
        split at h3
        · have : n = false := by simpa using h3
          subst this
          exact q_isG (n := false) O C h5 h6 (iha c (.e _) X hf C h4)
        · have : n = true := h3
          subst this
          exact q_isG (n := true) O C h5 h6 (iha c (.e _) X hf C h4)
        · cases h3
      · cases hx
  | bin o m a b iha ihb =>
    intro c tx X hf C h
    refine pE_ok C rfl h fun x hx => ?_
    split at hx
    · simp only [Bool.and_eq_true] at hx
      exact r_op (op_bin (bo_ok hx.1.1)) (iha c (.e _) X hf C hx.1.2) (ihb c (.e _) X hf C hx.2)
    · cases hx
  | neg a iha =>
    intro c tx X hf C h
    refine pE_ok C rfl h fun x hx => ?_
    split at hx
    · exact r_neg (iha c (.e _) X hf C hx)
    · cases hx
  | cmp o a b iha ihb =>
    intro c tx X hf C h
    refine pT_ok h (fun x hx => ?_) fun x hx => ?_
    · split at hx
      · simp only [Bool.and_eq_true, Bool.not_eq_true'] at hx
        exact r_cmp C (co_ok hx.1.1.1) (iha c (.e _) X hf C hx.1.1.2) (ihb c (.e _) X hf C hx.1.2) hx.2
      · cases hx
    · split at hx
      · simp only [Bool.and_eq_true, Bool.not_eq_true'] at hx
        exact q_cmp C (co_ok hx.1.1.1) (iha c (.e _) X hf C hx.1.1.2) (ihb c (.e _) X hf C hx.1.2) hx.2
      · cases hx
  | chain o p a b d iha ihb ihd =>
    intro c tx X hf C h
    refine pT_ok h (fun x hx => ?_) fun x hx => ?_
    · split at hx
      · simp only [Bool.and_eq_true, Bool.not_eq_true'] at hx
        exact r_chain C (co_ok hx.1.1.1.1.1) (co_ok hx.1.1.1.1.2) (iha c (.e _) X hf C hx.1.1.1.2) (ihb c (.e _) X hf C hx.1.1.2) (ihd c (.e _) X hf C hx.1.2) hx.2
      · cases hx
    · split at hx
      · simp only [Bool.and_eq_true, Bool.not_eq_true'] at hx
        exact q_chain C (co_ok hx.1.1.1.1.1) (co_ok hx.1.1.1.1.2) (iha c (.e _) X hf C hx.1.1.1.2) (ihb c (.e _) X hf C hx.1.1.2) (ihd c (.e _) X hf C hx.1.2) hx.2
      · cases hx
  | and a r iha ihr =>
    intro c tx X hf C h
    simp only [ok] at h
    split at h
    · rw [Bool.and_eq_true] at h
      exact r_and (iha c (.e _) X hf C h.1) (ihr c (.e _) X hf C h.2)
    · rw [Bool.and_eq_true] at h
      exact (q_and (iha c (.t _) X hf C h.1) (ihr c (.w _) X hf C h.2)).pt
    · rw [Bool.and_eq_true] at h
      exact q_and (iha c (.t _) X hf C h.1) (ihr c (.w _) X hf C h.2)
    · rw [Bool.and_eq_true] at h
      exact pts_one (q_and (iha c (.t _) X hf C h.1) (ihr c (.w _) X hf C h.2)).pt
    · cases h
  | or a r iha ihr =>
    intro c tx X hf C h
    simp only [ok] at h
    split at h
    · rw [Bool.and_eq_true] at h
      exact r_or (iha c (.e _) X hf C h.1) (ihr c (.e _) X hf C h.2)
    · rw [Bool.and_eq_true] at h
      exact (q_or (iha c (.t _) X hf C h.1) (ihr c (.w _) X hf C h.2)).pt
    · rw [Bool.and_eq_true] at h
      exact q_or (iha c (.t _) X hf C h.1) (ihr c (.w _) X hf C h.2)
    · rw [Bool.and_eq_true] at h
      exact pts_one (q_or (iha c (.t _) X hf C h.1) (ihr c (.w _) X hf C h.2)).pt
    · cases h
  | one a iha =>
    intro c tx X hf C h
    simp only [ok] at h
    split at h
    · exact r_one (iha c (.e _) X hf C h)
    · rename_i op ea pos
      cases op with
      | And => exact q_one (iha c (.t _) X hf C h)
      | Or => exact q_one' (iha c (.t _) X hf C h)
    · cases h
  | not a iha =>
    intro c tx X hf C h
    simp only [ok] at h
    split at h
    · exact r_not C (iha c (.e _) X hf C h)
    · exact q_not (iha c (.t _) X hf C h)
    · exact pts_one (q_not (iha c (.t _) X hf C h))
    · cases h
  | ife d a b ihd iha ihb =>
    intro c tx X hf C h
    refine pE_ok C rfl h fun x hx => ?_
    split at hx
    · simp only [Bool.and_eq_true] at hx
      exact r_ife (ihd c (.t _) X hf C hx.1.1) (iha c (.e _) X hf C hx.1.2) (ihb c (.e _) X hf C hx.2)
    · cases hx
  | nil =>
    intro c tx X hf C h
    simp only [ok] at h
    split at h
    · exact a_nil
    · exact ⟨[], .nil, fun pos => pps_nil, rfl, rfl, rfl⟩
    · cases h
  | cons a r iha ihr =>
    intro c tx X hf C h
    simp only [ok] at h
    split at h
    · simp only [Bool.and_eq_true] at h
      exact a_cons (iha c (.e _) X hf C h.1.2) (ihr c (.a _) X hf C h.2) (star_ok h.1.1)
    · rw [Bool.and_eq_true] at h
      obtain ⟨ev, r', v, vs', ps, e1, e2, h1, h2, h3, h4, h5, h6⟩ := ihr c (.dv _ _) X hf C h.2
      cases e2
      subst e1
      exact ⟨(a, ev) :: ps, .cons h2, fun pos => pps_cons (iha c (.e _) X hf C h.1) h1 (h3 pos), by simp [h4], by simp [h5], by simp [h6]⟩
    · rw [Bool.and_eq_true] at h
      obtain ⟨ps, h1, h2, h3, h4, h5⟩ := ihr c (.d _ _) X hf C h.2
      exact ⟨a, r, _, _, ps, rfl, rfl, iha c (.e _) X hf C h.1, h1, h2, h3, h4, h5⟩
    · simp only [Bool.and_eq_true] at h
      exact ⟨a, by rw [isNil_ok h.1.2], h.1.1, iha c (.e _) X hf C h.2⟩
    · simp only [Bool.and_eq_true] at h
      obtain ⟨b, e1, _, h2⟩ := ihr c (.one _) X hf C h.2
      exact ⟨a, b, by rw [e1], h.1.1, iha c (.e _) X hf C h.1.2, h2⟩
    · cases h
  | star a r iha ihr =>
    intro c tx X hf C h
    simp only [ok] at h
    split at h
    · rw [Bool.and_eq_true] at h
      exact a_star C (iha c (.e _) X hf C h.1) (ihr c (.a _) X hf C h.2)
    · cases h
  | tup args ih =>
    intro c tx X hf C h
    refine pE_ok C rfl h fun x hx => ?_
    split at hx
    · exact r_tup (ih c (.a _) X hf C hx)
    · cases hx
  | lst m args ih =>
    intro c tx X hf C h
    refine pE_ok C rfl h fun x hx => ?_
    split at hx
    · exact r_lst (ih c (.a _) X hf C hx)
    · cases hx
  | idx a i iha ihi =>
    intro c tx X hf C h
    refine pE_ok C rfl h fun x hx => ?_
    split at hx
    · simp only [Bool.and_eq_true] at hx
      exact r_idx C (iha c (.e _) X hf C hx.1.2) (ihi c (.e _) X hf C hx.2) hx.1.1
    · cases hx
  | slc m a lo hi iha ihl ihh =>
    intro c tx X hf C h
    refine pE_ok C rfl h fun x hx => ?_
    split at hx
    · simp only [Bool.and_eq_true] at hx
      exact r_slc C (iha c (.e _) X hf C hx.1.1) (ihl c (.o _) X hf C hx.1.2) (ihh c (.o _) X hf C hx.2)
    · cases hx
  | hole =>
    intro c tx X hf C h
    simp only [ok] at h
    split at h
    · exact o_none
    · cases h
  | fld a f cs iha =>
    intro c tx X hf C h
    refine pE_ok C rfl h fun x hx => ?_
    split at hx
    · simp only [Bool.and_eq_true, decide_eq_true_eq, List.all_eq_true] at hx
      obtain ⟨⟨⟨rfl, h2⟩, h3⟩, h4⟩ := hx
      exact r_fld O C (iha c (.e _) X hf C h4) h2 fun d hd => by rw [← hf]; exact h3 d hd
    · cases hx
  | call f args ih =>
    intro c tx X hf C h
    refine pE_ok C rfl h fun x hx => ?_
    split at hx
    · simp only [Bool.and_eq_true, decide_eq_true_eq] at hx
      obtain ⟨⟨rfl, h2⟩, h3⟩ := hx
      obtain ⟨g1, g2⟩ := glo_ok C h2
      rcases callB_ok h3 with ⟨rfl, rfl⟩ | ⟨e, es, rfl, h4, h5⟩
      · exact r_call0 O C g1 g2
      · exact r_call O C g1 g2 h4 (ih c (.a _) X hf C h5)
    · cases hx
  | meth o f args iho ih =>
    intro c tx X hf C h
    refine pE_ok C rfl h fun x hx => ?_
    split at hx
    · simp only [Bool.and_eq_true, decide_eq_true_eq] at hx
      obtain ⟨⟨⟨⟨⟨⟨⟨rfl, h2⟩, h3⟩, h4⟩, h5⟩, h6⟩, h7⟩, h8⟩ := hx
      rcases callB_ok h8 with ⟨rfl, rfl⟩ | ⟨e, es, rfl, h9, h10⟩
      · exact r_meth O C (iho c (.e _) X hf C h3) h4 h5 h6 h7 h2 a_nil fun _ => rfl
      · exact r_meth O C (iho c (.e _) X hf C h3) h4 h5 h6 h7 h2 (ih c (.a _) X hf C h10) fun z => by cases z
    · cases hx
  | make d args ih =>
    intro c tx X hf C h
    refine pE_ok C rfl h fun x hx => ?_
    split at hx
    · simp only [Bool.and_eq_true, decide_eq_true_eq] at hx
      obtain ⟨⟨rfl, h2⟩, h3⟩ := hx
      obtain ⟨g1, g2⟩ := glo_ok C h2
      rcases callB_ok h3 with ⟨rfl, rfl⟩ | ⟨e, es, rfl, h4, h5⟩
      · exact r_make0 O C g1 g2
      · exact r_make O C g1 g2 h4 (ih c (.a _) X hf C h5)
    · cases hx
  | bi b m args ih =>
    intro c tx X hf C h
    refine pE_ok C rfl h fun x hx => ?_
    split at hx
    · rw [Bool.and_eq_true] at hx
      obtain ⟨h1, h2⟩ := hx
      obtain ⟨g1, g2⟩ := glo_ok C h1
      split at h2
      · rw [Bool.and_eq_true, decide_eq_true_eq] at h2
        obtain ⟨rfl, h3⟩ := h2
        split at h3
        · simp only [Bool.and_eq_true, decide_eq_true_eq] at h3
          obtain ⟨⟨⟨rfl, h4⟩, h5⟩, h6⟩ := h3
          exact r_sortSet O C g1 (glo_ok C h4).1 (ih c (.a _) X hf C h6) h5
        · cases h3
      · simp only [Bool.and_eq_true, decide_eq_true_eq] at h2
        obtain ⟨⟨rfl, h3⟩, h4⟩ := h2
        split at h4
        · simp only [Bool.and_eq_true, decide_eq_true_eq] at h4
          obtain ⟨⟨rfl, h5⟩, h6⟩ := h4
          obtain ⟨a, rfl, h7, h8⟩ := ih c (.one _) X hf C h6
          exact r_inst O C h3 g1 (glo_ok C h5).1 h8 h7
        · cases h4
      · simp only [Bool.and_eq_true, decide_eq_true_eq] at h2
        rename_i y p es pos _ _ _
        cases es with
        | nil => simp at h2
        | cons e es => exact bi_ok O C h2.1.1.1.1 h2.1.1.1.2 g1 h2.1.2 (ih c (.a _) X hf C h2.2)
    · rw [Bool.and_eq_true] at hx
      obtain ⟨h1, h2⟩ := hx
      obtain ⟨g1, g2⟩ := glo_ok C h1
      split at h2
      · simp only [Bool.and_eq_true, decide_eq_true_eq] at h2
        obtain ⟨⟨⟨rfl, rfl⟩, h3⟩, h4⟩ := h2
        obtain ⟨a, b, rfl, _, h5, h6⟩ := ih c (.two _ _) X hf C h4
        exact r_maxD C h5 h6 h3 g1 (bltn O C (by decide))
      · cases h2
    · cases hx
  | bm b m o args iho ih =>
    intro c tx X hf C h
    refine pE_ok C rfl h fun x hx => ?_
    split at hx
    · simp only [Bool.and_eq_true, decide_eq_true_eq] at hx
      obtain ⟨⟨⟨⟨⟨⟨⟨h1, h2⟩, h3⟩, h4⟩, h5⟩, h6⟩, h7⟩, h8⟩ := hx
      refine bm_ok C h1 h2 (iho c (.e _) X hf C h3) h4 h5 h6 h7 ?_
      rcases callB_ok h8 with ⟨rfl, rfl⟩ | ⟨e, es, rfl, h9, h10⟩
      · exact .inl ⟨rfl, rfl⟩
      · exact .inr ⟨e, es, rfl, ih c (.a _) X hf C h10⟩
    · cases hx
  | comp m vs g it d elt ihit ihd ihelt =>
    intro c tx X hf C h
    refine pE_ok C rfl h fun x hx => ?_
    split at hx
    · simp only [Bool.and_eq_true] at hx
      exact r_comp C (lc_ok hf C hx (fun c tx X => ihit c tx X) (fun c tx X => ihd c tx X) fun c tx X => ihelt c tx X)
    · cases hx
  | comp2 m vs vs1 g it d g1 it1 d1 elt ihit ihd ihit1 ihd1 ihelt =>
    intro c tx X hf C h
    refine pE_ok C rfl h fun x hx => ?_
    split at hx
    · simp only [Bool.and_eq_true] at hx
      exact r_comp2 C (lc2_ok hf C hx (fun c tx X => ihit c tx X) (fun c tx X => ihd c tx X) (fun c tx X => ihit1 c tx X) (fun c tx X => ihd1 c tx X) fun c tx X => ihelt c tx X)
    · cases hx
  | yes =>
    intro c tx X hf C h
    simp only [ok] at h
    split at h
    · exact pts_yes
    · cases h
  | rng args ih =>
    intro c tx X hf C h
    simp only [ok] at h
    split at h
    · simp only [Bool.and_eq_true, decide_eq_true_eq, Bool.or_eq_true, beq_iff_eq] at h
      obtain ⟨⟨⟨⟨⟨rfl, h2⟩, h3⟩, h4⟩, h5⟩, h6⟩ := h
      exact rng_ok C (glo_ok C h2).1 (bltn O C (by decide)) h3 h4 h5 (ih c (.a _) X hf C h6)
    · cases h
  | enm a ih =>
    intro c tx X hf C h
    simp only [ok] at h
    split at h
    · simp only [Bool.and_eq_true, decide_eq_true_eq] at h
      obtain ⟨⟨⟨rfl, h2⟩, h3⟩, h4⟩ := h
      exact i_enm C (glo_ok C h2).1 (bltn O C (by decide)) (ih c (.e _) X hf C h4) h3
    · cases h
  | zip a b iha ihb =>
    intro c tx X hf C h
    simp only [ok] at h
    split at h
    · simp only [Bool.and_eq_true, decide_eq_true_eq] at h
      obtain ⟨⟨⟨⟨⟨rfl, h2⟩, h3⟩, h4⟩, h5⟩, h6⟩ := h
      exact i_zip C (glo_ok C h2).1 (bltn O C (by decide)) (iha c (.e _) X hf C h5) (ihb c (.e _) X hf C h6) h3 h4
    · cases h
  | rev a ih => intro c tx X hf C h; simp [ok] at h
  | dict m args ih =>
    intro c tx X hf C h
    refine pE_ok C rfl h fun x hx => ?_
    split at hx
    · rename_i ks vs pos
      split at hx
      · rw [Bool.and_eq_true] at hx
        cases vs with
        | nil => rw [isNil_ok hx.2]; exact r_dict0
        | cons v vs => simp at hx
      · simp only [Bool.and_eq_true, Bool.not_eq_true', decide_eq_true_eq] at hx
        rename_i hne
        obtain ⟨⟨rfl, h1⟩, h2⟩ := hx
        obtain ⟨ps, h3, h4, h5, h6, h7⟩ := ih c (.d _ _) X hf C h1
        exact r_dictN h3 (h4 _) h7 h6 hne h2 h5
    · cases hx
end
end Sn
end
section
set_option maxRecDepth 100000
/-! Snd18: the check of statements, and that it is right. -/
namespace Sn
open PySem PySem.Spec PyProof.Rows L2
inductive Sx where
  | s (x : Stmt) | b (xs : List Stmt)
def sS (sx : Sx) (f : Stmt → Bool) : Bool := match sx with
  | .s x => f x
  | .b [x] => f x
  | _ => false
def isLcE : Md.E → Bool
  | .comp _ _ _ _ _ _ => true
  | .comp2 _ _ _ _ _ _ _ _ _ _ => true
  | _ => false
/-- a comprehension that a plain name takes: the stores are exchanged -/
def swB (sc : Scope) (e : Expr) (t : Str) (px : Pos) : Bool := match e with
  | .ListComp _ _ s pos => kind? sc t .local && px.line == pos.line && !(s.names.any fun p => p.1 == t && (p.2 == .local || p.2 == .cell))
  | .SetComp _ _ s pos => true
  | .DictComp _ _ _ s pos => true
  | _ => false
def isList : Expr → Bool
  | .ListComp _ _ _ _ => true
  | _ => false
def docB : Stmt → Bool
  | .Pass _ => true
  | .Expr (.Constant (.str _) _ _) _ => true
  | _ => false
def augB : Operator → Md.Bo → Bool
  | .Add, .add => true
  | .Sub, .sub => true
  | _, _ => false
def okS : Md.S → Ck → Sx → Bool
  | .stop, _, _ => true
  | .skip, _, sx => match sx with
    | .s x => docB x
    | .b [] => true
    | .b [x] => docB x
    | _ => false
  | .seq a b, c, sx => match sx with
    | .b (x :: rest) => okS a c (.s x) && okS b c (.b rest)
    | _ => false
  | .asg i e, c, sx => sS sx fun x => match x with
    | .Assign [.Name y py] v _ => decide (c.N[i]? = some y) && locB c y && ok e c (.e v) && (!(swB c.sc v y py) || (isLcE e && isList v))
    | _ => false
  | .asgT g e, c, sx => sS sx fun x => match x with
    | .Assign [tg] v _ => okG g c (.e tg) && ok e c (.e v) && noTup v && noLc v && noStar tg
    | _ => false
  | .par _ _ _ _, _, _ => false
  | .setF o f cs e, c, sx => sS sx fun x => match x with
    | .Assign [.Attribute eo h _] v _ => decide (f = h) && cs.all (fun d => decide ((d, f) ∈ c.flds)) && ok o c (.e eo) && ok e c (.e v)
    | _ => false
  | .setI o i e, c, sx => sS sx fun x => match x with
    | .Assign [.Subscript eo ei _] v _ => ok o c (.e eo) && ok i c (.e ei) && ok e c (.e v) && noLc v && noTup v && noSlice ei
    | _ => false
  | .aug i o e, c, sx => sS sx fun x => match x with
    | .AugAssign (.Name y _) op v _ => decide (c.N[i]? = some y) && locB c y && ok e c (.e v) && augB op o
    | _ => false
  | .exp e, c, sx => sS sx fun x => match x with
    | .Expr v _ => ok e c (.e v) && noLc v
    | _ => false
  | .ret e, c, sx => sS sx fun x => match x with
    | .Return (some v) _ => ok e c (.e v)
    | _ => false
  | .retN, c, sx => sS sx fun x => match x with
    | .Return none _ => true
    | _ => false
  | .ife d a b, c, sx => sS sx fun x => match x with
    | .If v xs ys _ => ok d c (.t v) && okS a c (.b xs) && okS b c (.b ys)
    | _ => false
  | .forS g it b, c, sx => sS sx fun x => match x with
    | .For tg iter body [] _ => ok it c (.i tg iter) && okG g c (.e tg) && okS b c (.b body) && noSet iter
    | _ => false
  | .whl d b, c, sx => sS sx fun x => match x with
    | .While v body [] _ => ok d c (.t v) && okS b c (.b body)
    | _ => false
  | .brk, c, sx => sS sx fun x => match x with
    | .Break _ => true
    | _ => false
section
variable {G : Gv} {X : Cx} {c : Ck}
def GoalS (G : Gv) (X : Cx) (e : Md.S) : Sx → Prop
  | .s x => PS X x (tS G e)
  | .b xs => PSs X xs (tS G e)
theorem sS_ok {e : Md.S} {sx : Sx} {f : Stmt → Bool} (h : sS sx f = true) (k : ∀ x, f x = true → PS X x (tS G e)) : GoalS G X e sx := by
  unfold sS at h
  split at h
  · exact k _ h
  · exact ss_one (k _ h)
  · cases h
theorem doc_ok {x : Stmt} (h : docB x = true) : PS X x (tS G .skip) := by
  unfold docB at h
  split at h
  · exact s_pass
  · exact s_doc
  · cases h
theorem sw_lc {elt : Expr} {gs : List Comprehension} {s : Scope} {pos px : Pos} {t : Str} {l : Nat} {env : Env} :
    swapsWith (.ListComp elt gs s pos) (some (.Name t px)) l env = pure (env.blockKind == .function && env.kindOf t == some .local && px.line == pos.line && !(s.names.any fun p => p.1 == t && (p.2 == .local || p.2 == .cell))) := by
  first | rfl | (unfold swapsWith; simp)
theorem sw_is {v : Expr} {y : Str} {py : Pos} {l : Nat} (C : XC G c.N c.sc c.fn X) (hk : c.sc.kind = .function) (hl : isList v = true ∨ swB c.sc v y py = false) : swapsWith v (some (.Name y py)) l X.env = pure (swB c.sc v y py) := by
  by_cases hn : noLc v = true
  · rw [sw_no hn]
    cases v <;> first | rfl | (simp [noLc] at hn; done)
  · cases v with
    | ListComp elt gs s pos =>
      rw [sw_lc]
      have e1 : X.env.blockKind = .function := by
        unfold Env.blockKind
        rw [C.hs, hk]
        rfl
      have e2 : (X.env.kindOf y == some .local) = kind? c.sc y .local := by
        unfold Env.kindOf kind?
        rw [C.hs]
        cases c.sc.names.lookup y with
        | none => rfl
        | some k => cases k <;> rfl
      rw [e1, e2]
      simp [swB]
    | SetComp elt gs s pos => exact absurd hl (by simp [isList, swB])
    | DictComp k v' gs s pos => exact absurd hl (by simp [isList, swB])
    | _ => exact absurd rfl hn
theorem sw_fld {v o : Expr} {f : Str} {p : Pos} {l : Nat} {env : Env} : swapsWith v (some (.Attribute o f p)) l env = pure false := by
  cases v <;> rfl
theorem soundS (O : GOk G) : ∀ (e : Md.S) (c : Ck) (sx : Sx) (X : Cx), c.flds = G.flds → c.sc.kind = .function → XC G c.N c.sc c.fn X → okS e c sx = true → GoalS G X e sx := by
  intro e
  induction e with
  | stop =>
    intro c sx X hf hk C h
    cases sx with
    | s x => exact s_stop
    | b xs => exact ss_stop
  | skip =>
    intro c sx X hf hk C h
    simp only [okS] at h
    split at h
    · exact doc_ok h
    · exact ss_nil
    · exact ss_one (doc_ok h)
    · cases h
  | seq a b iha ihb =>
    intro c sx X hf hk C h
    simp only [okS] at h
    split at h
    · rw [Bool.and_eq_true] at h
      exact ss_cons (iha c (.s _) X hf hk C h.1) (ihb c (.b _) X hf hk C h.2)
    · cases h
  | asg i e =>
    intro c sx X hf hk C h
    simp only [okS] at h
    refine sS_ok h fun x hx => ?_
    split at hx
    · rename_i y py v spos
      simp only [Bool.and_eq_true, Bool.or_eq_true, Bool.not_eq_true', decide_eq_true_eq] at hx
      obtain ⟨⟨⟨h1, h2⟩, h3⟩, h4⟩ := hx
      have L := loc_ok h2
      cases hs : swB c.sc v y py with
      | false => exact s_set C h1 L.1 L.2 (sound O e c (.e v) X hf C h3) (by rw [sw_is C hk (.inr hs), hs])
      | true =>
        rw [hs] at h4
        have h5 : isLcE e = true ∧ isList v = true := by simpa using h4
        have hsw : ∀ {l}, swapsWith v (some (.Name y py)) l X.env = pure true := fun {l} => by rw [sw_is C hk (.inl h5.2), hs]
        have hy : c.sc.names.lookup y = some .local := by
          cases v <;> first | (simp [isList] at h5; done) | skip
          simp only [swB, Bool.and_eq_true] at hs
          exact kind_ok hs.1.1
        cases e <;> first | (simp [isLcE] at h5; done) | skip
        · rename_i m vs g it d elt
          simp only [ok, pE] at h3
          split at h3
          · simp only [Bool.and_eq_true] at h3
            exact s_setLc C (lc_ok hf C h3 (sound O it) (sound O d) (sound O elt)) h1 hy hsw
          · cases h3
        · rename_i m vs vs1 g it d g1 it1 d1 elt
          simp only [ok, pE] at h3
          split at h3
          · simp only [Bool.and_eq_true] at h3
            exact s_setLc2 C (lc2_ok hf C h3 (sound O it) (sound O d) (sound O it1) (sound O d1) (sound O elt)) h1 hy hsw
          · cases h3
    · cases hx
  | asgT g e =>
    intro c sx X hf hk C h
    simp only [okS] at h
    refine sS_ok h fun x hx => ?_
    split at hx
    · simp only [Bool.and_eq_true] at hx
      exact s_asgT (g_sound C g (.e _) hx.1.1.1.1) (sound O e c (.e _) X hf C hx.1.1.1.2) hx.1.1.2 hx.1.2 hx.2
    · cases hx
  | par i j a b => intro c sx X hf hk C h; simp [okS] at h
  | setF o f cs e =>
    intro c sx X hf hk C h
    simp only [okS] at h
    refine sS_ok h fun x hx => ?_
    split at hx
    · simp only [Bool.and_eq_true, decide_eq_true_eq, List.all_eq_true] at hx
      obtain ⟨⟨⟨rfl, h2⟩, h3⟩, h4⟩ := hx
      exact s_setF O C (sound O o c (.e _) X hf C h3) (sound O e c (.e _) X hf C h4) sw_fld (fun d hd => hf ▸ h2 d hd)
    · cases hx
  | setI o i e =>
    intro c sx X hf hk C h
    simp only [okS] at h
    refine sS_ok h fun x hx => ?_
    split at hx
    · simp only [Bool.and_eq_true] at hx
      obtain ⟨⟨⟨⟨⟨h1, h2⟩, h3⟩, h4⟩, h5⟩, h6⟩ := hx
      exact s_setI C (sound O o c (.e _) X hf C h1) (sound O i c (.e _) X hf C h2) (sound O e c (.e _) X hf C h3) h4 h5 h6
    · cases hx
  | aug i o e =>
    intro c sx X hf hk C h
    simp only [okS] at h
    refine sS_ok h fun x hx => ?_
    split at hx
    · rename_i y py op v pos
      simp only [Bool.and_eq_true, decide_eq_true_eq] at hx
      obtain ⟨⟨⟨h1, h2⟩, h3⟩, h4⟩ := hx
      have L := loc_ok h2
      unfold augB at h4
      split at h4
      · exact s_augA C h1 L.1 L.2 (sound O e c (.e _) X hf C h3)
      · exact s_augS C h1 L.1 L.2 (sound O e c (.e _) X hf C h3)
      · cases h4
    · cases hx
  | exp e =>
    intro c sx X hf hk C h
    simp only [okS] at h
    refine sS_ok h fun x hx => ?_
    split at hx
    · rw [Bool.and_eq_true] at hx
      exact s_exp (sound O e c (.e _) X hf C hx.1) hx.2
    · cases hx
  | ret e =>
    intro c sx X hf hk C h
    simp only [okS] at h
    refine sS_ok h fun x hx => ?_
    split at hx
    · exact s_ret (sound O e c (.e _) X hf C hx)
    · cases hx
  | retN =>
    intro c sx X hf hk C h
    simp only [okS] at h
    refine sS_ok h fun x hx => ?_
    split at hx
    · exact s_retN
    · cases hx
  | ife d a b iha ihb =>
    intro c sx X hf hk C h
    simp only [okS] at h
    refine sS_ok h fun x hx => ?_
    split at hx
    · simp only [Bool.and_eq_true] at hx
      exact s_if (sound O d c (.t _) X hf C hx.1.1) (iha c (.b _) X hf hk C hx.1.2) (ihb c (.b _) X hf hk C hx.2)
    · cases hx
  | forS g it b ihb =>
    intro c sx X hf hk C h
    simp only [okS] at h
    refine sS_ok h fun x hx => ?_
    split at hx
    · simp only [Bool.and_eq_true] at hx
      exact s_for C (sound O it c (.i _ _) X hf C hx.1.1.1) (g_sound C g (.e _) hx.1.1.2) (ihb c (.b _) X hf hk C hx.1.2) hx.2
    · cases hx
  | whl d b ihb =>
    intro c sx X hf hk C h
    simp only [okS] at h
    refine sS_ok h fun x hx => ?_
    split at hx
    · simp only [Bool.and_eq_true] at hx
      exact s_while C (sound O d c (.t _) X hf C hx.1) (ihb c (.b _) X hf hk C hx.2)
    · cases hx
  | brk =>
    intro c sx X hf hk C h
    simp only [okS] at h
    refine sS_ok h fun x hx => ?_
    split at hx
    · exact s_brk
    · cases hx
end
end Sn
end
section
set_option maxRecDepth 100000
/-! Snd19: defs: the check of a module's defs makes their promises. -/
namespace Sn
open PySem PySem.Spec PyProof.Rows L2
mutual
theorem nr_of : ∀ {d : Md.D}, Md.nrA 0 d = true → Md.nr d = true
  | .non, _ => rfl
  | .bl _, _ => rfl
  | .int _, _ => rfl
  | .str _, _ => rfl
  | .scr _, _ => rfl
  | .tup ds, h => by simp only [Md.nrA] at h; simp only [Md.nr]; exact nrs_of h
  | .lst ds, h => by simp only [Md.nrA] at h; simp only [Md.nr]; exact nrs_of h
  | .ref m, h => by simp [Md.nrA] at h
theorem nrs_of : ∀ {ds : List Md.D}, Md.nrAs 0 ds = true → Md.nrs ds = true
  | [], _ => rfl
  | d :: ds, h => by
    simp only [Md.nrAs, Bool.and_eq_true] at h
    simp only [Md.nrs, Bool.and_eq_true]
    exact ⟨nr_of h.1, nrs_of h.2⟩
end
section
variable {K : PySem.W.Frag} {F F' : Fo} {μ μ' μ'' : List Addr} {H H' H'' : Hp} {s s' : Md.St}
theorem KR.below {κ : Type} {t : List Addr} {kvs : List (κ × Md.D)} {us : List (κ × V)} (z : Md.nrAs μ.length (kvs.map (·.2)) = true) (h : KR F (μ ++ t) H kvs us) : KR F μ H kvs us :=
  KR.of_vals h.keys (VRs.below z h.vals)
theorem OR.below {t : List Addr} {a : Addr} {o : Md.O} (z : Md.nrO μ.length o = true) (h : OR K F (μ ++ t) H a o) : OR K F μ H a o := by
  cases o with
  | lst xs => obtain ⟨vs, h1, h2⟩ := h; exact ⟨vs, h1, VRs.below z h2⟩
  | dk xs => obtain ⟨vs, h1, h2⟩ := h; exact ⟨vs, h1, KR.below z h2⟩
  | dt xs => obtain ⟨vs, h1, h2⟩ := h; exact ⟨vs, h1, KR.below z h2⟩
  | ins c fs => obtain ⟨dx, vs, h1, h2⟩ := h; exact ⟨dx, vs, h1, KR.below z h2⟩
/-- the result, the objects from n on let go -/
theorem fz_vr {t : List Addr} {d d' : Md.D} {v : V} (R : RS K F (μ ++ t) H s) (hn : ∀ a ∈ t, ¬ F a) (r : VR F (μ ++ t) H d v) (h : Md.fzA μ.length s d = some d') : VR F μ H d' v := by
  unfold Md.fzA at h
  split at h
  · rename_i m
    split at h
    · rename_i hm
      cases h
      exact VR.below (t := t) (by simpa [Md.nrA] using hm) r
    · rename_i hm
      split at h
      · rename_i xs e
        split at h
        · rename_i z
          cases h
          simp only [VR] at r ⊢
          obtain ⟨a, rfl, ha⟩ := r
          obtain ⟨vs, h1, h2⟩ := R.ob m _ a e ha
          have hat : a ∈ t := by
            rw [List.getElem?_append_right (Nat.le_of_not_lt hm)] at ha
            exact List.mem_of_getElem? ha
          refine ⟨a, vs, rfl, h1, fun q => ?_, hn a hat, VRs.below z h2⟩
          exact (List.nodup_append.mp R.nd).2.2 a q a hat rfl
        · cases h
      · cases h
  · split at h
    · rename_i z
      cases h
      exact VR.below z r
    · cases h
theorem fz_nr {d d' : Md.D} (h : Md.fzA 0 s d = some d') : Md.nr d' = true := by
  unfold Md.fzA at h
  split at h
  · rename_i m
    rw [if_neg (Nat.not_lt_zero m)] at h
    split at h
    · split at h
      · rename_i z
        cases h
        simp only [Md.nr]
        exact nrs_of z
      · cases h
    · cases h
  · split at h
    · rename_i z
      cases h
      exact nr_of z
    · cases h
/-- nothing of the store is touched -/
theorem Xt.back {t : List Addr} (x : Xt [] H t H') : Xt μ H μ H' := ⟨⟨[], by simp⟩, fun a o h _ => x.keep a o h (by simp), fun _ h => .inl h, x.tup⟩
theorem RS.same (R : RS K F μ H s) (x : ∀ a o, H a = some o → H' a = some o) (y : Xt μ H μ H') : RS K F μ H' s :=
  ⟨R.len, R.nd, fun n o a h1 h2 => by
    obtain ⟨u, hu⟩ := Mut.some' (R.ob n o a h1 h2).mut
    exact (R.ob n o a h1 h2).mono y ((x a u hu).trans hu.symm), fun a h => by
    obtain ⟨u, hu⟩ := R.ff a h
    exact ⟨u, x a u hu⟩, R.kk⟩
theorem start_er {N : List Str} {ds : List Md.D} {vs : List V} {ns : Nat} (r : VRs F μ H ds vs) (hN : N.length = ns) : ER F μ H (ds.map some ++ List.replicate (ns - ds.length) none) (start N vs) := by
  subst hN
  refine ⟨by simp [L2.start, r.len], fun i d h => ?_⟩
  by_cases hi : i < ds.length
  · rw [List.getElem?_append_left (by simpa using hi), List.getElem?_map] at h
    obtain ⟨e, h1, h2⟩ := Option.map_eq_some_iff.mp h
    cases h2
    obtain ⟨v, hv, k⟩ := r.get h1
    refine ⟨v, ?_, k⟩
    have hl : i < vs.length := r.len ▸ hi
    unfold L2.start
    rw [List.getElem?_append_left (by simpa using hl), List.getElem?_map, hv] <;> rfl
  · rw [List.getElem?_append_right (by simpa using Nat.le_of_not_lt hi)] at h
    rw [List.getElem?_replicate] at h
    split at h <;> cases h
end
/-! ### a def -/
section
variable {G : Gv}
theorem run_body {md : Md.MF} {N : List Str} {F : Fo} {μ : List Addr} {H : Hp} {s s1 : Md.St} {ds : List Md.D} {vs : List V} {d : Md.D} {Q : VK} (R : RS G.K F μ H s) (r : VRs F μ H ds vs) (hN : N.length = md.ns) (h : Md.runF G.Γ G.gl md ds s = some (d, s1))
    (k : ∀ v H' μ', Xt μ H μ' H' → RS G.K F μ' H' s1 → VR F μ' H' d v → Q v H') : tS G md.body { nx := fun _ H' => Q .non H', rt := Q } (start N vs) H := by
  unfold Md.runF at h
  split at h
  · rename_i hl
    have E := start_er (N := N) r hN
    rw [hl.1] at E
    split at h
    · rename_i d' ρ' s' e
      cases h
      exact ⟨F, μ, _, s, _, _, _, R, E, e, k⟩
    · rename_i ρ' s' e
      cases h
      exact ⟨F, μ, _, s, _, _, _, R, E, e, fun σ' H' μ' x R' _ => k .non H' μ' x R' (by simp only [VR])⟩
    · cases h
  · cases h
theorem runF_len {md : Md.MF} {s : Md.St} {ds : List Md.D} {r} (h : Md.runF G.Γ G.gl md ds s = some r) : ds.length = md.np := by
  unfold Md.runF at h
  split at h
  · rename_i hl; exact hl.1
  · cases h
end
/-- a module, its check -/
structure Mo where
  P : Program
  w : World
  K : PySem.W.Frag
  mg : Str → Option Value
  base : Heap
  Φ : Md.Tab
  gl : Str → Option Md.D
  clss : List Str
  flds : List (Str × Str)
def Mo.gv (M : Mo) (n : Nat) : Gv := { P := M.P, w := M.w, K := M.K, mg := M.mg, base := M.base, k := 2 * n, Γ := Md.callN M.Φ M.gl n, gl := M.gl, clss := M.clss, flds := M.flds }
structure DefOk (M : Mo) (md : Md.MF) (a : Addr) (fd : FuncData) (N ps : List Str) : Prop where
  ex : ∃ x qual params body scope kws, FunD M.K x qual params body scope [] kws a fd ∧ FnScope N ps scope ∧ okS md.body ⟨N, scope, fun _ => true, M.flds⟩ (.b body) = true
  bi : Binds M.K fd ps []
  np : ps.length = md.np
  ns : N.length = md.ns
structure MoOk (M : Mo) : Prop where
  bn : ∀ x ∈ bnames, M.mg x = none
  gls : ∀ x d, M.gl x = some d → ∃ v u, M.mg x = some v ∧ RelV u v ∧ (∀ i, d = .int i → u = .int i) ∧ ∀ ds, d = .tup ds → ∀ H, Dp M.K H u (toPy d)
  fn : ∀ x md, M.Φ (x, none) = some md → ∃ a fd N ps, DefOk M md a fd N ps ∧ M.mg x = some (.ref a) ∧ PySem.W.keepIn M.K (.ref a) = true
  me : ∀ c m md, M.Φ (c, some m) = some md → c ∈ M.clss ∧ ∃ a fd N ps, DefOk M md a fd N ps ∧ (m = initS → Mk M.K (He.ga M.K c) a ∧ M.mg c = some (.ref (He.ga M.K c))) ∧ (m ≠ initS → Meth M.K (He.ga M.K c) m a)
  cl : ∀ c ∈ M.clss, Cls M.K (He.ga M.K c)
  fl : ∀ p ∈ M.flds, p.1 ∈ M.clss ∧ NoAttr M.K (He.ga M.K p.1) p.2
theorem callN_len {Φ : Md.Tab} {gl : Str → Option Md.D} {n : Nat} {f : Md.FK} {md : Md.MF} {ds : List Md.D} {s : Md.St} {r} (hΦ : Φ f = some md) (h : Md.callN Φ gl n f ds s = some r) : ds.length = md.np := by
  cases n with
  | zero => simp [Md.callN] at h
  | succ n =>
    have lr : ∀ {s r}, Md.runF (Md.callN Φ gl n) gl md ds s = some r → ds.length = md.np := fun {s r} h => by
      unfold Md.runF at h
      split at h
      · rename_i hl; exact hl.1
      · cases h
    simp only [Md.callN, hΦ] at h
    split at h
    · split at h
      · split at h
        · rename_i e; exact lr e
        · cases h
      · cases h
    · exact lr h
    · split at h
      · rename_i e; exact lr e
      · cases h
theorem callN_some {Φ : Md.Tab} {gl : Str → Option Md.D} {n : Nat} {f : Md.FK} {ds : List Md.D} {s : Md.St} {r} (h : Md.callN Φ gl n f ds s = some r) : ∃ md, Φ f = some md := by
  cases n with
  | zero => simp [Md.callN] at h
  | succ n =>
    simp only [Md.callN] at h
    split at h
    · cases h
    · exact ⟨_, ‹_›⟩
theorem spI_len {M : Mo} {n : Nat} {f : Md.FK} {md : Md.MF} {ps : List Str} (hΦ : M.Φ f = some md) (hp : ps.length = md.np) : ∀ vs H Q E, spI M.K (Md.callN M.Φ M.gl n f) vs H Q E → vs.length = ps.length := fun vs H Q E ⟨F, μ, s, ds, d, s', R, r, h, k⟩ => by
  rw [← r.len, callN_len hΦ h, hp]
theorem fn_at {M : Mo} {n : Nat} {f : Md.FK} {md : Md.MF} {a : Addr} {fd : FuncData} {N ps : List Str} (O : GOk (M.gv n)) (hΦ : M.Φ f = some md) (D : DefOk M md a fd N ps) : FnOk M.P M.w M.K M.mg M.base CX0 (2 * (n + 1)) a fd ps (spI M.K (Md.callN M.Φ M.gl (n + 1) f)) := by
  obtain ⟨x, qual, params, body, scope, kws, FD, S, hok⟩ := D.ex
  refine FunD.ok (k := 2 * n + 1) FD S (spI_len hΦ D.np) fun cdv A outer s0 H0 vs Q E hr hsp => ?_
  have C : XC (M.gv n) N scope (fun _ => true) (cxOf CX0 M.P M.w M.K M.mg M.base N qual scope a cdv A outer s0 H0 E).nox := ⟨rfl, rfl, rfl, rfl, rfl, rfl, S.nd, rfl, rfl, rfl, hr, rfl⟩
  have B : PSs (cxOf CX0 M.P M.w M.K M.mg M.base N qual scope a cdv A outer s0 H0 E).nox body (tS (M.gv n) md.body) := soundS O md.body ⟨N, scope, fun _ => true, M.flds⟩ (.b body) _ rfl S.kind C hok
  refine ⟨_, B.nox, ?_⟩
  obtain ⟨F, μ, s, ds, d, s', R, r, h, k⟩ := hsp
  simp only [Md.callN, hΦ] at h
  split at h
  · split at h
    · rename_i hnr
      split at h
      · rename_i d1 s1 e
        obtain ⟨d2, h2, h3⟩ := Option.map_eq_some_iff.mp h
        cases h3
        have R0 : RS M.K ⟨fun a => F a ∨ a ∈ μ, F.K⟩ [] H0 [] := ⟨rfl, List.nodup_nil, fun n o a h => by simp at h, fun a h => h.elim (R.ff a) fun h => Mut.some' (R.mem h), R.kk⟩
        refine run_body (G := M.gv n) R0 (VRs.nr (F' := ⟨fun a => F a ∨ a ∈ μ, F.K⟩) (μ' := []) (fun b u _ h1 h2 => ⟨by simp, fun z => z.elim h2 h1⟩) rfl hnr r) D.ns e fun v H' μ' x R' V' => ?_
        have y : Xt μ H0 μ H' := x.back
        refine k v H' μ y (R.same (fun b o z => x.keep b o z (by simp)) y) ?_
        have V2 : VR ⟨fun a => F a ∨ a ∈ μ, F.K⟩ [] H' _ v := fz_vr (μ := []) (t := μ') R' (fun b hb => by
          rcases x.new b hb with z | z
          · simp at z
          · rintro (q | q)
            · obtain ⟨u, hu⟩ := R.ff b q; rw [hu] at z; cases z
            · obtain ⟨u, hu⟩ := Mut.some' (R.mem q); rw [hu] at z; cases z) V' h2
        exact VR.nr (F := ⟨fun a => F a ∨ a ∈ μ, F.K⟩) (F' := F) (μ := []) (μ' := μ) (fun b u _ _ z => ⟨fun q => z (Or.inr q), fun q => z (Or.inl q)⟩) rfl (fz_nr h2) V2
      · cases h
    · cases h
  · exact run_body (G := M.gv n) R r D.ns h k
  · split at h
    · rename_i d1 s1 e
      split at h
      · rename_i hall
        obtain ⟨d2, h2, h3⟩ := Option.map_eq_some_iff.mp h
        cases h3
        refine run_body (G := M.gv n) R r D.ns e fun v H' μ' x R' V' => ?_
        obtain ⟨t, rfl⟩ := x.pre
        have y : Xt μ H0 μ H' := ⟨⟨[], by simp⟩, x.keep, fun _ h => .inl h, x.tup⟩
        have ht : ∀ b ∈ t, ¬ F b := fun b hb q => by
          rcases x.new b (List.mem_append_right _ hb) with z | z
          · exact (List.nodup_append.mp R'.nd).2.2 b z b hb rfl
          · obtain ⟨u, hu⟩ := R.ff b q; rw [hu] at z; cases z
        have hle : s.length ≤ s1.length := by
          have := R'.len
          rw [List.length_append, R.len] at this
          omega
        refine k v H' μ y ⟨by rw [R.len, List.length_take]; omega, R.nd, fun m o b h1 hb => ?_, R'.ff, R.kk⟩ (fz_vr R' ht V' (by rw [R.len]; exact h2))
        have hm : m < s.length := by
          have := (List.getElem?_eq_some_iff.mp h1).1
          rw [List.length_take] at this
          omega
        rw [List.getElem?_take_of_lt hm] at h1
        have ob := R'.ob m o b h1 (by rw [List.getElem?_append_left (by rw [R.len]; exact hm)]; exact hb)
        refine OR.below ?_ ob
        rw [R.len]
        refine List.all_eq_true.mp hall o ?_
        have : (s1.take s.length)[m]? = some o := by rw [List.getElem?_take_of_lt hm]; exact h1
        exact List.mem_of_getElem? this
      · cases h
    · cases h
theorem fn_at0 {M : Mo} {f : Md.FK} {md : Md.MF} {a : Addr} {fd : FuncData} {ps : List Str} : FnOk M.P M.w M.K M.mg M.base CX0 (2 * 0) a fd ps (spI M.K (Md.callN M.Φ M.gl 0 f)) :=
  ⟨fun vs H Q E ⟨F, μ, s, ds, d, s', R, r, h, k⟩ => by simp [Md.callN] at h, fun A outer s H args us vs Q E hr he hb hv ⟨F, μ, s, ds, d, s', R, r, h, k⟩ => by simp [Md.callN] at h⟩
theorem mo_gok {M : Mo} (O : MoOk M) (n : Nat) (hF : ∀ f md a fd N ps, M.Φ f = some md → DefOk M md a fd N ps → FnOk M.P M.w M.K M.mg M.base CX0 (2 * n) a fd ps (spI M.K (Md.callN M.Φ M.gl n f))) : GOk (M.gv n) where
  bn := O.bn
  gls := O.gls
  fn := fun x vs s r h => by
    obtain ⟨md, e⟩ := callN_some h
    obtain ⟨a, fd, N, ps, D, h1, h2⟩ := O.fn x md e
    exact ⟨a, h1, h2, fd, ps, D.bi, hF _ md a fd N ps e D⟩
  me := fun c m vs s r h => by
    obtain ⟨md, e⟩ := callN_some h
    obtain ⟨hc, a, fd, N, ps, D, h1, h2⟩ := O.me c m md e
    exact ⟨hc, a, ⟨fd, ps, D.bi, hF _ md a fd N ps e D⟩, h1, h2⟩
  cl := O.cl
  fl := O.fl
/-- THE THEOREM: the promises of a checked module's defs -/
theorem mo_fn {M : Mo} (O : MoOk M) : ∀ (n : Nat) (f : Md.FK) (md : Md.MF) (a : Addr) (fd : FuncData) (N ps : List Str), M.Φ f = some md → DefOk M md a fd N ps → FnOk M.P M.w M.K M.mg M.base CX0 (2 * n) a fd ps (spI M.K (Md.callN M.Φ M.gl n f))
  | 0, f, md, a, fd, N, ps, _, _ => fn_at0 (md := md)
  | n + 1, f, md, a, fd, N, ps, e, D => fn_at (mo_gok O n (mo_fn O n)) e D
end Sn
end
section
set_option maxRecDepth 100000
/-! Snd20: a module's table, its check, its head. -/
namespace Sn
open PySem PySem.Spec PyProof.Rows L2
theorem zip_lookup : ∀ {ps : List Str} {us : List Value}, ps.Nodup → us.length = ps.length → ∀ n ∈ ps, ((ps.zip us).lookup n).isSome = true
  | [], _, _, _, n, h => by simp at h
  | p :: ps, [], _, hl, n, h => by simp at hl
  | p :: ps, u :: us, nd, hl, n, h => by
    simp only [List.zip_cons_cons, List.lookup_cons]
    by_cases e : n = p
    · subst e; simp
    · have : (n == p) = false := by simpa using e
      rw [this]
      exact zip_lookup (List.nodup_cons.mp nd).2 (by simpa using hl) n ((List.mem_cons.mp h).resolve_left e)
theorem fm_congr {α β : Type} {f g : α → Option β} : ∀ {l : List α}, (∀ n ∈ l, f n = g n) → l.filterMap f = l.filterMap g
  | [], _ => rfl
  | a :: l, h => by
    rw [List.filterMap_cons, List.filterMap_cons, h a List.mem_cons_self, fm_congr fun n hn => h n (List.mem_cons_of_mem _ hn)]
theorem zip_filter : ∀ {ps : List Str} {us : List Value}, ps.Nodup → us.length = ps.length → ps.filterMap (fun n => ((ps.zip us).lookup n).map (n, ·)) = ps.zip us
  | [], us, _, hl => by cases us <;> simp_all
  | p :: ps, [], _, hl => by simp at hl
  | p :: ps, u :: us, nd, hl => by
    simp only [List.zip_cons_cons, List.filterMap_cons, List.lookup_cons, beq_self_eq_true, Option.map_some]
    refine congrArg (List.cons (p, u)) (Eq.trans (fm_congr fun n hn => ?_) (zip_filter (List.nodup_cons.mp nd).2 (by simpa using hl)))
    have : (n == p) = false := by
      have : n ≠ p := fun e => (List.nodup_cons.mp nd).1 (e ▸ hn)
      simpa using this
    rw [this]
theorem bind_plain {x qual : Str} {args : List Arg} {body : List Stmt} {scope : Scope} {kd : List (Option Expr)} {df : List Expr} {kV doc pm : Value} {an : Option Addr} {cdv ct : Value} {us : List Value} (nd : (args.map (·.arg)).Nodup) (hl : us.length = (args.map (·.arg)).length) :
    bindArgs (PySem.W.fnOf x qual ⟨[], args, none, [], kd, none, df⟩ body scope .none kV doc pm an cdv ct) ⟨us, []⟩ = pure ((args.map (·.arg)).zip us) := by
  have m : ((args.map (·.arg)).filter fun n => ((args.map (·.arg)).zip us |>.lookup n).isNone) = [] := by
    rw [List.filter_eq_nil_iff]
    intro n hn
    have := zip_lookup nd hl n hn
    simp [Option.isSome_iff_ne_none] at this ⊢
    exact this
  have z := zip_filter nd hl
  unfold bindArgs PySem.W.fnOf
  simp only [seqItems?, List.map_nil, List.nil_append, List.append_nil, pure_bind, List.forIn_nil, Option.getD_none]
  generalize args.map (·.arg) = ps at nd hl m z ⊢
  have e0 : notAStandIn Value.none = pure () := rfl
  simp [hl, m, z, e0]

/-! ### a module's table -/
structure Ent where
  d : He.DefD
  N : List Str
  ps : List Str
  md : Md.MF
structure Tb where
  tab : List (Md.FK × Ent)
  gls : List (Str × Int)
  clss : List Str
  flds : List (Str × Str)
  tls : List (Str × Md.D)
def Tb.fn (T : Tb) : List He.DefD := T.tab.map fun p => p.2.d
def faE (f : Md.FK) : He.Fa := match f.2 with
  | none => .glo f.1
  | some m => if m = initS then .mkr f.1 else .meth f.1 m
def Tb.fa (T : Tb) : List He.Fa := bnames.map He.Fa.free ++ (T.gls.map (fun p => He.Fa.int p.1 p.2) ++ (T.tab.map (fun p => faE p.1) ++ (T.clss.map He.Fa.glo ++ (T.clss.map He.Fa.cls ++ T.flds.map fun p => He.Fa.noat p.1 p.2))))
def Tb.Φ (T : Tb) : Md.Tab := fun f => (T.tab.lookup f).map (·.md)
def Tb.gl (T : Tb) : Str → Option Md.D := fun x => match T.gls.lookup x with
  | some i => some (.int i)
  | none => T.tls.lookup x
/-- a module's tuple, in a part of the heap -/
def gvB (K : PySem.W.Frag) : Md.D → Value → Bool
  | .int i, v => match v with
    | .int j _ => decide (i = j)
    | _ => false
  | .str i, v => match v with
    | .str j _ => decide (i = j)
    | _ => false
  | .tup ds, v => match v with
    | .ref a => match K.lookup a with
      | some ⟨.type c, _, .seq its _, _⟩ => decide (c = "tuple") && (decide (its.size ≤ sizeLine) && gvBs K ds its.toList)
      | _ => false
    | _ => false
  | _, _ => false
where gvBs (K : PySem.W.Frag) : List Md.D → List Value → Bool
  | [], [] => true
  | d :: ds, v :: vs => gvB K d v && gvBs K ds vs
  | _, _ => false
def Tb.exB (T : Tb) (K : PySem.W.Frag) : Bool := T.tls.all fun p => match PySem.W.nsIn K mainGlobals p.1 with
  | some (some v) => (match p.2 with
    | .tup _ => gvB K p.2 v
    | _ => false)
  | _ => false
def parB (p : Arguments) (ps : List Str) : Bool := match p with
  | ⟨[], args, none, [], _, none, _⟩ => decide (args.map (·.arg) = ps)
  | _ => false
def Ent.ok (T : Tb) (f : Md.FK) (e : Ent) : Bool :=
  decide (e.d.at_ = f) && parB e.d.params e.ps && e.d.dfl.isEmpty && decide e.ps.Nodup && C8.scC e.N e.ps e.d.scope && decide (e.ps.length = e.md.np) && decide (e.N.length = e.md.ns) && (match f.2 with
    | none => true
    | some _ => decide (f.1 ∈ T.clss)) && decide (∀ p ∈ T.flds, p.1 ∈ T.clss) && okS e.md.body ⟨e.N, e.d.scope, fun _ => true, T.flds⟩ (.b e.d.body)
def Tb.ok (T : Tb) : Bool := T.tab.all fun p => p.2.ok T p.1
theorem gvB_ok {K : PySem.W.Frag} (d : Md.D) : ∀ {v : Value}, gvB K d v = true → ∃ u, RelV u v ∧ ∀ H, Dp K H u (toPy d) := by
  induction d using Md.D.rec (motive_2 := fun ds => ∀ {vs : List Value}, gvB.gvBs K ds vs = true → ∃ us, Vals us vs ∧ ∀ H, DpAll K H us (toPys ds)) with
  | int i =>
    intro v h
    unfold gvB at h
    split at h
    · rename_i j t
      have e := of_decide_eq_true h
      subst e
      exact ⟨.int i, ⟨t, rfl⟩, fun H => by simp only [toPy]; exact .int i⟩
    · cases h
  | str i =>
    intro v h
    unfold gvB at h
    split at h
    · rename_i j t
      have e := of_decide_eq_true h
      subst e
      exact ⟨.str i, ⟨t, rfl⟩, fun H => by simp only [toPy]; exact .str i⟩
    · cases h
  | tup ds ih =>
    intro v h
    unfold gvB at h
    split at h
    · rename_i a
      split at h
      · rename_i c od its n sl hl
        rw [Bool.and_eq_true, Bool.and_eq_true] at h
        obtain ⟨h1, h2, h3⟩ := h
        obtain ⟨us, h4, h5⟩ := ih h3
        refine ⟨.ref a, rfl, fun H => ?_⟩
        simp only [toPy]
        exact .tup (.inr ⟨_, its, n, hl, congrArg Value.type (of_decide_eq_true h1), rfl, of_decide_eq_true h2, h4⟩) (h5 H)
      · cases h
    · cases h
  | non => intro v h; simp [gvB] at h
  | bl b => intro v h; simp [gvB] at h
  | lst xs => intro v h; simp [gvB] at h
  | ref k => intro v h; simp [gvB] at h
  | scr k => intro v h; simp [gvB] at h
  | nil =>
    rename_i vs h
    cases vs with
    | nil => exact ⟨[], .nil, fun H => by simp only [toPys]; exact .nil⟩
    | cons v vs => simp [gvB.gvBs] at h
  | cons d ds ih1 ih2 =>
    rename_i vs h
    cases vs with
    | nil => simp [gvB.gvBs] at h
    | cons v vs =>
      simp only [gvB.gvBs, Bool.and_eq_true] at h
      obtain ⟨u, h1, h2⟩ := ih1 h.1
      obtain ⟨us, h3, h4⟩ := ih2 h.2
      exact ⟨u :: us, .cons h1 h3, fun H => by simp only [toPys]; exact .cons (h2 H) (h4 H)⟩
theorem look_mem {κ β : Type} [BEq κ] [LawfulBEq κ] {k : κ} {v : β} : ∀ {l : List (κ × β)}, l.lookup k = some v → (k, v) ∈ l
  | [], h => by simp at h
  | (a, b) :: l, h => by
    rw [List.lookup_cons] at h
    split at h
    · rename_i e
      cases h
      rw [eq_of_beq e]
      exact List.mem_cons_self
    · exact List.mem_cons_of_mem _ (look_mem h)
section
variable {T : Tb} {P : Program} {w : World} {K : PySem.W.Frag} {mg : Str → Option Value} {base h : Heap}
def Tb.mo (T : Tb) (P : Program) (w : World) (K : PySem.W.Frag) (mg : Str → Option Value) (base : Heap) : Mo := ⟨P, w, K, mg, base, T.Φ, T.gl, T.clss, T.flds⟩
theorem ent_def {f : Md.FK} {e : Ent} (c : He.SaysD T.fa T.fn K) (hm : (f, e) ∈ T.tab) (ho : e.ok T f = true) :
    ∃ fd, DefOk (T.mo P w K mg base) e.md (He.fAd K f) fd e.N e.ps ∧ PySem.W.keepIn K (.ref (He.fAd K f)) = true ∧ ∀ (s : Shared) (us : List Value), us.length = e.ps.length → BindsTo s fd ⟨us, []⟩ (e.ps.zip us) := by
  unfold Ent.ok at ho
  simp only [Bool.and_eq_true, decide_eq_true_eq] at ho
  obtain ⟨⟨⟨⟨⟨⟨⟨⟨⟨h1, h2⟩, h3⟩, h4⟩, h5⟩, h6⟩, h7⟩, _⟩, _⟩, h8⟩ := ho
  obtain ⟨fd, F⟩ := c.defs (d := e.d) (List.mem_map.mpr ⟨_, hm, rfl⟩)
  rw [h1] at F
  have e0 : e.d.dvs K = [] := by
    unfold He.DefD.dvs
    rw [List.isEmpty_iff.mp h3] <;> rfl
  rw [e0] at F
  have hb : ∀ (kV doc pm : Value) (an : Option Addr) (cdv ct : Value) (us : List Value), us.length = e.ps.length → bindArgs (PySem.W.fnOf e.d.name e.d.qual e.d.params e.d.body e.d.scope .none kV doc pm an cdv ct) ⟨us, []⟩ = pure (e.ps.zip us) := by
    intro kV doc pm an cdv ct us hl
    unfold parB at h2
    split at h2
    · rename_i args kd df ep
      have ea := of_decide_eq_true h2
      rw [ep, ← ea]
      rw [← ea] at h4 hl
      exact bind_plain h4 hl
    · cases h2
  exact ⟨fd, ⟨⟨_, _, _, _, _, _, F, C8.fnScope_by h5, h8⟩, F.bindsN hb, h6, h7⟩, F.kp, F.bindsA hb⟩
theorem fa_free {x : Str} (h : x ∈ bnames) : He.Fa.free x ∈ T.fa := List.mem_append_left _ (List.mem_map.mpr ⟨x, h, rfl⟩)
theorem fa_int {p : Str × Int} (h : p ∈ T.gls) : He.Fa.int p.1 p.2 ∈ T.fa := List.mem_append_right _ (List.mem_append_left _ (List.mem_map.mpr ⟨p, h, rfl⟩))
theorem fa_ent {f : Md.FK} {e : Ent} (h : (f, e) ∈ T.tab) : faE f ∈ T.fa := List.mem_append_right _ (List.mem_append_right _ (List.mem_append_left _ (List.mem_map.mpr ⟨(f, e), h, rfl⟩)))
theorem fa_glo {x : Str} (h : x ∈ T.clss) : He.Fa.glo x ∈ T.fa := List.mem_append_right _ (List.mem_append_right _ (List.mem_append_right _ (List.mem_append_left _ (List.mem_map.mpr ⟨x, h, rfl⟩))))
theorem fa_cls {x : Str} (h : x ∈ T.clss) : He.Fa.cls x ∈ T.fa := List.mem_append_right _ (List.mem_append_right _ (List.mem_append_right _ (List.mem_append_right _ (List.mem_append_left _ (List.mem_map.mpr ⟨x, h, rfl⟩)))))
theorem fa_noat {p : Str × Str} (h : p ∈ T.flds) : He.Fa.noat p.1 p.2 ∈ T.fa := List.mem_append_right _ (List.mem_append_right _ (List.mem_append_right _ (List.mem_append_right _ (List.mem_append_right _ (List.mem_map.mpr ⟨p, h, rfl⟩)))))
theorem tb_ent {f : Md.FK} {e : Ent} (hok : T.ok = true) (h : (f, e) ∈ T.tab) : e.ok T f = true := by
  unfold Tb.ok at hok
  rw [List.all_eq_true] at hok
  exact hok (f, e) h
theorem tb_look {f : Md.FK} {md : Md.MF} (h : T.Φ f = some md) (hok : T.ok = true) : ∃ e, (f, e) ∈ T.tab ∧ e.md = md ∧ e.ok T f = true := by
  unfold Tb.Φ at h
  obtain ⟨e, h1, h2⟩ := Option.map_eq_some_iff.mp h
  have hm := look_mem h1
  exact ⟨e, hm, h2, tb_ent hok hm⟩
/-- THE THEOREM: a checked table is a checked module -/
theorem mod_ok (X : K.In h) (G : h.Ns mainGlobals mg) (c : He.SaysD T.fa T.fn K) (cx : T.exB K = true) (hok : T.ok = true) (hne : T.tab ≠ []) : MoOk (T.mo P w K mg base) where
  bn := fun x hx => He.free_ok X G (c.facts (fa_free hx))
  gls := fun x d e => by
    have e : (match T.gls.lookup x with
      | some i => some (Md.D.int i)
      | none => T.tls.lookup x) = some d := e
    split at e
    · rename_i i h1
      cases e
      obtain ⟨t, h3⟩ := He.int_ok X G (c.facts (fa_int (look_mem h1)))
      exact ⟨_, .int i, h3, ⟨t, rfl⟩, fun j hj => (by cases hj; rfl), fun ds hd => (by cases hd)⟩
    · have hx := List.all_eq_true.mp cx _ (look_mem e)
      split at hx
      · rename_i v hn
        cases d with
        | tup ds =>
          obtain ⟨u, h1, h2⟩ := gvB_ok (.tup ds) hx
          exact ⟨v, u, PySem.W.mg_of X G hn, h1, fun j hj => (by cases hj), fun _ _ H => h2 H⟩
        | _ => cases hx
      · cases hx
  fn := fun x md e => by
    obtain ⟨e, hm, rfl, ho⟩ := tb_look e hok
    obtain ⟨fd, D, kp, _⟩ := ent_def (P := P) (w := w) (mg := mg) (base := base) c hm ho
    exact ⟨_, fd, _, _, D, He.glo_ok X G (c.facts (fa_ent hm)), kp⟩
  me := fun k m md e => by
    obtain ⟨e, hm, rfl, ho⟩ := tb_look e hok
    obtain ⟨fd, D, kp, _⟩ := ent_def (P := P) (w := w) (mg := mg) (base := base) c hm ho
    have hc : k ∈ T.clss := by
      unfold Ent.ok at ho
      simp only [Bool.and_eq_true, decide_eq_true_eq] at ho
      exact ho.1.1.2
    refine ⟨hc, _, fd, _, _, D, fun hi => ⟨?_, He.glo_ok X G (c.facts (fa_glo hc))⟩, fun hi => ?_⟩
    · have z := c.facts (fa_ent hm)
      unfold faE at z
      rw [show ((k, some m) : Md.FK).2 = some m from rfl] at z
      simp only [hi, if_true] at z
      rw [hi]
      exact He.mkr_ok z
    · have z := c.facts (fa_ent hm)
      unfold faE at z
      rw [show ((k, some m) : Md.FK).2 = some m from rfl] at z
      simp only [hi, if_false] at z
      exact He.meth_ok z
  cl := fun k hk => He.cls_ok (c.facts (fa_cls hk))
  fl := fun p hp => ⟨by
    cases ht : T.tab with
    | nil => exact absurd ht hne
    | cons q l =>
      obtain ⟨f, e⟩ := q
      have ho : e.ok T f = true := tb_ent hok (by rw [ht]; exact List.mem_cons_self)
      unfold Ent.ok at ho
      simp only [Bool.and_eq_true, decide_eq_true_eq] at ho
      exact ho.1.2 p hp, He.noat_ok (c.facts (fa_noat hp))⟩
def lawK : Md.FK := ("law", none)
/-- the law's script -/
theorem scr_vr {H : Hp} {a : Addr} {ns : List Int} (hO : Only H) (hS : SqL K H a (ns.map V.int)) : VR ⟨fun _ => False, K⟩ [] H (.scr ns) (.ref a) := by
  simp only [VR]
  refine ⟨a, rfl, ?_⟩
  rcases hS with (r | ⟨o, r⟩) | r
  · rcases hO a with z | ⟨o, xs, z⟩
    · rw [r] at z; cases z
    · rw [r] at z; cases z
  · exact .inl ⟨o, r, by simp, fun z => z⟩
  · exact .inr r
/-- THE LAW'S DEF keeps its promise -/
theorem law_fn {p : Str} {e : Ent} {fa : Addr} {n m : Nat} (X : K.In h) (G : h.Ns mainGlobals mg) (hfa : mg ("law" : Str) = some (.ref fa)) (c : He.SaysD T.fa T.fn K) (cx : T.exB K = true) (hok : T.ok = true) (hl : T.tab.lookup lawK = some e) (hp : e.ps = [p])
    (hv : ∀ ns : List Int, ns.length ≤ m → ∃ s, Md.callN T.Φ T.gl n lawK [.scr ns] [] = some (.bl true, s)) :
    ∃ (fd : FuncData) (sp : Sp), (∀ (s : Shared) (u : Value), BindsTo s fd ⟨[u], []⟩ [(p, u)]) ∧ (∀ (H : Hp) (a : Addr) (ns : List Int), ns.length ≤ m → Only H → SqL K H a (ns.map V.int) → sp [.ref a] H (fun v _ => v = .bl true) fun _ _ _ => False) ∧
      ∀ base : Heap, FnOk P w K mg base CX0 (2 * n) fa fd [p] sp := by
  have hm := look_mem hl
  have ho : e.ok T lawK = true := tb_ent hok hm
  have hne : T.tab ≠ [] := fun z => by rw [z] at hm; cases hm
  obtain ⟨fd, D, kp, hb⟩ := ent_def (P := P) (w := w) (mg := mg) (base := Heap.mk #[] {}) c hm ho
  have e1 := hfa.symm.trans (He.glo_ok X G (c.facts (fa_ent hm)))
  cases e1
  refine ⟨fd, spI K (Md.callN T.Φ T.gl n lawK), fun s u => ?_, fun H a ns hle hO hS => ?_, fun base => ?_⟩
  · have z := hb s [u] (by rw [hp]; rfl)
    rw [hp] at z
    exact z
  · obtain ⟨s', hs⟩ := hv ns hle
    refine ⟨⟨fun _ => False, K⟩, [], [], [.scr ns], _, s', ⟨rfl, List.nodup_nil, fun n o a h => by simp at h, fun _ h => h.elim, rfl⟩, ?_, hs, fun v H' μ' _ _ V' => ?_⟩
    · simp only [VRs]
      exact ⟨_, [], rfl, scr_vr hO hS, rfl⟩
    · simp only [VR] at V'
      exact V'
  · rw [← hp]
    exact mo_fn (M := T.mo P w K mg base) (mod_ok X G c cx hok hne) n lawK e.md _ fd e.N e.ps (show (T.tab.lookup lawK).map (·.md) = _ by rw [hl] <;> rfl) ⟨D.ex, D.bi, D.np, D.ns⟩
end
/-- the head's hook, with the module's tuples -/
def hookE (n : Nat) (fa : List He.Fa) (fn : List He.DefD) (ex : PySem.W.Frag → Bool) : PySem.W.Hook where
  α := He.AlD × Bool
  obs := fun s => (He.obsDG n fa fn s.heap.get?, ex (He.frG s.heap.get? (He.asD s.heap.get? n)))
  val := fun _ => (He.valD fn, true)
  says := fun _ h => ∃ K : PySem.W.Frag, K.In h ∧ He.SaysD fa fn K ∧ ex K = true
  of := fun _ _ e => ⟨_, He.frG_in, congrArg Prod.fst e, congrArg Prod.snd e⟩
  keeps := fun _ _ _ ⟨K, hK, c, x⟩ k => ⟨K, PySem.W.Frag.In.keeps hK k, c, x⟩
def obsE (n : Nat) (fa : List He.Fa) (fn : List He.DefD) (ex : PySem.W.Frag → Bool) (g : Addr → Option Obj) : He.AlD × Bool := (He.obsDG n fa fn g, ex (He.frG g (He.asD g n)))
theorem obsE_eq {n : Nat} {fa : List He.Fa} {fn : List He.DefD} {ex : PySem.W.Frag → Bool} {g : Addr → Option Obj} {s : Shared} (h : ∀ a, g a = s.heap.get? a) : obsE n fa fn ex g = (hookE n fa fn ex).obs s := by
  have e : g = s.heap.get? := funext h
  rw [e] <;> rfl
end Sn
end
section
set_option maxRecDepth 100000
set_option maxHeartbeats 0
namespace L34
open PySem PySem.Spec PyProof.Rows L2
def m_is_integer : Md.MF := ⟨1, 1, .pure, (.ret (.and (.bi (.isInst "int") false (.cons (.var 0) .nil)) (.one (.not (.bi (.isInst "bool") false (.cons (.var 0) .nil))))))⟩
def m_is_number : Md.MF := ⟨1, 1, .pure, (.ret (.and (.call "is_integer" (.cons (.var 0) .nil)) (.one (.cmp .ge (.var 0) (.int 0)))))⟩
def m_is_ascending : Md.MF := ⟨1, 3, .pure, (.ret (.bi .all false (.cons (.comp false [1, 2] (.t (.cons (.v 1) (.cons (.v 2) .nil))) (.zip (.var 0) (.slc false (.var 0) (.int 1) .hole)) .yes (.cmp .lt (.var 1) (.var 2))) .nil)))⟩
def m_is_clause : Md.MF := ⟨2, 3, .pure, (.seq (.ife (.or (.not (.bi (.isInst "tuple") false (.cons (.var 1) .nil))) (.one (.not (.bi .all false (.cons (.comp false [2] (.v 2) (.var 1) .yes (.call "is_integer" (.cons (.var 2) .nil))) .nil))))) (.ret (.bl false)) .skip) (.seq (.ife (.or (.not (.bi .all false (.cons (.comp false [2] (.v 2) (.var 1) .yes (.chain .lt .le (.int 0) (.bi .abs false (.cons (.var 2) .nil)) (.var 0))) .nil))) (.one (.not (.call "is_ascending" (.cons (.var 1) .nil))))) (.ret (.bl false)) .skip) (.ret (.bi .all false (.cons (.comp false [2] (.v 2) (.var 1) .yes (.cmp .notIn (.neg (.var 2)) (.var 1))) .nil)))))⟩
def m_made_clause : Md.MF := ⟨1, 2, .pure, (.seq (.ife (.comp false [1] (.v 1) (.var 0) (.cmp .isIn (.neg (.var 1)) (.var 0)) (.var 1)) (.ret .non) .skip) (.ret (.bi .tuple false (.cons (.bi .sortSet false (.cons (.var 0) .nil)) .nil))))⟩
def m_check_count : Md.MF := ⟨1, 1, .pure, (.ife (.or (.cmp .lt (.var 0) (.int 0)) (.one (.cmp .gt (.var 0) (.glo "MOST_VARIABLES")))) .stop .skip)⟩
def m_made_formula : Md.MF := ⟨2, 6, .pure, (.seq (.exp (.call "check_count" (.cons (.var 0) .nil))) (.seq (.forS (.v 2) (.var 1) (.ife (.not (.bi .all false (.cons (.comp false [3] (.v 3) (.var 2) .yes (.chain .lt .le (.int 0) (.bi .abs false (.cons (.var 3) .nil)) (.var 0))) .nil))) .stop .skip)) (.seq (.asg 4 (.comp false [2] (.v 2) (.var 1) .yes (.call "made_clause" (.cons (.var 2) .nil)))) (.ret (.tup (.cons (.var 0) (.cons (.bi .tuple false (.cons (.bi .sortSet false (.cons (.comp false [5] (.v 5) (.var 4) (.cmp .isNot (.var 5) .non) (.var 5)) .nil)) .nil)) .nil)))))))⟩
def m_falsifies : Md.MF := ⟨2, 3, .pure, (.ret (.bi .all false (.cons (.comp false [2] (.v 2) (.var 1) .yes (.cmp .isIn (.neg (.var 2)) (.var 0))) .nil)))⟩
def m_falsified : Md.MF := ⟨2, 4, .pure, (.seq (.forS (.t (.cons (.v 2) (.cons (.v 3) .nil))) (.enm (.idx (.var 0) (.int 1))) (.ife (.call "falsifies" (.cons (.var 1) (.cons (.var 3) .nil))) (.ret (.var 2)) .skip)) (.ret (.neg (.int 1))))⟩
def m_with_literal : Md.MF := ⟨2, 2, .pure, (.ret (.bi .tuple false (.cons (.bi .sorted false (.cons (.lst false (.star (.var 0) (.cons (.var 1) .nil))) .nil)) .nil)))⟩
def m_free_variables : Md.MF := ⟨2, 3, .pure, (.ret (.comp false [2] (.v 2) (.rng (.cons (.int 1) (.cons (.bin .add false (.idx (.var 0) (.int 0)) (.int 1)) .nil))) (.and (.cmp .notIn (.var 2) (.var 1)) (.one (.cmp .notIn (.neg (.var 2)) (.var 1)))) (.var 2)))⟩
def m_is_earlier : Md.MF := ⟨2, 2, .pure, (.ret (.and (.call "is_number" (.cons (.var 0) .nil)) (.one (.cmp .lt (.var 0) (.var 1)))))⟩
def m_resolvent : Md.MF := ⟨3, 5, .pure, (.seq (.ife (.or (.cmp .notIn (.var 2) (.var 0)) (.one (.cmp .notIn (.neg (.var 2)) (.var 1)))) (.ret .non) .skip) (.ret (.call "made_clause" (.cons (.bin .add false (.comp false [3] (.v 3) (.var 0) (.cmp .ne (.var 3) (.var 2)) (.var 3)) (.comp false [4] (.v 4) (.var 1) (.cmp .ne (.var 4) (.neg (.var 2))) (.var 4))) .nil))))⟩
def m_axiom_clause : Md.MF := ⟨2, 2, .pure, (.seq (.ife (.or (.cmp .ne (.bi .len false (.cons (.var 1) .nil)) (.int 2)) (.or (.not (.call "is_number" (.cons (.idx (.var 1) (.int 1)) .nil))) (.one (.cmp .ge (.idx (.var 1) (.int 1)) (.bi .len false (.cons (.idx (.var 0) (.int 1)) .nil)))))) (.ret .non) .skip) (.ret (.idx (.idx (.var 0) (.int 1)) (.idx (.var 1) (.int 1)))))⟩
def m_resolved_clause : Md.MF := ⟨3, 3, .raw, (.seq (.ife (.or (.cmp .ne (.bi .len false (.cons (.var 2) .nil)) (.int 4)) (.or (.not (.call "is_earlier" (.cons (.idx (.var 2) (.int 1)) (.cons (.bi .len false (.cons (.var 1) .nil)) .nil)))) (.one (.not (.call "is_earlier" (.cons (.idx (.var 2) (.int 2)) (.cons (.bi .len false (.cons (.var 1) .nil)) .nil))))))) (.ret .non) .skip) (.seq (.ife (.or (.not (.call "is_number" (.cons (.idx (.var 2) (.int 3)) .nil))) (.one (.not (.chain .lt .le (.int 0) (.idx (.var 2) (.int 3)) (.idx (.var 0) (.int 0)))))) (.ret .non) .skip) (.ret (.call "resolvent" (.cons (.idx (.var 1) (.idx (.var 2) (.int 1))) (.cons (.idx (.var 1) (.idx (.var 2) (.int 2))) (.cons (.idx (.var 2) (.int 3)) .nil)))))))⟩
def m_weakened_clause : Md.MF := ⟨3, 4, .raw, (.seq (.ife (.or (.cmp .ne (.bi .len false (.cons (.var 2) .nil)) (.int 3)) (.or (.not (.call "is_earlier" (.cons (.idx (.var 2) (.int 1)) (.cons (.bi .len false (.cons (.var 1) .nil)) .nil)))) (.one (.not (.call "is_clause" (.cons (.idx (.var 0) (.int 0)) (.cons (.idx (.var 2) (.int 2)) .nil))))))) (.ret .non) .skip) (.ret (.ife (.bi .all false (.cons (.comp false [3] (.v 3) (.idx (.var 1) (.idx (.var 2) (.int 1))) .yes (.cmp .isIn (.var 3) (.idx (.var 2) (.int 2)))) .nil)) (.idx (.var 2) (.int 2)) .non)))⟩
def m_next_clause : Md.MF := ⟨3, 3, .raw, (.seq (.ife (.and (.cmp .gt (.bi .len false (.cons (.var 2) .nil)) (.int 0)) (.one (.cmp .eq (.idx (.var 2) (.int 0)) (.str "axiom")))) (.ret (.call "axiom_clause" (.cons (.var 0) (.cons (.var 2) .nil)))) .skip) (.seq (.ife (.and (.cmp .gt (.bi .len false (.cons (.var 2) .nil)) (.int 0)) (.one (.cmp .eq (.idx (.var 2) (.int 0)) (.str "resolve")))) (.ret (.call "resolved_clause" (.cons (.var 0) (.cons (.var 1) (.cons (.var 2) .nil))))) .skip) (.seq (.ife (.and (.cmp .gt (.bi .len false (.cons (.var 2) .nil)) (.int 0)) (.one (.cmp .eq (.idx (.var 2) (.int 0)) (.str "weaken")))) (.ret (.call "weakened_clause" (.cons (.var 0) (.cons (.var 1) (.cons (.var 2) .nil))))) .skip) (.ret .non))))⟩
def m_sources : Md.MF := ⟨1, 1, .pure, (.seq (.ife (.cmp .eq (.idx (.var 0) (.int 0)) (.str "axiom")) (.ret (.lst false .nil)) .skip) (.ret (.ife (.cmp .eq (.idx (.var 0) (.int 0)) (.str "resolve")) (.lst false (.cons (.idx (.var 0) (.int 1)) (.cons (.idx (.var 0) (.int 2)) .nil))) (.lst false (.cons (.idx (.var 0) (.int 1)) .nil)))))⟩
def m_moved : Md.MF := ⟨2, 2, .raw, (.seq (.ife (.cmp .eq (.idx (.var 0) (.int 0)) (.str "axiom")) (.ret (.var 0)) .skip) (.seq (.ife (.cmp .eq (.idx (.var 0) (.int 0)) (.str "resolve")) (.ret (.tup (.cons (.str "resolve") (.cons (.idx (.var 1) (.idx (.var 0) (.int 1))) (.cons (.idx (.var 1) (.idx (.var 0) (.int 2))) (.cons (.idx (.var 0) (.int 3)) .nil)))))) .skip) (.ret (.tup (.cons (.str "weaken") (.cons (.idx (.var 1) (.idx (.var 0) (.int 1))) (.cons (.idx (.var 0) (.int 2)) .nil)))))))⟩
def m_pruned_to : Md.MF := ⟨2, 7, .tidy, (.seq (.asg 2 (.dict false (.cons (.var 1) (.cons (.bl true) .nil)))) (.seq (.forS (.v 3) (.rng (.cons (.var 1) (.cons (.neg (.int 1)) (.cons (.neg (.int 1)) .nil)))) (.ife (.cmp .isIn (.var 3) (.var 2)) (.forS (.v 4) (.call "sources" (.cons (.idx (.var 0) (.var 3)) .nil)) (.setI (.var 2) (.var 4) (.bl true))) .skip)) (.seq (.asg 5 (.dict false .nil)) (.seq (.asg 6 (.lst true .nil)) (.seq (.forS (.v 3) (.bi .sorted false (.cons (.var 2) .nil)) (.seq (.setI (.var 5) (.var 3) (.bi .len false (.cons (.var 6) .nil))) (.exp (.bm .append false (.var 6) (.cons (.call "moved" (.cons (.idx (.var 0) (.var 3)) (.cons (.var 5) .nil))) .nil))))) (.ret (.bi .tuple false (.cons (.var 6) .nil))))))))⟩
def m_Shortener_init : Md.MF := ⟨2, 2, .raw, (.seq (.setF (.var 0) "formula" ["Shortener"] (.var 1)) (.seq (.setF (.var 0) "steps" ["Shortener"] (.lst true .nil)) (.setF (.var 0) "clauses" ["Shortener"] (.lst true .nil))))⟩
def m_Shortener_add : Md.MF := ⟨2, 2, .raw, (.seq (.exp (.bm .append false (.fld (.var 0) "clauses" ["Shortener"]) (.cons (.call "next_clause" (.cons (.fld (.var 0) "formula" ["Shortener"]) (.cons (.fld (.var 0) "clauses" ["Shortener"]) (.cons (.var 1) .nil)))) .nil))) (.seq (.exp (.bm .append false (.fld (.var 0) "steps" ["Shortener"]) (.cons (.var 1) .nil))) (.ret (.bin .sub false (.bi .len false (.cons (.fld (.var 0) "steps" ["Shortener"]) .nil)) (.int 1)))))⟩
def m_Shortener_resolve : Md.MF := ⟨4, 4, .raw, (.seq (.ife (.cmp .notIn (.var 3) (.idx (.fld (.var 0) "clauses" ["Shortener"]) (.var 1))) (.ret (.var 1)) .skip) (.seq (.ife (.cmp .notIn (.neg (.var 3)) (.idx (.fld (.var 0) "clauses" ["Shortener"]) (.var 2))) (.ret (.var 2)) .skip) (.ret (.meth (.var 0) "add" (.cons (.tup (.cons (.str "resolve") (.cons (.var 1) (.cons (.var 2) (.cons (.var 3) .nil))))) .nil)))))⟩
def m_is_monomial : Md.MF := ⟨2, 3, .pure, (.seq (.ife (.or (.not (.bi (.isInst "tuple") false (.cons (.var 1) .nil))) (.one (.not (.bi .all false (.cons (.comp false [2] (.v 2) (.var 1) .yes (.and (.call "is_integer" (.cons (.var 2) .nil)) (.one (.chain .le .le (.int 1) (.var 2) (.var 0))))) .nil))))) (.ret (.bl false)) .skip) (.ret (.call "is_ascending" (.cons (.var 1) .nil))))⟩
def m_is_polynomial : Md.MF := ⟨2, 3, .pure, (.ret (.and (.bi (.isInst "tuple") false (.cons (.var 1) .nil)) (.and (.bi .all false (.cons (.comp false [2] (.v 2) (.var 1) .yes (.call "is_monomial" (.cons (.var 0) (.cons (.var 2) .nil)))) .nil)) (.one (.call "is_ascending" (.cons (.var 1) .nil))))))⟩
def m_plus : Md.MF := ⟨2, 3, .pure, (.ret (.bi .tuple false (.cons (.bi .sorted false (.cons (.comp false [2] (.v 2) (.bin .add false (.var 0) (.var 1)) (.cmp .ne (.cmp .isIn (.var 2) (.var 0)) (.cmp .isIn (.var 2) (.var 1))) (.var 2)) .nil)) .nil)))⟩
def m_times_monomial : Md.MF := ⟨2, 4, .pure, (.seq (.asg 2 (.tup .nil)) (.seq (.forS (.v 3) (.var 0) (.asg 2 (.call "plus" (.cons (.var 2) (.cons (.tup (.cons (.bi .tuple false (.cons (.bi .sortSet false (.cons (.bin .add false (.var 3) (.var 1)) .nil)) .nil)) .nil)) .nil))))) (.ret (.var 2))))⟩
def m_times : Md.MF := ⟨2, 4, .pure, (.seq (.asg 2 (.tup .nil)) (.seq (.forS (.v 3) (.var 1) (.asg 2 (.call "plus" (.cons (.var 2) (.cons (.call "times_monomial" (.cons (.var 0) (.cons (.var 3) .nil))) .nil))))) (.ret (.var 2))))⟩
def m_degree : Md.MF := ⟨1, 2, .pure, (.ret (.bi .maxD false (.cons (.comp false [1] (.v 1) (.var 0) .yes (.bi .len false (.cons (.var 1) .nil))) (.cons (.neg (.int 1)) .nil))))⟩
def m_value_at : Md.MF := ⟨2, 4, .pure, (.ret (.bin .mod false (.bi .len false (.cons (.comp false [2] (.v 2) (.var 0) (.bi .all false (.cons (.comp false [3] (.v 3) (.var 2) .yes (.cmp .isIn (.var 3) (.var 1))) .nil)) (.var 2)) .nil)) (.int 2)))⟩
def m_literal_factor : Md.MF := ⟨1, 1, .pure, (.ret (.ife (.cmp .gt (.var 0) (.int 0)) (.tup (.cons (.tup .nil) (.cons (.tup (.cons (.var 0) .nil)) .nil))) (.tup (.cons (.tup (.cons (.neg (.var 0)) .nil)) .nil))))⟩
def m_clause_polynomial : Md.MF := ⟨1, 3, .pure, (.seq (.asg 1 (.tup (.cons (.tup .nil) .nil))) (.seq (.forS (.v 2) (.var 0) (.asg 1 (.call "times" (.cons (.var 1) (.cons (.call "literal_factor" (.cons (.var 2) .nil)) .nil))))) (.ret (.var 1))))⟩
def m_leaf_cubes : Md.MF := ⟨2, 6, .pure, (.seq (.ife (.cmp .eq (.idx (.var 0) (.int 0)) (.str "leaf")) (.ret (.lst false (.cons (.tup (.cons (.idx (.var 0) (.int 1)) (.cons (.var 1) .nil))) .nil))) .skip) (.seq (.asgT (.t (.cons (.v 2) (.cons (.v 3) (.cons (.v 4) (.cons (.v 5) .nil))))) (.var 0)) (.ret (.bin .add false (.call "leaf_cubes" (.cons (.var 4) (.cons (.call "with_literal" (.cons (.var 1) (.cons (.neg (.var 3)) .nil))) .nil))) (.call "leaf_cubes" (.cons (.var 5) (.cons (.call "with_literal" (.cons (.var 1) (.cons (.var 3) .nil))) .nil)))))))⟩
def m_factors_of_tree : Md.MF := ⟨2, 7, .pure, (.seq (.asg 2 (.bin .mul true (.lst false (.cons (.tup .nil) .nil)) (.bi .len false (.cons (.idx (.var 0) (.int 1)) .nil)))) (.seq (.forS (.t (.cons (.v 3) (.cons (.v 4) .nil))) (.call "leaf_cubes" (.cons (.var 1) (.cons (.tup .nil) .nil))) (.seq (.asg 5 (.tup (.cons (.tup .nil) .nil))) (.seq (.forS (.v 6) (.var 4) (.ife (.cmp .notIn (.neg (.var 6)) (.idx (.idx (.var 0) (.int 1)) (.var 3))) (.asg 5 (.call "times" (.cons (.var 5) (.cons (.call "literal_factor" (.cons (.neg (.var 6)) .nil)) .nil)))) .skip)) (.setI (.var 2) (.var 3) (.call "plus" (.cons (.idx (.var 2) (.var 3)) (.cons (.var 5) .nil))))))) (.ret (.bi .tuple false (.cons (.var 2) .nil)))))⟩
def m_place_tree : Md.MF := ⟨3, 5, .raw, (.seq (.asg 3 (.var 0)) (.seq (.ife (.cmp .eq (.idx (.var 0) (.int 0)) (.str "ask")) (.seq (.asg 4 (.call "place_tree" (.cons (.idx (.var 0) (.int 2)) (.cons (.var 1) (.cons (.var 2) .nil))))) (.asg 3 (.tup (.cons (.str "ask") (.cons (.idx (.var 0) (.int 1)) (.cons (.var 4) (.cons (.call "place_tree" (.cons (.idx (.var 0) (.int 3)) (.cons (.var 1) (.cons (.var 2) .nil)))) .nil))))))) .skip) (.seq (.ife (.cmp .notIn (.var 3) (.var 2)) (.seq (.setI (.var 2) (.var 3) (.bi .len false (.cons (.var 1) .nil))) (.exp (.bm .append false (.var 1) (.cons (.var 3) .nil)))) .skip) (.ret (.idx (.var 2) (.var 3))))))⟩
def m_graph_of_tree : Md.MF := ⟨1, 2, .pure, (.seq (.asg 1 (.lst true .nil)) (.seq (.exp (.call "place_tree" (.cons (.var 0) (.cons (.var 1) (.cons (.dict true .nil) .nil))))) (.ret (.bi .tuple false (.cons (.var 1) .nil)))))⟩
def m_graph_leaf : Md.MF := ⟨2, 3, .pure, (.seq (.asg 2 (.idx (.var 0) (.neg (.int 1)))) (.seq (.whl (.cmp .eq (.idx (.var 2) (.int 0)) (.str "ask")) (.asg 2 (.idx (.var 0) (.ife (.cmp .isIn (.idx (.var 2) (.int 1)) (.var 1)) (.idx (.var 2) (.int 3)) (.idx (.var 2) (.int 2)))))) (.ret (.idx (.var 2) (.int 1)))))⟩
def m_tree_depth : Md.MF := ⟨1, 1, .pure, (.ret (.ife (.cmp .eq (.idx (.var 0) (.int 0)) (.str "leaf")) (.int 0) (.bin .add false (.int 1) (.bi .max2 false (.cons (.call "tree_depth" (.cons (.idx (.var 0) (.int 2)) .nil)) (.cons (.call "tree_depth" (.cons (.idx (.var 0) (.int 3)) .nil)) .nil))))))⟩
def m_find_leaf : Md.MF := ⟨2, 2, .pure, (.seq (.whl (.cmp .eq (.idx (.var 0) (.int 0)) (.str "ask")) (.asg 0 (.ife (.cmp .isIn (.idx (.var 0) (.int 1)) (.var 1)) (.idx (.var 0) (.int 3)) (.idx (.var 0) (.int 2))))) (.ret (.idx (.var 0) (.int 1))))⟩
def m_write_tree : Md.MF := ⟨2, 4, .raw, (.seq (.ife (.cmp .eq (.idx (.var 1) (.int 0)) (.str "leaf")) (.ret (.meth (.var 0) "add" (.cons (.tup (.cons (.str "axiom") (.cons (.idx (.var 1) (.int 1)) .nil))) .nil))) .skip) (.seq (.asg 2 (.call "write_tree" (.cons (.var 0) (.cons (.idx (.var 1) (.int 2)) .nil)))) (.seq (.ife (.cmp .notIn (.idx (.var 1) (.int 1)) (.idx (.fld (.var 0) "clauses" ["Shortener"]) (.var 2))) (.ret (.var 2)) .skip) (.seq (.asg 3 (.call "write_tree" (.cons (.var 0) (.cons (.idx (.var 1) (.int 3)) .nil)))) (.ret (.meth (.var 0) "resolve" (.cons (.var 2) (.cons (.var 3) (.cons (.idx (.var 1) (.int 1)) .nil)))))))))⟩
def m_steps_of_tree : Md.MF := ⟨2, 4, .pure, (.seq (.asg 2 (.make "Shortener" (.cons (.var 0) .nil))) (.seq (.asg 3 (.call "write_tree" (.cons (.var 2) (.cons (.var 1) .nil)))) (.ret (.call "pruned_to" (.cons (.fld (.var 2) "steps" ["Shortener"]) (.cons (.var 3) .nil))))))⟩
def m_tree_below : Md.MF := ⟨3, 9, .pure, (.seq (.asg 3 (.idx (.var 0) (.var 1))) (.seq (.ife (.cmp .eq (.idx (.var 3) (.int 0)) (.str "axiom")) (.ret (.tup (.cons (.str "leaf") (.cons (.idx (.var 3) (.int 1)) .nil)))) .skip) (.seq (.ife (.cmp .eq (.idx (.var 3) (.int 0)) (.str "weaken")) (.ret (.call "tree_below" (.cons (.var 0) (.cons (.idx (.var 3) (.int 1)) (.cons (.var 2) .nil))))) .skip) (.seq (.asgT (.t (.cons (.v 4) (.cons (.v 5) (.cons (.v 6) (.cons (.v 7) .nil))))) (.var 3)) (.seq (.ife (.cmp .isIn (.var 7) (.var 2)) (.ret (.call "tree_below" (.cons (.var 0) (.cons (.var 6) (.cons (.var 2) .nil))))) .skip) (.seq (.ife (.cmp .isIn (.neg (.var 7)) (.var 2)) (.ret (.call "tree_below" (.cons (.var 0) (.cons (.var 5) (.cons (.var 2) .nil))))) .skip) (.seq (.asg 8 (.call "tree_below" (.cons (.var 0) (.cons (.var 5) (.cons (.call "with_literal" (.cons (.var 2) (.cons (.neg (.var 7)) .nil))) .nil))))) (.ret (.tup (.cons (.str "ask") (.cons (.var 7) (.cons (.var 8) (.cons (.call "tree_below" (.cons (.var 0) (.cons (.var 6) (.cons (.call "with_literal" (.cons (.var 2) (.cons (.var 7) .nil))) .nil)))) .nil)))))))))))))⟩
def m_tree_of_steps : Md.MF := ⟨2, 2, .pure, (.ret (.call "tree_below" (.cons (.var 1) (.cons (.bin .sub false (.bi .len false (.cons (.var 1) .nil)) (.int 1)) (.cons (.tup .nil) .nil)))))⟩
def m_search : Md.MF := ⟨2, 7, .pure, (.seq (.asg 2 (.call "falsified" (.cons (.var 0) (.cons (.var 1) .nil)))) (.seq (.ife (.cmp .ge (.var 2) (.int 0)) (.ret (.tup (.cons .non (.cons (.tup (.cons (.str "leaf") (.cons (.var 2) .nil))) .nil)))) .skip) (.seq (.asg 3 (.call "free_variables" (.cons (.var 0) (.cons (.var 1) .nil)))) (.seq (.ife (.cmp .eq (.bi .len false (.cons (.var 3) .nil)) (.int 0)) (.ret (.tup (.cons (.var 1) (.cons .non .nil)))) .skip) (.seq (.asgT (.t (.cons (.v 4) (.cons (.v 5) .nil))) (.call "search" (.cons (.var 0) (.cons (.call "with_literal" (.cons (.var 1) (.cons (.neg (.idx (.var 3) (.int 0))) .nil))) .nil)))) (.seq (.ife (.cmp .isNot (.var 4) .non) (.ret (.tup (.cons (.var 4) (.cons .non .nil)))) .skip) (.seq (.asgT (.t (.cons (.v 4) (.cons (.v 6) .nil))) (.call "search" (.cons (.var 0) (.cons (.call "with_literal" (.cons (.var 1) (.cons (.idx (.var 3) (.int 0)) .nil))) .nil)))) (.seq (.ife (.cmp .isNot (.var 4) .non) (.ret (.tup (.cons (.var 4) (.cons .non .nil)))) .skip) (.ret (.tup (.cons .non (.cons (.tup (.cons (.str "ask") (.cons (.idx (.var 3) (.int 0)) (.cons (.var 5) (.cons (.var 6) .nil))))) .nil))))))))))))⟩
def m_solve : Md.MF := ⟨1, 3, .pure, (.seq (.asgT (.t (.cons (.v 1) (.cons (.v 2) .nil))) (.call "search" (.cons (.var 0) (.cons (.tup .nil) .nil)))) (.seq (.ife (.cmp .isNot (.var 1) .non) (.ret (.tup (.cons (.str "model") (.cons (.var 1) .nil)))) .skip) (.ret (.tup (.cons (.str "refutation") (.cons (.call "steps_of_tree" (.cons (.var 0) (.cons (.var 2) .nil))) .nil))))))⟩
def m_total : Md.MF := ⟨2, 5, .pure, (.seq (.asg 2 (.tup .nil)) (.seq (.forS (.t (.cons (.v 3) (.cons (.v 4) .nil))) (.zip (.idx (.var 0) (.int 1)) (.var 1)) (.asg 2 (.call "plus" (.cons (.var 2) (.cons (.call "times" (.cons (.call "clause_polynomial" (.cons (.var 3) .nil)) (.cons (.var 4) .nil))) .nil))))) (.ret (.var 2))))⟩
def m_is_static : Md.MF := ⟨2, 5, .pure, (.seq (.asgT (.t (.cons (.v 2) (.cons (.v 3) .nil))) (.var 0)) (.seq (.ife (.or (.not (.bi (.isInst "tuple") false (.cons (.var 1) .nil))) (.or (.cmp .ne (.bi .len false (.cons (.var 1) .nil)) (.bi .len false (.cons (.var 3) .nil))) (.one (.not (.bi .all false (.cons (.comp false [4] (.v 4) (.var 1) .yes (.call "is_polynomial" (.cons (.var 2) (.cons (.var 4) .nil)))) .nil)))))) (.ret (.bl false)) .skip) (.ret (.isG false (.call "total" (.cons (.var 0) (.cons (.var 1) .nil))) "ONE"))))⟩
def m_static_degree : Md.MF := ⟨2, 7, .pure, (.seq (.asg 2 (.lst true (.cons (.neg (.int 1)) .nil))) (.seq (.forS (.t (.cons (.v 3) (.cons (.v 4) .nil))) (.zip (.idx (.var 0) (.int 1)) (.var 1)) (.seq (.asg 5 (.call "clause_polynomial" (.cons (.var 3) .nil))) (.exp (.bm .extend false (.var 2) (.cons (.comp false [6] (.v 6) (.var 4) .yes (.call "degree" (.cons (.call "times_monomial" (.cons (.var 5) (.cons (.var 6) .nil))) .nil))) .nil))))) (.ret (.bi .max false (.cons (.var 2) .nil)))))⟩
def m_find_sum_leaf : Md.MF := ⟨2, 4, .pure, (.seq (.whl (.cmp .eq (.idx (.var 0) (.int 0)) (.str "sum")) (.seq (.asg 2 (.bi .len false (.cons (.comp false [3] (.v 3) (.idx (.var 0) (.int 1)) (.cmp .isIn (.var 3) (.var 1)) (.var 3)) .nil))) (.asg 0 (.ife (.cmp .eq (.bin .mod false (.var 2) (.int 2)) (.int 1)) (.idx (.var 0) (.int 3)) (.idx (.var 0) (.int 2)))))) (.ret (.idx (.var 0) (.int 1))))⟩
def m_sums_of_tree : Md.MF := ⟨1, 1, .pure, (.seq (.ife (.cmp .eq (.idx (.var 0) (.int 0)) (.str "leaf")) (.ret (.var 0)) .skip) (.ret (.tup (.cons (.str "sum") (.cons (.tup (.cons (.idx (.var 0) (.int 1)) .nil)) (.cons (.call "sums_of_tree" (.cons (.idx (.var 0) (.int 2)) .nil)) (.cons (.call "sums_of_tree" (.cons (.idx (.var 0) (.int 3)) .nil)) .nil)))))))⟩
def m__law_cell : Md.MF := ⟨2, 2, .pure, (.seq (.ife (.cmp .lt (.var 1) (.bi .len false (.cons (.var 0) .nil))) (.ret (.idx (.var 0) (.var 1))) .skip) (.ret (.int 0)))⟩
def m__law_numbers : Md.MF := ⟨2, 6, .pure, (.seq (.asg 2 (.lst true .nil)) (.seq (.asg 3 (.var 0)) (.seq (.forS (.v 4) (.rng (.cons (.var 1) .nil)) (.ife (.and (.cmp .ge (.var 0) (.bin .pow false (.int 10) (.int 18))) (.one (.cmp .gt (.var 3) (.int 0)))) (.seq (.exp (.bm .append false (.var 2) (.cons (.bin .mod false (.bi .int false (.cons (.var 3) .nil)) (.int 4099)) .nil))) (.asg 3 (.bin .fdiv false (.var 3) (.int 4099)))) (.seq (.asg 5 (.bin .mod false (.bi .int false (.cons (.bin .add false (.bin .mul false (.var 0) (.int 69621)) (.bin .mul false (.bin .add false (.var 4) (.int 1)) (.int 48271))) .nil)) (.int 2147483647))) (.seq (.asg 5 (.bin .mod false (.bi .int false (.cons (.bin .add false (.bin .add false (.bin .mul false (.var 5) (.var 5)) (.bin .mul false (.var 5) (.int 16807))) (.bin .mul false (.var 4) (.int 7919))) .nil)) (.int 2147483629))) (.seq (.asg 5 (.bin .mod false (.bi .int false (.cons (.bin .add false (.bin .add false (.bin .mul false (.var 5) (.var 5)) (.var 0)) (.bin .mul false (.int 17) (.var 4))) .nil)) (.int 2147483587))) (.exp (.bm .append false (.var 2) (.cons (.bin .mod false (.bin .fdiv false (.var 5) (.int 5)) (.int 4099)) .nil)))))))) (.ret (.var 2)))))⟩
def m__law_pool : Md.MF := ⟨1, 3, .raw, (.seq (.asg 1 (.lst false .nil)) (.seq (.forS (.v 2) (.rng (.cons (.bi .min2 false (.cons (.int 6) (.cons (.bi .max2 false (.cons (.int 1) (.cons (.bi .len false (.cons (.var 0) .nil)) .nil))) .nil))) .nil)) (.asg 1 (.bin .add false (.var 1) (.call "_law_numbers" (.cons (.bin .add false (.call "_law_cell" (.cons (.var 0) (.cons (.var 2) .nil))) (.bin .mul false (.int 11) (.var 2))) (.cons (.int 24) .nil)))))) (.ret (.lst false (.cons (.var 1) (.cons (.lst true (.cons (.int 0) .nil)) .nil))))))⟩
def m__law_draw : Md.MF := ⟨2, 4, .raw, (.seq (.asg 2 (.idx (.idx (.var 0) (.int 1)) (.int 0))) (.seq (.setI (.idx (.var 0) (.int 1)) (.int 0) (.bin .add false (.var 2) (.int 1))) (.seq (.asg 3 (.bin .fdiv false (.var 2) (.bi .len false (.cons (.idx (.var 0) (.int 0)) .nil)))) (.ret (.bin .mod false (.bi .int false (.cons (.bin .add false (.bin .add false (.idx (.idx (.var 0) (.int 0)) (.bin .mod false (.var 2) (.bi .len false (.cons (.idx (.var 0) (.int 0)) .nil)))) (.bin .mul false (.var 3) (.int 1013))) (.bin .mul false (.bin .mul false (.var 3) (.var 2)) (.int 7))) .nil)) (.var 1))))))⟩
def m__law_kind : Md.MF := ⟨1, 1, .pure, (.seq (.ife (.bi (.isInst "bool") false (.cons (.var 0) .nil)) (.ret (.int 1)) .skip) (.seq (.ife (.bi (.isInst "int") false (.cons (.var 0) .nil)) (.ret (.int 2)) .skip) (.seq (.ife (.bi (.isInst "str") false (.cons (.var 0) .nil)) (.ret (.int 3)) .skip) (.seq (.ife (.bi (.isInst "tuple") false (.cons (.var 0) .nil)) (.ret (.int 4)) .skip) (.seq (.ife (.bi (.isInst "list") false (.cons (.var 0) .nil)) (.ret (.int 5)) .skip) (.seq (.ife (.cmp .is (.var 0) .non) (.ret (.int 6)) .skip) (.ret (.int 0))))))))⟩
def m__law_equal : Md.MF := ⟨2, 3, .pure, (.seq (.ife (.or (.cmp .ne (.call "_law_kind" (.cons (.var 0) .nil)) (.call "_law_kind" (.cons (.var 1) .nil))) (.one (.cmp .eq (.call "_law_kind" (.cons (.var 0) .nil)) (.int 0)))) (.ret (.bl false)) .skip) (.seq (.ife (.or (.bi (.isInst "tuple") false (.cons (.var 1) .nil)) (.one (.bi (.isInst "list") false (.cons (.var 1) .nil)))) (.seq (.ife (.cmp .ne (.bi .len false (.cons (.var 0) .nil)) (.bi .len false (.cons (.var 1) .nil))) (.ret (.bl false)) .skip) (.seq (.forS (.v 2) (.rng (.cons (.bi .len false (.cons (.var 1) .nil)) .nil)) (.ife (.not (.call "_law_equal" (.cons (.idx (.var 0) (.var 2)) (.cons (.idx (.var 1) (.var 2)) .nil)))) (.ret (.bl false)) .skip)) (.ret (.bl true)))) .skip) (.ret (.cmp .eq (.var 0) (.var 1)))))⟩
def m__law_some : Md.MF := ⟨3, 4, .raw, (.ret (.bi .tuple false (.cons (.comp false [3] (.v 3) (.rng (.cons (.var 1) .nil)) (.cmp .gt (.call "_law_draw" (.cons (.var 0) (.cons (.var 2) .nil))) (.int 0)) (.var 3)) .nil)))⟩
def m__law_cubes : Md.MF := ⟨1, 4, .pure, (.seq (.asg 1 (.lst false (.cons (.tup .nil) .nil))) (.seq (.forS (.v 2) (.rng (.cons (.int 1) (.cons (.bin .add false (.var 0) (.int 1)) .nil))) (.asg 1 (.bin .add false (.comp false [3] (.v 3) (.var 1) .yes (.bin .add false (.var 3) (.tup (.cons (.var 2) .nil)))) (.comp false [3] (.v 3) (.var 1) .yes (.bin .add false (.var 3) (.tup (.cons (.neg (.var 2)) .nil))))))) (.ret (.comp false [3] (.v 3) (.var 1) .yes (.bi .tuple false (.cons (.bi .sorted false (.cons (.var 3) .nil)) .nil))))))⟩
def m__law_clause : Md.MF := ⟨2, 4, .tidy, (.seq (.asg 2 (.lst true .nil)) (.seq (.forS (.v 3) (.call "_law_some" (.cons (.var 0) (.cons (.var 1) (.cons (.bin .add false (.int 1) (.call "_law_draw" (.cons (.var 0) (.cons (.int 3) .nil)))) .nil)))) (.exp (.bm .append false (.var 2) (.cons (.bin .mul false (.bin .add false (.var 3) (.int 1)) (.bin .sub false (.int 1) (.bin .mul false (.int 2) (.call "_law_draw" (.cons (.var 0) (.cons (.int 2) .nil)))))) .nil)))) (.ret (.var 2))))⟩
def m__law_true : Md.MF := ⟨2, 3, .pure, (.ret (.cmp .gt (.bi .len false (.cons (.comp false [2] (.v 2) (.var 1) (.cmp .isIn (.var 2) (.var 0)) (.var 2)) .nil)) (.int 0)))⟩
def m__law_rows : Md.MF := ⟨2, 3, .raw, (.ret (.comp false [2] (.v 2) (.rng (.cons (.call "_law_draw" (.cons (.var 0) (.cons (.int 5) .nil))) .nil)) .yes (.call "_law_clause" (.cons (.var 0) (.cons (.var 1) .nil)))))⟩
def m__law_closed_rows : Md.MF := ⟨2, 8, .tidy, (.seq (.asg 2 (.comp true [3] (.v 3) (.call "_law_rows" (.cons (.var 0) (.cons (.var 1) .nil))) (.cmp .gt (.bi .len false (.cons (.var 3) .nil)) (.int 0)) (.var 3))) (.seq (.forS (.v 4) (.call "_law_cubes" (.cons (.var 1) .nil)) (.ife (.cmp .eq (.bi .len false (.cons (.comp false [3] (.v 3) (.var 2) (.not (.call "_law_true" (.cons (.var 4) (.cons (.var 3) .nil)))) (.var 3)) .nil)) (.int 0)) (.seq (.asg 5 (.call "_law_some" (.cons (.var 0) (.cons (.var 1) (.cons (.bin .add false (.int 1) (.call "_law_draw" (.cons (.var 0) (.cons (.int 2) .nil)))) .nil))))) (.seq (.asg 6 (.comp false [7] (.v 7) (.var 4) (.cmp .isIn (.bin .sub false (.bi .abs false (.cons (.var 7) .nil)) (.int 1)) (.var 5)) (.neg (.var 7)))) (.seq (.ife (.cmp .eq (.bi .len false (.cons (.var 6) .nil)) (.int 0)) (.asg 6 (.lst false (.cons (.neg (.idx (.var 4) (.int 0))) .nil))) .skip) (.exp (.bm .append false (.var 2) (.cons (.var 6) .nil)))))) .skip)) (.ret (.var 2))))⟩
def m__law_leaves : Md.MF := ⟨2, 2, .pure, (.seq (.ife (.cmp .eq (.idx (.var 0) (.int 0)) (.str "leaf")) (.ret (.lst false (.cons (.tup (.cons (.idx (.var 0) (.int 1)) (.cons (.var 1) .nil))) .nil))) .skip) (.ret (.bin .add false (.call "_law_leaves" (.cons (.idx (.var 0) (.int 2)) (.cons (.bin .add false (.var 1) (.tup (.cons (.neg (.idx (.var 0) (.int 1))) .nil))) .nil))) (.call "_law_leaves" (.cons (.idx (.var 0) (.int 3)) (.cons (.bin .add false (.var 1) (.tup (.cons (.idx (.var 0) (.int 1)) .nil))) .nil))))))⟩
def m_law : Md.MF := ⟨1, 26, .raw, (.seq (.asg 1 (.call "_law_pool" (.cons (.var 0) .nil))) (.seq (.asg 2 (.bin .add false (.int 1) (.call "_law_draw" (.cons (.var 1) (.cons (.int 4) .nil))))) (.seq (.asg 3 (.call "made_formula" (.cons (.var 2) (.cons (.call "_law_closed_rows" (.cons (.var 1) (.cons (.var 2) .nil))) .nil)))) (.seq (.asg 4 (.call "tree_of_steps" (.cons (.var 3) (.cons (.idx (.call "solve" (.cons (.var 3) .nil)) (.int 1)) .nil)))) (.seq (.asg 5 (.call "factors_of_tree" (.cons (.var 3) (.cons (.var 4) .nil)))) (.seq (.asg 6 (.call "graph_of_tree" (.cons (.var 4) .nil))) (.seq (.asg 7 (.call "sums_of_tree" (.cons (.var 4) .nil))) (.seq (.asg 8 (.comp false [9] (.v 9) (.idx (.var 3) (.int 1)) .yes (.call "clause_polynomial" (.cons (.var 9) .nil)))) (.seq (.ife (.or (.cmp .ne (.bi .len false (.cons (.var 5) .nil)) (.bi .len false (.cons (.var 8) .nil))) (.one (.cmp .gt (.bi .len false (.cons (.comp false [10] (.v 10) (.var 5) (.cmp .isNot (.call "is_polynomial" (.cons (.var 2) (.cons (.var 10) .nil))) (.bl true)) (.var 10)) .nil)) (.int 0)))) (.ret (.bl false)) .skip) (.seq (.asg 11 (.call "_law_leaves" (.cons (.var 4) (.cons (.tup .nil) .nil)))) (.seq (.asg 12 (.tup .nil)) (.seq (.forS (.v 13) (.rng (.cons (.bi .len false (.cons (.var 8) .nil)) .nil)) (.asg 12 (.call "plus" (.cons (.var 12) (.cons (.call "times" (.cons (.idx (.var 5) (.var 13)) (.cons (.idx (.var 8) (.var 13)) .nil))) .nil))))) (.seq (.ife (.or (.cmp .ne (.var 12) (.tup (.cons (.tup .nil) .nil))) (.or (.cmp .isNot (.call "is_static" (.cons (.var 3) (.cons (.var 5) .nil))) (.bl true)) (.one (.cmp .gt (.call "static_degree" (.cons (.var 3) (.cons (.var 5) .nil))) (.call "tree_depth" (.cons (.var 4) .nil)))))) (.ret (.bl false)) .skip) (.seq (.forS (.v 14) (.call "_law_cubes" (.cons (.var 2) .nil)) (.seq (.asg 15 (.call "find_leaf" (.cons (.var 4) (.cons (.var 14) .nil)))) (.seq (.ife (.or (.cmp .ne (.call "graph_leaf" (.cons (.var 6) (.cons (.var 14) .nil))) (.var 15)) (.or (.cmp .ne (.call "find_sum_leaf" (.cons (.var 7) (.cons (.var 14) .nil))) (.var 15)) (.one (.cmp .isNot (.call "falsifies" (.cons (.var 14) (.cons (.idx (.idx (.var 3) (.int 1)) (.var 15)) .nil))) (.bl true))))) (.ret (.bl false)) .skip) (.seq (.forS (.v 13) (.rng (.cons (.bi .len false (.cons (.var 8) .nil)) .nil)) (.seq (.asg 16 (.int 0)) (.seq (.forS (.t (.cons (.v 17) (.cons (.v 18) .nil))) (.var 11) (.seq (.asg 19 (.comp false [20] (.v 20) (.var 18) (.cmp .notIn (.neg (.var 20)) (.idx (.idx (.var 3) (.int 1)) (.var 13))) (.var 20))) (.asg 16 (.bin .add false (.var 16) (.bi .int false (.cons (.and (.cmp .eq (.var 17) (.var 13)) (.one (.cmp .eq (.bi .len false (.cons (.comp false [20] (.v 20) (.var 19) (.cmp .notIn (.var 20) (.var 14)) (.var 20)) .nil)) (.int 0)))) .nil)))))) (.ife (.not (.call "_law_equal" (.cons (.call "value_at" (.cons (.idx (.var 5) (.var 13)) (.cons (.var 14) .nil))) (.cons (.bin .mod false (.bi .int false (.cons (.var 16) .nil)) (.int 2)) .nil)))) (.ret (.bl false)) .skip)))) (.seq (.asg 21 (.comp false [13] (.v 13) (.rng (.cons (.bi .len false (.cons (.var 8) .nil)) .nil)) .yes (.bin .mul false (.call "value_at" (.cons (.idx (.var 5) (.var 13)) (.cons (.var 14) .nil))) (.call "value_at" (.cons (.idx (.var 8) (.var 13)) (.cons (.var 14) .nil)))))) (.seq (.ife (.not (.call "_law_equal" (.cons (.var 21) (.cons (.comp false [13] (.v 13) (.rng (.cons (.bi .len false (.cons (.var 8) .nil)) .nil)) .yes (.bi .int false (.cons (.cmp .eq (.var 13) (.var 15)) .nil))) .nil)))) (.ret (.bl false)) .skip) (.seq (.ife (.not (.call "_law_equal" (.cons (.comp false [10] (.v 10) (.var 8) .yes (.call "value_at" (.cons (.var 10) (.cons (.var 14) .nil)))) (.cons (.comp false [9] (.v 9) (.idx (.var 3) (.int 1)) .yes (.bi .int false (.cons (.not (.call "_law_true" (.cons (.var 14) (.cons (.var 9) .nil)))) .nil))) .nil)))) (.ret (.bl false)) .skip) (.seq (.asg 22 (.idx (.var 8) (.call "_law_draw" (.cons (.var 1) (.cons (.bi .len false (.cons (.var 8) .nil)) .nil))))) (.seq (.asg 23 (.idx (.var 5) (.call "_law_draw" (.cons (.var 1) (.cons (.bi .len false (.cons (.var 5) .nil)) .nil))))) (.seq (.ife (.or (.cmp .ne (.call "value_at" (.cons (.call "plus" (.cons (.var 22) (.cons (.var 23) .nil))) (.cons (.var 14) .nil))) (.bi .int false (.cons (.cmp .ne (.call "value_at" (.cons (.var 22) (.cons (.var 14) .nil))) (.call "value_at" (.cons (.var 23) (.cons (.var 14) .nil)))) .nil))) (.one (.cmp .ne (.call "value_at" (.cons (.call "times" (.cons (.var 22) (.cons (.var 23) .nil))) (.cons (.var 14) .nil))) (.bin .mul false (.call "value_at" (.cons (.var 22) (.cons (.var 14) .nil))) (.call "value_at" (.cons (.var 23) (.cons (.var 14) .nil))))))) (.ret (.bl false)) .skip) (.ife (.or (.cmp .ne (.call "plus" (.cons (.var 22) (.cons (.var 22) .nil))) (.tup .nil)) (.or (.cmp .ne (.call "times" (.cons (.var 22) (.cons (.var 22) .nil))) (.var 22)) (.or (.cmp .ne (.call "plus" (.cons (.var 22) (.cons (.tup .nil) .nil))) (.var 22)) (.one (.cmp .gt (.call "degree" (.cons (.call "times" (.cons (.var 22) (.cons (.var 23) .nil))) .nil)) (.bin .add false (.call "degree" (.cons (.var 22) .nil)) (.bi .max2 false (.cons (.int 0) (.cons (.call "degree" (.cons (.var 23) .nil)) .nil))))))))) (.ret (.bl false)) .skip))))))))))) (.seq (.asg 24 (.bi .list true (.cons (.var 5) .nil))) (.seq (.asg 25 (.call "_law_draw" (.cons (.var 1) (.cons (.bi .len false (.cons (.var 24) .nil)) .nil)))) (.seq (.setI (.var 24) (.var 25) (.call "plus" (.cons (.idx (.var 24) (.var 25)) (.cons (.tup (.cons (.tup .nil) .nil)) .nil)))) (.ret (.cmp .is (.call "is_static" (.cons (.var 3) (.cons (.bi .tuple false (.cons (.var 24) .nil)) .nil))) (.bl false))))))))))))))))))))⟩
def top (i : Nat) : Stmt := PySem.Challenge.pw_rebut_k34_whole_static_sums_at_assignmen.main.body.getD i (.Pass ⟨0, 0, 0, 0⟩)
def dd (a : Str × Option Str) (n q : Str) (s : Stmt) : He.DefD := ⟨a, n, q, defArgs s, defBody s, defScope s, [], []⟩
def tab0 : List (Md.FK × Sn.Ent) := [
  (("is_integer", none), ⟨dd ("is_integer", none) "is_integer" "is_integer" (top 5), ["value"], ["value"], m_is_integer⟩),
  (("is_number", none), ⟨dd ("is_number", none) "is_number" "is_number" (top 6), ["value"], ["value"], m_is_number⟩),
  (("is_ascending", none), ⟨dd ("is_ascending", none) "is_ascending" "is_ascending" (top 7), ["items", "first", "second"], ["items"], m_is_ascending⟩),
  (("is_clause", none), ⟨dd ("is_clause", none) "is_clause" "is_clause" (top 8), ["n", "value", "literal"], ["n", "value"], m_is_clause⟩),
  (("made_clause", none), ⟨dd ("made_clause", none) "made_clause" "made_clause" (top 9), ["literals", "literal"], ["literals"], m_made_clause⟩),
  (("check_count", none), ⟨dd ("check_count", none) "check_count" "check_count" (top 10), ["n"], ["n"], m_check_count⟩),
  (("made_formula", none), ⟨dd ("made_formula", none) "made_formula" "made_formula" (top 11), ["n", "rows", "row", "literal", "clauses", "clause"], ["n", "rows"], m_made_formula⟩),
  (("falsifies", none), ⟨dd ("falsifies", none) "falsifies" "falsifies" (top 12), ["cube", "clause", "literal"], ["cube", "clause"], m_falsifies⟩),
  (("falsified", none), ⟨dd ("falsified", none) "falsified" "falsified" (top 13), ["formula", "cube", "k", "clause"], ["formula", "cube"], m_falsified⟩),
  (("with_literal", none), ⟨dd ("with_literal", none) "with_literal" "with_literal" (top 14), ["cube", "literal"], ["cube", "literal"], m_with_literal⟩),
  (("free_variables", none), ⟨dd ("free_variables", none) "free_variables" "free_variables" (top 15), ["formula", "cube", "v"], ["formula", "cube"], m_free_variables⟩),
  (("is_earlier", none), ⟨dd ("is_earlier", none) "is_earlier" "is_earlier" (top 17), ["value", "k"], ["value", "k"], m_is_earlier⟩),
  (("resolvent", none), ⟨dd ("resolvent", none) "resolvent" "resolvent" (top 18), ["first", "second", "v", "a", "b"], ["first", "second", "v"], m_resolvent⟩),
  (("axiom_clause", none), ⟨dd ("axiom_clause", none) "axiom_clause" "axiom_clause" (top 19), ["formula", "step"], ["formula", "step"], m_axiom_clause⟩),
  (("resolved_clause", none), ⟨dd ("resolved_clause", none) "resolved_clause" "resolved_clause" (top 20), ["formula", "clauses", "step"], ["formula", "clauses", "step"], m_resolved_clause⟩),
  (("weakened_clause", none), ⟨dd ("weakened_clause", none) "weakened_clause" "weakened_clause" (top 21), ["formula", "clauses", "step", "literal"], ["formula", "clauses", "step"], m_weakened_clause⟩)]
def tab1 : List (Md.FK × Sn.Ent) := [
  (("next_clause", none), ⟨dd ("next_clause", none) "next_clause" "next_clause" (top 22), ["formula", "clauses", "step"], ["formula", "clauses", "step"], m_next_clause⟩),
  (("sources", none), ⟨dd ("sources", none) "sources" "sources" (top 23), ["step"], ["step"], m_sources⟩),
  (("moved", none), ⟨dd ("moved", none) "moved" "moved" (top 24), ["step", "places"], ["step", "places"], m_moved⟩),
  (("pruned_to", none), ⟨dd ("pruned_to", none) "pruned_to" "pruned_to" (top 25), ["steps", "last", "used", "k", "source", "places", "found"], ["steps", "last"], m_pruned_to⟩),
  (("Shortener", some "__init__"), ⟨dd ("Shortener", some "__init__") "__init__" "Shortener.__init__" (L2.inClass (top 26) 0), ["self", "formula"], ["self", "formula"], m_Shortener_init⟩),
  (("Shortener", some "add"), ⟨dd ("Shortener", some "add") "add" "Shortener.add" (L2.inClass (top 26) 1), ["self", "step"], ["self", "step"], m_Shortener_add⟩),
  (("Shortener", some "resolve"), ⟨dd ("Shortener", some "resolve") "resolve" "Shortener.resolve" (L2.inClass (top 26) 2), ["self", "a", "b", "v"], ["self", "a", "b", "v"], m_Shortener_resolve⟩),
  (("is_monomial", none), ⟨dd ("is_monomial", none) "is_monomial" "is_monomial" (top 28), ["n", "value", "v"], ["n", "value"], m_is_monomial⟩),
  (("is_polynomial", none), ⟨dd ("is_polynomial", none) "is_polynomial" "is_polynomial" (top 29), ["n", "value", "monomial"], ["n", "value"], m_is_polynomial⟩),
  (("plus", none), ⟨dd ("plus", none) "plus" "plus" (top 30), ["p", "q", "monomial"], ["p", "q"], m_plus⟩),
  (("times_monomial", none), ⟨dd ("times_monomial", none) "times_monomial" "times_monomial" (top 31), ["p", "monomial", "found", "other"], ["p", "monomial"], m_times_monomial⟩),
  (("times", none), ⟨dd ("times", none) "times" "times" (top 32), ["p", "q", "found", "monomial"], ["p", "q"], m_times⟩),
  (("degree", none), ⟨dd ("degree", none) "degree" "degree" (top 33), ["p", "monomial"], ["p"], m_degree⟩),
  (("value_at", none), ⟨dd ("value_at", none) "value_at" "value_at" (top 34), ["p", "cube", "monomial", "v"], ["p", "cube"], m_value_at⟩),
  (("literal_factor", none), ⟨dd ("literal_factor", none) "literal_factor" "literal_factor" (top 35), ["literal"], ["literal"], m_literal_factor⟩),
  (("clause_polynomial", none), ⟨dd ("clause_polynomial", none) "clause_polynomial" "clause_polynomial" (top 36), ["clause", "found", "literal"], ["clause"], m_clause_polynomial⟩)]
def tab2 : List (Md.FK × Sn.Ent) := [
  (("leaf_cubes", none), ⟨dd ("leaf_cubes", none) "leaf_cubes" "leaf_cubes" (top 38), ["tree", "cube", "_", "v", "low", "high"], ["tree", "cube"], m_leaf_cubes⟩),
  (("factors_of_tree", none), ⟨dd ("factors_of_tree", none) "factors_of_tree" "factors_of_tree" (top 39), ["formula", "tree", "factors", "index", "cube", "product", "literal"], ["formula", "tree"], m_factors_of_tree⟩),
  (("place_tree", none), ⟨dd ("place_tree", none) "place_tree" "place_tree" (top 41), ["tree", "nodes", "places", "node", "low"], ["tree", "nodes", "places"], m_place_tree⟩),
  (("graph_of_tree", none), ⟨dd ("graph_of_tree", none) "graph_of_tree" "graph_of_tree" (top 42), ["tree", "nodes"], ["tree"], m_graph_of_tree⟩),
  (("graph_leaf", none), ⟨dd ("graph_leaf", none) "graph_leaf" "graph_leaf" (top 43), ["graph", "cube", "node"], ["graph", "cube"], m_graph_leaf⟩),
  (("tree_depth", none), ⟨dd ("tree_depth", none) "tree_depth" "tree_depth" (top 45), ["tree"], ["tree"], m_tree_depth⟩),
  (("find_leaf", none), ⟨dd ("find_leaf", none) "find_leaf" "find_leaf" (top 46), ["tree", "cube"], ["tree", "cube"], m_find_leaf⟩),
  (("write_tree", none), ⟨dd ("write_tree", none) "write_tree" "write_tree" (top 47), ["writer", "tree", "low", "high"], ["writer", "tree"], m_write_tree⟩),
  (("steps_of_tree", none), ⟨dd ("steps_of_tree", none) "steps_of_tree" "steps_of_tree" (top 48), ["formula", "tree", "writer", "last"], ["formula", "tree"], m_steps_of_tree⟩),
  (("tree_below", none), ⟨dd ("tree_below", none) "tree_below" "tree_below" (top 49), ["steps", "k", "cube", "step", "_", "a", "b", "v", "low"], ["steps", "k", "cube"], m_tree_below⟩),
  (("tree_of_steps", none), ⟨dd ("tree_of_steps", none) "tree_of_steps" "tree_of_steps" (top 50), ["formula", "steps"], ["formula", "steps"], m_tree_of_steps⟩),
  (("search", none), ⟨dd ("search", none) "search" "search" (top 52), ["formula", "cube", "leaf", "free", "model", "low", "high"], ["formula", "cube"], m_search⟩),
  (("solve", none), ⟨dd ("solve", none) "solve" "solve" (top 53), ["formula", "model", "tree"], ["formula"], m_solve⟩),
  (("total", none), ⟨dd ("total", none) "total" "total" (top 56), ["formula", "factors", "found", "clause", "factor"], ["formula", "factors"], m_total⟩),
  (("is_static", none), ⟨dd ("is_static", none) "is_static" "is_static" (top 57), ["formula", "value", "n", "clauses", "p"], ["formula", "value"], m_is_static⟩),
  (("static_degree", none), ⟨dd ("static_degree", none) "static_degree" "static_degree" (top 58), ["formula", "factors", "degrees", "clause", "factor", "p", "monomial"], ["formula", "factors"], m_static_degree⟩)]
def tab3 : List (Md.FK × Sn.Ent) := [
  (("find_sum_leaf", none), ⟨dd ("find_sum_leaf", none) "find_sum_leaf" "find_sum_leaf" (top 60), ["tree", "cube", "count", "v"], ["tree", "cube"], m_find_sum_leaf⟩),
  (("sums_of_tree", none), ⟨dd ("sums_of_tree", none) "sums_of_tree" "sums_of_tree" (top 61), ["tree"], ["tree"], m_sums_of_tree⟩),
  (("_law_cell", none), ⟨dd ("_law_cell", none) "_law_cell" "_law_cell" (top 63), ["script", "k"], ["script", "k"], m__law_cell⟩),
  (("_law_numbers", none), ⟨dd ("_law_numbers", none) "_law_numbers" "_law_numbers" (top 64), ["cell", "many", "rows", "left", "k", "mixed"], ["cell", "many"], m__law_numbers⟩),
  (("_law_pool", none), ⟨dd ("_law_pool", none) "_law_pool" "_law_pool" (top 65), ["script", "rows", "k"], ["script"], m__law_pool⟩),
  (("_law_draw", none), ⟨dd ("_law_draw", none) "_law_draw" "_law_draw" (top 66), ["pool", "many", "at", "turn"], ["pool", "many"], m__law_draw⟩),
  (("_law_kind", none), ⟨dd ("_law_kind", none) "_law_kind" "_law_kind" (top 67), ["x"], ["x"], m__law_kind⟩),
  (("_law_equal", none), ⟨dd ("_law_equal", none) "_law_equal" "_law_equal" (top 68), ["x", "due", "k"], ["x", "due"], m__law_equal⟩),
  (("_law_some", none), ⟨dd ("_law_some", none) "_law_some" "_law_some" (top 69), ["pool", "many", "lean", "one"], ["pool", "many", "lean"], m__law_some⟩),
  (("_law_cubes", none), ⟨dd ("_law_cubes", none) "_law_cubes" "_law_cubes" (top 70), ["n", "found", "v", "cube"], ["n"], m__law_cubes⟩),
  (("_law_clause", none), ⟨dd ("_law_clause", none) "_law_clause" "_law_clause" (top 71), ["pool", "n", "literals", "v"], ["pool", "n"], m__law_clause⟩),
  (("_law_true", none), ⟨dd ("_law_true", none) "_law_true" "_law_true" (top 72), ["cube", "clause", "literal"], ["cube", "clause"], m__law_true⟩),
  (("_law_rows", none), ⟨dd ("_law_rows", none) "_law_rows" "_law_rows" (top 73), ["pool", "n", "k"], ["pool", "n"], m__law_rows⟩),
  (("_law_closed_rows", none), ⟨dd ("_law_closed_rows", none) "_law_closed_rows" "_law_closed_rows" (top 74), ["pool", "n", "rows", "row", "cube", "own", "literals", "literal"], ["pool", "n"], m__law_closed_rows⟩),
  (("_law_leaves", none), ⟨dd ("_law_leaves", none) "_law_leaves" "_law_leaves" (top 75), ["tree", "cube"], ["tree", "cube"], m__law_leaves⟩),
  (("law", none), ⟨dd ("law", none) "law" "law" (top 76), ["script", "pool", "n", "formula", "tree", "factors", "graph", "sums", "clauses", "clause", "p", "leaves", "whole", "k", "cube", "leaf", "own", "index", "path", "need", "literal", "counts", "one", "two", "bent", "place"], ["script"], m_law⟩)]
def T : Sn.Tb := ⟨tab0 ++ tab1 ++ tab2 ++ tab3, [("MOST_VARIABLES", 40)], ["Shortener"], [("Shortener", "clauses"), ("Shortener", "formula"), ("Shortener", "steps")], [("ONE", (.tup [(.tup [])]))]⟩
end L34
end
section
set_option maxRecDepth 100000
set_option maxHeartbeats 0
namespace L34
open PySem PySem.Spec PyProof.Rows L2
theorem tok : T.ok = true := by decide +kernel
end L34
end
section
set_option maxRecDepth 100000
/-! Sym1: symbolic evaluation of the middle language: plain lemmas. -/
namespace Md
open PySem
section
variable (Γ : Calls) (gl : Str → Option D)
@[simp] theorem e_var (i : Nat) (ρ : Env) (s : St) : ev Γ gl (.var i) ρ s = (match ρ[i]? with
  | some (some d) => some (d, s)
  | _ => none) := rfl
@[simp] theorem e_int (i : Int) (ρ : Env) (s : St) : ev Γ gl (.int i) ρ s = some (.int i, s) := rfl
@[simp] theorem e_str (i : Str) (ρ : Env) (s : St) : ev Γ gl (.str i) ρ s = some (.str i, s) := rfl
@[simp] theorem e_bl (i : Bool) (ρ : Env) (s : St) : ev Γ gl (.bl i) ρ s = some (.bl i, s) := rfl
@[simp] theorem e_non (ρ : Env) (s : St) : ev Γ gl .non ρ s = some (.non, s) := rfl
@[simp] theorem e_glo (x : Str) (ρ : Env) (s : St) : ev Γ gl (.glo x) ρ s = (match gl x with
    | some (.int i) => some (.int i, s)
    | _ => none) := rfl
@[simp] theorem e_bin (o : Bo) (m : Bool) (a b : E) (ρ : Env) (s : St) : ev Γ gl (.bin o m a b) ρ s = bnd (ev Γ gl a ρ s) fun x s => bnd (ev Γ gl b ρ s) fun y s => binop o m x y s := rfl
@[simp] theorem e_neg (a : E) (ρ : Env) (s : St) : ev Γ gl (.neg a) ρ s = bnd (ev Γ gl a ρ s) fun x s => match x with
    | .int i => some (.int (-i), s)
    | _ => none := rfl
@[simp] theorem e_cmp (o : Co) (a b : E) (ρ : Env) (s : St) : ev Γ gl (.cmp o a b) ρ s = bnd (ev Γ gl a ρ s) fun x s => bnd (ev Γ gl b ρ s) fun y s => (cmpD o s x y).map fun r => (.bl r, s) := rfl
@[simp] theorem e_chain (o p : Co) (a b c : E) (ρ : Env) (s : St) : ev Γ gl (.chain o p a b c) ρ s = bnd (ev Γ gl a ρ s) fun x s => bnd (ev Γ gl b ρ s) fun y s => match cmpD o s x y with
    | some true => bnd (ev Γ gl c ρ s) fun z s => (cmpD p s y z).map fun r => (.bl r, s)
    | some false => some (.bl false, s)
    | none => none := rfl
@[simp] theorem e_and (a r : E) (ρ : Env) (s : St) : ev Γ gl (.and a r) ρ s = bnd (ev Γ gl a ρ s) fun x s => match x with
    | .bl true => ev Γ gl r ρ s
    | .bl false => some (.bl false, s)
    | _ => none := rfl
@[simp] theorem e_or (a r : E) (ρ : Env) (s : St) : ev Γ gl (.or a r) ρ s = bnd (ev Γ gl a ρ s) fun x s => match x with
    | .bl false => ev Γ gl r ρ s
    | .bl true => some (.bl true, s)
    | _ => none := rfl
@[simp] theorem e_one (a : E) (ρ : Env) (s : St) : ev Γ gl (.one a) ρ s = ev Γ gl a ρ s := rfl
@[simp] theorem e_not (a : E) (ρ : Env) (s : St) : ev Γ gl (.not a) ρ s = bnd (ev Γ gl a ρ s) fun x s => (truth s x).map fun b => (.bl (!b), s) := rfl
@[simp] theorem e_ife (c a b : E) (ρ : Env) (s : St) : ev Γ gl (.ife c a b) ρ s = bnd (ev Γ gl c ρ s) fun x s => match truth s x with
    | some true => ev Γ gl a ρ s
    | some false => ev Γ gl b ρ s
    | none => none := rfl
@[simp] theorem e_nil (ρ : Env) (s : St) : ev Γ gl .nil ρ s = some (.tup [], s) := rfl
@[simp] theorem e_cons (a r : E) (ρ : Env) (s : St) : ev Γ gl (.cons a r) ρ s = bnd (ev Γ gl a ρ s) fun x s => bnd (ev Γ gl r ρ s) fun y s => match y with
    | .tup xs => some (.tup (x :: xs), s)
    | _ => none := rfl
@[simp] theorem e_star (a r : E) (ρ : Env) (s : St) : ev Γ gl (.star a r) ρ s = bnd (ev Γ gl a ρ s) fun x s => match seqOf s x with
    | some zs => bnd (ev Γ gl r ρ s) fun y s => match y with
      | .tup xs => some (.tup (zs ++ xs), s)
      | _ => none
    | none => none := rfl
@[simp] theorem e_tup (a : E) (ρ : Env) (s : St) : ev Γ gl (.tup a) ρ s = bnd (ev Γ gl a ρ s) fun x s => match x with
    | .tup xs => if xs.length ≤ cap then some (.tup xs, s) else none
    | _ => none := rfl
@[simp] theorem e_lst (m : Bool) (a : E) (ρ : Env) (s : St) : ev Γ gl (.lst m a) ρ s = bnd (ev Γ gl a ρ s) fun x s => match x with
    | .tup xs => if xs.length ≤ cap then some (mk m xs s) else none
    | _ => none := rfl
@[simp] theorem e_idx (a i : E) (ρ : Env) (s : St) : ev Γ gl (.idx a i) ρ s = bnd (ev Γ gl a ρ s) fun x s => bnd (ev Γ gl i ρ s) fun y s => idxD x y s := rfl
@[simp] theorem e_slc (m : Bool) (a lo hi : E) (ρ : Env) (s : St) : ev Γ gl (.slc m a lo hi) ρ s = bnd (ev Γ gl a ρ s) fun x s => bnd (ev Γ gl lo ρ s) fun l s => bnd (ev Γ gl hi ρ s) fun h s => match partOf (isHole lo) l, partOf (isHole hi) h with
    | some l, some h => slcD m x l h s
    | _, _ => none := rfl
@[simp] theorem e_hole (ρ : Env) (s : St) : ev Γ gl .hole ρ s = some (.non, s) := rfl
@[simp] theorem e_yes (ρ : Env) (s : St) : ev Γ gl .yes ρ s = some (.bl true, s) := rfl
@[simp] theorem e_call (f : Str) (a : E) (ρ : Env) (s : St) : ev Γ gl (.call f a) ρ s = bnd (ev Γ gl a ρ s) fun x s => match x with
    | .tup vs => Γ (f, none) vs s
    | _ => none := rfl
@[simp] theorem e_bi (b : Bi) (m : Bool) (a : E) (ρ : Env) (s : St) : ev Γ gl (.bi b m a) ρ s = bnd (ev Γ gl a ρ s) fun x s => match x with
    | .tup vs => biop b m vs s
    | _ => none := rfl
@[simp] theorem e_bm (b : Bm) (m : Bool) (o a : E) (ρ : Env) (s : St) : ev Γ gl (.bm b m o a) ρ s = bnd (ev Γ gl o ρ s) fun x s => if bmRecv b x s then bnd (ev Γ gl a ρ s) fun y s => match y with
    | .tup vs => bmop b m x vs s
    | _ => none else none := rfl
@[simp] theorem e_rng (a : E) (ρ : Env) (s : St) : ev Γ gl (.rng a) ρ s = bnd (ev Γ gl a ρ s) fun x s => match x with
    | .tup vs => (rngOf vs).map fun xs => (.lst xs, s)
    | _ => none := rfl
@[simp] theorem e_enm (a : E) (ρ : Env) (s : St) : ev Γ gl (.enm a) ρ s = bnd (ev Γ gl a ρ s) fun x s => (valOf x).map fun xs => (.lst (enmL 0 xs), s) := rfl
@[simp] theorem e_fld (a : E) (f : Str) (cs : List Str) (ρ : Env) (s : St) : ev Γ gl (.fld a f cs) ρ s = bnd (ev Γ gl a ρ s) fun x s => match x with
    | .ref n => match s[n]? with
      | some (.ins c fs) => if cs.contains c then (fs.lookup f).map fun d => (d, s) else none
      | _ => none
    | _ => none := rfl
@[simp] theorem x_skip (ρ : Env) (s : St) : ex Γ gl .skip ρ s = some (.nx, ρ, s) := rfl
@[simp] theorem x_seq (a b : S) (ρ : Env) (s : St) : ex Γ gl (.seq a b) ρ s = (match ex Γ gl a ρ s with
    | some (.nx, ρ1, s1) => ex Γ gl b ρ1 s1
    | r => r) := rfl
@[simp] theorem x_asg (i : Nat) (e : E) (ρ : Env) (s : St) : ex Γ gl (.asg i e) ρ s = bnd (ev Γ gl e ρ s) fun x s => if i < ρ.length then some (.nx, ρ.set i (some x), s) else none := rfl
@[simp] theorem x_asgT (g : G) (e : E) (ρ : Env) (s : St) : ex Γ gl (.asgT g e) ρ s = bnd (ev Γ gl e ρ s) fun x s => match bindG g x ρ with
    | some ρ1 => some (.nx, ρ1, s)
    | none => none := rfl
@[simp] theorem x_exp (e : E) (ρ : Env) (s : St) : ex Γ gl (.exp e) ρ s = bnd (ev Γ gl e ρ s) fun _ s => some (.nx, ρ, s) := rfl
@[simp] theorem x_ret (e : E) (ρ : Env) (s : St) : ex Γ gl (.ret e) ρ s = bnd (ev Γ gl e ρ s) fun x s => some (.ret x, ρ, s) := rfl
@[simp] theorem x_retN (ρ : Env) (s : St) : ex Γ gl .retN ρ s = some (.ret .non, ρ, s) := rfl
@[simp] theorem x_ife (c : E) (a b : S) (ρ : Env) (s : St) : ex Γ gl (.ife c a b) ρ s = bnd (ev Γ gl c ρ s) fun x s => match truth s x with
    | some true => ex Γ gl a ρ s
    | some false => ex Γ gl b ρ s
    | none => none := rfl
@[simp] theorem x_setI (o i e : E) (ρ : Env) (s : St) : ex Γ gl (.setI o i e) ρ s = bnd (ev Γ gl e ρ s) fun v s => bnd (ev Γ gl o ρ s) fun x s => bnd (ev Γ gl i ρ s) fun y s => (setAt x y v s).map fun s => (.nx, ρ, s) := rfl
theorem x_for (g : G) (it : E) (b : S) (ρ : Env) (s : St) : ex Γ gl (.forS g it b) ρ s = bnd (ev Γ gl it ρ s) fun x s => match seqOf s x with
    | some items => forL (fun d ρ s => match bindG g d ρ with
      | some ρ1 => ex Γ gl b ρ1 s
      | none => none) (stab x items) items ρ s
    | none => none := rfl
/-- a comprehension whose parts change nothing -/
theorem compL_pure {α : Type} {f : D → St → Option (Option D × St)} {s : St} {e : α → D} {h : α → Option D} : ∀ {l : List α}, (∀ a ∈ l, f (e a) s = some (h a, s)) → compL f (l.map e) s = some (l.filterMap h, s)
  | [], _ => rfl
  | a :: l, H => by
    rw [List.map_cons, compL, H a List.mem_cons_self]
    simp only []
    rw [compL_pure fun b hb => H b (List.mem_cons_of_mem _ hb), List.filterMap_cons]
    cases h a <;> rfl
theorem fm_if {α β : Type} (p : α → Bool) (r : α → β) : ∀ l : List α, (l.filterMap fun a => if p a then some (r a) else none) = (l.filter p).map r
  | [] => rfl
  | a :: l => by
    rw [List.filterMap_cons, List.filter_cons, fm_if p r l]
    cases p a <;> rfl
theorem comp_pure {α : Type} (l : List α) (e : α → D) (p : α → Bool) (r : α → D) {m : Bool} {vs : List Nat} {g : G} {it c elt : E} {ρ : Env} {s : St} {x : D} (hit : ev Γ gl it ρ s = some (x, s)) (hs : seqOf s x = some (l.map e)) (hst : stab x (l.map e) s = true)
    (hb : ∀ a ∈ l, ∃ ρ1, bindG g (e a) (wipeE ρ vs) = some ρ1 ∧ (∃ d, ev Γ gl c ρ1 s = some (d, s) ∧ truth s d = some (p a)) ∧ (p a = true → ev Γ gl elt ρ1 s = some (r a, s))) :
    ev Γ gl (.comp m vs g it c elt) ρ s = some (mk m ((l.filter p).map r) s) := by
  simp only [ev, hit, bnd_some, hs]
  rw [compL_pure (h := fun a => if p a then some (r a) else none)]
  · simp only []
    rw [fm_if]
  · intro a ha
    obtain ⟨ρ1, h1, ⟨d, h2, h3⟩, h4⟩ := hb a ha
    simp only [h1, h2, bnd_some, h3]
    cases hp : p a with
    | true => simp only [h4 hp, bnd_some, hst, if_true]
    | false => simp only [hst, if_true, Bool.false_eq_true, if_false]
end
end Md
end
section
set_option maxRecDepth 100000
/-! Sym2: encodings; calls. -/
namespace Md
open PySem
abbrev ti (l : List Int) : D := .tup (l.map D.int)
abbrev li (l : List Int) : D := .lst (l.map D.int)
abbrev tts (cs : List (List Int)) : D := .tup (cs.map ti)
abbrev lts (cs : List (List Int)) : D := .lst (cs.map ti)
abbrev fm (n : Int) (cs : List (List Int)) : D := .tup [.int n, tts cs]
@[simp] theorem nrs_ints : ∀ l : List Int, nrs (l.map D.int) = true
  | [] => rfl
  | a :: l => by rw [List.map_cons, nrs, nrs_ints l]; rfl
@[simp] theorem nrs_tis : ∀ l : List (List Int), nrs (l.map ti) = true
  | [] => rfl
  | a :: l => by rw [List.map_cons, nrs, nrs_tis l, nr, nrs_ints]; rfl
@[simp] theorem nrs_lis : ∀ l : List (List Int), nrs (l.map li) = true
  | [] => rfl
  | a :: l => by rw [List.map_cons, nrs, nrs_lis l, nr, nrs_ints]; rfl
@[simp] theorem nrAs_ints (n : Nat) : ∀ l : List Int, nrAs n (l.map D.int) = true
  | [] => rfl
  | a :: l => by rw [List.map_cons, nrAs, nrAs_ints n l]; rfl
@[simp] theorem nrAs_tis (n : Nat) : ∀ l : List (List Int), nrAs n (l.map ti) = true
  | [] => rfl
  | a :: l => by rw [List.map_cons, nrAs, nrAs_tis n l, nrA, nrAs_ints]; rfl
@[simp] theorem eqOks_ints (n : Nat) : ∀ l : List Int, eqOks n (l.map D.int) = true
  | [] => by cases n <;> rfl
  | a :: l => by rw [List.map_cons, eqOks, eqOks_ints n l]; cases n <;> rfl
@[simp] theorem eqOks_tis (n : Nat) : ∀ l : List (List Int), eqOks (n + 1) (l.map ti) = true
  | [] => rfl
  | a :: l => by rw [List.map_cons, eqOks, eqOks_tis n l, eqOk, eqOks_ints]; rfl
@[simp] theorem eqOk_int (n : Nat) (i : Int) : eqOk n (.int i) = true := by cases n <;> rfl
@[simp] theorem eqOk_ti (n : Nat) (l : List Int) : eqOk (n + 1) (ti l) = true := by rw [eqOk, eqOks_ints]
theorem map_inj {α β : Type} {f : α → β} (h : ∀ x y, f x = f y → x = y) : ∀ {a b : List α}, a.map f = b.map f → a = b
  | [], [], _ => rfl
  | [], _ :: _, e => by cases e
  | _ :: _, [], e => by cases e
  | x :: a, y :: b, e => by
    rw [List.map_cons, List.map_cons, List.cons.injEq] at e
    rw [h _ _ e.1, map_inj h e.2]
theorem int_inj (x y : Int) (h : D.int x = D.int y) : x = y := by cases h; rfl
theorem ti_inj (x y : List Int) (h : ti x = ti y) : x = y := map_inj int_inj (by simpa [ti] using h)
theorem any_enc {α : Type} [DecidableEq α] {e : α → D} (h : ∀ x y, e x = e y → x = y) (c : α) (l : List α) : ((l.map e).any fun z => eqD z (e c)) = decide (c ∈ l) := by
  rw [Bool.eq_iff_iff, List.any_eq_true, decide_eq_true_eq]
  constructor
  · rintro ⟨z, hz, hq⟩
    obtain ⟨a, ha, rfl⟩ := List.mem_map.mp hz
    rw [← h _ _ (eqD_eq hq)]
    exact ha
  · exact fun hc => ⟨e c, List.mem_map.mpr ⟨c, hc, rfl⟩, eqD_self _⟩
@[simp] theorem mem_tup (s : St) (i : Int) (l : List Int) : memD s (.int i) (.tup (l.map D.int)) = some (decide (i ∈ l)) := by
  simp [memD, any_enc int_inj]
@[simp] theorem mem_lst (s : St) (i : Int) (l : List Int) : memD s (.int i) (.lst (l.map D.int)) = some (decide (i ∈ l)) := by
  simp [memD, any_enc int_inj]
@[simp] theorem mem_tts (s : St) (c : List Int) (l : List (List Int)) : memD s (.tup (c.map D.int)) (.tup (l.map ti)) = some (decide (c ∈ l)) := by
  have := any_enc ti_inj c l
  simp only [memD, eqOk_ti, eqOks_tis, Bool.and_true, if_true]
  exact congrArg some (this.trans (Bool.eq_iff_iff.mpr (by simp only [decide_eq_true_eq])))
@[simp] theorem mem_lts (s : St) (c : List Int) (l : List (List Int)) : memD s (.tup (c.map D.int)) (.lst (l.map ti)) = some (decide (c ∈ l)) := by
  have := any_enc ti_inj c l
  simp only [memD, eqOk_ti, eqOks_tis, Bool.and_true, if_true]
  exact congrArg some (this.trans (Bool.eq_iff_iff.mpr (by simp only [decide_eq_true_eq])))
/-! ### the canonical lists -/
def srt (l : List Int) : List Int := isort (fun a b => decide (a < b)) l
def srtT (l : List (List Int)) : List (List Int) := isort HT.lexLt l
@[simp] theorem isort_int (l : List Int) : isort ltB (l.map D.int) = (srt l).map D.int := Sn.isort_map D.int Sn.ltB_int l
@[simp] theorem isort_ti (l : List (List Int)) : isort ltB (l.map ti) = (srtT l).map ti := Sn.isort_map ti Sn.ltB_tup l
@[simp] theorem dedup_int (l : List Int) : dedup (l.map D.int) = (dedup l).map D.int := Sn.dedup_map D.int int_inj l
@[simp] theorem dedup_ti (l : List (List Int)) : dedup (l.map ti) = (dedup l).map ti := Sn.dedup_map ti ti_inj l
@[simp] theorem hom0_ints (l : List Int) : (l.map D.int).all (homD 0) = true := by
  rw [List.all_map]
  exact List.all_eq_true.mpr fun _ _ => rfl
@[simp] theorem hom1_tis (l : List (List Int)) : (l.map ti).all (homD 1) = true := by
  rw [List.all_map]
  exact List.all_eq_true.mpr fun c _ => by show homD 1 (ti c) = true; rw [homD, hom0_ints]
@[simp] theorem sortD_int (l : List Int) : sortD (l.map D.int) = some ((srt l).map D.int) := by
  unfold sortD homs
  rw [hom0_ints, Bool.true_or, if_pos rfl, isort_int]
@[simp] theorem sortD_ti (l : List (List Int)) : sortD (l.map ti) = some ((srtT l).map ti) := by
  unfold sortD homs
  rw [hom1_tis, Bool.or_true, if_pos rfl, isort_ti]
theorem mem_srt {a : Int} {l : List Int} : a ∈ srt l ↔ a ∈ l := (Sn.isort_perm l).mem_iff
theorem mem_srtT {a : List Int} {l : List (List Int)} : a ∈ srtT l ↔ a ∈ l := (Sn.isort_perm l).mem_iff
theorem len_srt (l : List Int) : (srt l).length = l.length := (Sn.isort_perm l).length_eq
/-! ### calls -/
def tru (o : Option (D × St)) : Option (Bool × St) := bnd o fun d s => (truth s d).map fun b => (b, s)
@[simp] theorem tru_some (d : D) (s : St) : tru (some (d, s)) = (truth s d).map fun b => (b, s) := rfl
@[simp] theorem truth_bl (s : St) (b : Bool) : truth s (.bl b) = some b := rfl
@[simp] theorem truth_non (s : St) : truth s .non = some false := rfl
@[simp] theorem truth_int (s : St) (i : Int) : truth s (.int i) = some (i != 0) := rfl
@[simp] theorem truth_lst (s : St) (l : List D) : truth s (.lst l) = some (!l.isEmpty) := rfl
@[simp] theorem truth_tup (s : St) (l : List D) : truth s (.tup l) = some (!l.isEmpty) := rfl
@[simp] theorem cmp_in (s : St) (x y : D) : cmpD .isIn s x y = memD s x y := rfl
@[simp] theorem cmp_notIn (s : St) (x y : D) : cmpD .notIn s x y = (memD s x y).map (!·) := rfl
@[simp] theorem cmp_lt (s : St) (a b : Int) : cmpD .lt s (.int a) (.int b) = some (decide (a < b)) := rfl
@[simp] theorem cmp_le (s : St) (a b : Int) : cmpD .le s (.int a) (.int b) = some (decide (a ≤ b)) := rfl
@[simp] theorem cmp_gt (s : St) (a b : Int) : cmpD .gt s (.int a) (.int b) = some (decide (b < a)) := rfl
@[simp] theorem cmp_ge (s : St) (a b : Int) : cmpD .ge s (.int a) (.int b) = some (decide (b ≤ a)) := rfl
@[simp] theorem cmp_eqI (s : St) (a b : Int) : cmpD .eq s (.int a) (.int b) = some (decide (a = b)) := by
  have : (a == b) = decide (a = b) := by by_cases e : a = b <;> simp [e]
  simp [cmpD, eqvD, eqOk, eqD, this]
@[simp] theorem cmp_neI (s : St) (a b : Int) : cmpD .ne s (.int a) (.int b) = some (!decide (a = b)) := by
  have : (a == b) = decide (a = b) := by by_cases e : a = b <;> simp [e]
  simp [cmpD, eqvD, eqOk, eqD, this]
@[simp] theorem mk_false (xs : List D) (s : St) : mk false xs s = (.lst xs, s) := rfl
@[simp] theorem mk_true (xs : List D) (s : St) : mk true xs s = (.ref s.length, s ++ [.lst xs]) := rfl
theorem comp_p {Γ : Calls} {gl : Str → Option D} {α : Type} (l : List α) (e : α → D) (p : α → Bool) (r : α → D) (ρ1 : α → Env) {m : Bool} {vs : List Nat} {g : G} {it c elt : E} {ρ : Env} {s : St} {x : D} (hit : ev Γ gl it ρ s = some (x, s)) (hs : seqOf s x = some (l.map e)) (hst : stab x (l.map e) s = true)
    (hb : ∀ a ∈ l, bindG g (e a) (wipeE ρ vs) = some (ρ1 a)) (hc : ∀ a ∈ l, tru (ev Γ gl c (ρ1 a) s) = some (p a, s)) (hr : ∀ a ∈ l, p a = true → ev Γ gl elt (ρ1 a) s = some (r a, s)) :
    ev Γ gl (.comp m vs g it c elt) ρ s = some (mk m ((l.filter p).map r) s) := by
  refine comp_pure Γ gl l e p r hit hs hst fun a ha => ⟨_, hb a ha, ?_, hr a ha⟩
  have h := hc a ha
  unfold tru at h
  cases h2 : ev Γ gl c (ρ1 a) s with
  | none => rw [h2] at h; cases h
  | some q =>
    obtain ⟨d, s2⟩ := q
    rw [h2, bnd_some] at h
    obtain ⟨b, h3, h4⟩ := Option.map_eq_some_iff.mp h
    cases h4
    exact ⟨d, rfl, h3⟩
section
variable {Φ : Tab} {gl : Str → Option D} {n : Nat} {f : FK} {np ns : Nat} {b : S} {args : List D} {d d' : D} {s s1 : St}
def outOf (o : Option (R × Env × St)) : Option (R × St) := o.map fun r => (r.1, r.2.2)
@[simp] theorem out_some (r : R) (ρ : Env) (s : St) : outOf (some (r, ρ, s)) = some (r, s) := rfl
theorem call_pure (hΦ : Φ f = some ⟨np, ns, .pure, b⟩) (ha : nrs args = true) (hl : args.length = np) (hn : np ≤ ns) (hx : outOf (ex (callN Φ gl n) gl b (args.map some ++ List.replicate (ns - np) none) []) = some (.ret d, s1)) (hz : fzA 0 s1 d = some d') :
    callN Φ gl (n + 1) f args s = some (d', s) := by
  unfold outOf at hx
  obtain ⟨⟨r, ρ, s2⟩, h1, h2⟩ := Option.map_eq_some_iff.mp hx
  simp only [Prod.mk.injEq] at h2
  obtain ⟨rfl, rfl⟩ := h2
  simp only [callN, hΦ, ha, if_true, runF, hl, hn, and_self, h1, hz, Option.map_some]
theorem call_pureN (hΦ : Φ f = some ⟨np, ns, .pure, b⟩) (ha : nrs args = true) (hl : args.length = np) (hn : np ≤ ns) (hx : outOf (ex (callN Φ gl n) gl b (args.map some ++ List.replicate (ns - np) none) []) = some (.nx, s1)) :
    callN Φ gl (n + 1) f args s = some (.non, s) := by
  unfold outOf at hx
  obtain ⟨⟨r, ρ, s2⟩, h1, h2⟩ := Option.map_eq_some_iff.mp hx
  simp only [Prod.mk.injEq] at h2
  obtain ⟨rfl, rfl⟩ := h2
  simp only [callN, hΦ, ha, if_true, runF, hl, hn, and_self, h1]
  rfl
theorem call_raw (hΦ : Φ f = some ⟨np, ns, .raw, b⟩) (hl : args.length = np) (hn : np ≤ ns) (hx : outOf (ex (callN Φ gl n) gl b (args.map some ++ List.replicate (ns - np) none) s) = some (.ret d, s1)) : callN Φ gl (n + 1) f args s = some (d, s1) := by
  unfold outOf at hx
  obtain ⟨⟨r, ρ, s2⟩, h1, h2⟩ := Option.map_eq_some_iff.mp hx
  simp only [Prod.mk.injEq] at h2
  obtain ⟨rfl, rfl⟩ := h2
  simp only [callN, hΦ, runF, hl, hn, and_self, h1, if_true]
theorem call_rawN (hΦ : Φ f = some ⟨np, ns, .raw, b⟩) (hl : args.length = np) (hn : np ≤ ns) (hx : outOf (ex (callN Φ gl n) gl b (args.map some ++ List.replicate (ns - np) none) s) = some (.nx, s1)) : callN Φ gl (n + 1) f args s = some (.non, s1) := by
  unfold outOf at hx
  obtain ⟨⟨r, ρ, s2⟩, h1, h2⟩ := Option.map_eq_some_iff.mp hx
  simp only [Prod.mk.injEq] at h2
  obtain ⟨rfl, rfl⟩ := h2
  simp only [callN, hΦ, runF, hl, hn, and_self, h1, if_true]
theorem call_tidy (hΦ : Φ f = some ⟨np, ns, .tidy, b⟩) (hl : args.length = np) (hn : np ≤ ns) (hx : outOf (ex (callN Φ gl n) gl b (args.map some ++ List.replicate (ns - np) none) s) = some (.ret d, s1)) (hall : (s1.take s.length).all (nrO s.length) = true) (hz : fzA s.length s1 d = some d') :
    callN Φ gl (n + 1) f args s = some (d', s1.take s.length) := by
  unfold outOf at hx
  obtain ⟨⟨r, ρ, s2⟩, h1, h2⟩ := Option.map_eq_some_iff.mp hx
  simp only [Prod.mk.injEq] at h2
  obtain ⟨rfl, rfl⟩ := h2
  simp only [callN, hΦ, runF, hl, hn, and_self, h1, if_true, hall, hz, Option.map_some]
end
end Md
end
section
set_option maxRecDepth 100000
/-! Sym3: built-ins, by encoded values. -/
namespace Md
open PySem
@[simp] theorem filter_isEmpty {α : Type} (p : α → Bool) : ∀ l : List α, (l.filter p).isEmpty = !(l.any p)
  | [] => rfl
  | a :: l => by
    rw [List.filter_cons, List.any_cons]
    cases p a with
    | true => rfl
    | false => simpa using filter_isEmpty p l
@[simp] theorem b_len_t (m : Bool) (s : St) (xs : List D) : biop .len m [.tup xs] s = some (.int xs.length, s) := rfl
@[simp] theorem b_len_l (m : Bool) (s : St) (xs : List D) : biop .len m [.lst xs] s = some (.int xs.length, s) := rfl
@[simp] theorem b_len_s (m : Bool) (s : St) (xs : List Int) : biop .len m [.scr xs] s = some (.int xs.length, s) := rfl
@[simp] theorem b_abs (m : Bool) (s : St) (i : Int) : biop .abs m [.int i] s = some (.int (if i < 0 then -i else i), s) := rfl
@[simp] theorem b_max2 (m : Bool) (s : St) (i j : Int) : biop .max2 m [.int i, .int j] s = some (.int (if j > i then j else i), s) := rfl
@[simp] theorem b_min2 (m : Bool) (s : St) (i j : Int) : biop .min2 m [.int i, .int j] s = some (.int (if j < i then j else i), s) := rfl
@[simp] theorem b_int (m : Bool) (s : St) (i : Int) : biop .int m [.int i] s = some (.int i, s) := rfl
@[simp] theorem b_list_t (m : Bool) (s : St) (xs : List D) : biop .list m [.tup xs] s = some (mk m xs s) := rfl
@[simp] theorem b_list_l (m : Bool) (s : St) (xs : List D) : biop .list m [.lst xs] s = some (mk m xs s) := rfl
@[simp] theorem b_tuple_t (m : Bool) (s : St) (xs : List D) : biop .tuple m [.tup xs] s = some (.tup xs, s) := rfl
@[simp] theorem b_tuple_l (m : Bool) (s : St) (xs : List D) : biop .tuple m [.lst xs] s = some (.tup xs, s) := rfl
@[simp] theorem b_sorted_li (m : Bool) (s : St) (l : List Int) : biop .sorted m [.lst (l.map D.int)] s = some (mk m ((srt l).map D.int) s) := by
  show (match sortArg s (.lst (l.map D.int)) with | some xs => (sortD xs).map fun ys => mk m ys s | none => none) = _
  simp only [sortArg, sortD_int, Option.map_some]
@[simp] theorem b_sorted_ti (m : Bool) (s : St) (l : List Int) : biop .sorted m [.tup (l.map D.int)] s = some (mk m ((srt l).map D.int) s) := by
  show (match sortArg s (.tup (l.map D.int)) with | some xs => (sortD xs).map fun ys => mk m ys s | none => none) = _
  simp only [sortArg, hom0_ints, if_true, sortD_int, Option.map_some]
@[simp] theorem b_sorted_lt (m : Bool) (s : St) (l : List (List Int)) : biop .sorted m [.lst (l.map ti)] s = some (mk m ((srtT l).map ti) s) := by
  show (match sortArg s (.lst (l.map ti)) with | some xs => (sortD xs).map fun ys => mk m ys s | none => none) = _
  simp only [sortArg, sortD_ti, Option.map_some]
theorem small_ints {l : List Int} (h : l.length < 64) : smallT (l.map D.int) = true := by
  unfold smallT
  rw [hom0_ints, Bool.true_or, Bool.and_true, List.length_map]
  exact decide_eq_true h
theorem small_tis {l : List (List Int)} (h : l.length < 64) : smallT (l.map ti) = true := by
  unfold smallT
  rw [hom1_tis, Bool.or_true, Bool.and_true, List.length_map]
  exact decide_eq_true h
theorem b_set_li (m : Bool) (s : St) {l : List Int} (h : l.length < 64) : biop .sortSet m [.lst (l.map D.int)] s = some (mk m ((srt (dedup l)).map D.int) s) := by
  show (match seqOf s (.lst (l.map D.int)) with | some xs => if smallT xs then some (mk m (isort ltB (dedup xs)) s) else none | none => none) = _
  simp only [seqOf, lstOf, small_ints h, if_true, dedup_int, isort_int]
theorem b_set_ti (m : Bool) (s : St) {l : List Int} (h : l.length < 64) : biop .sortSet m [.tup (l.map D.int)] s = some (mk m ((srt (dedup l)).map D.int) s) := by
  show (match seqOf s (.tup (l.map D.int)) with | some xs => if smallT xs then some (mk m (isort ltB (dedup xs)) s) else none | none => none) = _
  simp only [seqOf, small_ints h, if_true, dedup_int, isort_int]
theorem b_set_lt (m : Bool) (s : St) {l : List (List Int)} (h : l.length < 64) : biop .sortSet m [.lst (l.map ti)] s = some (mk m ((srtT (dedup l)).map ti) s) := by
  show (match seqOf s (.lst (l.map ti)) with | some xs => if smallT xs then some (mk m (isort ltB (dedup xs)) s) else none | none => none) = _
  simp only [seqOf, lstOf, small_tis h, if_true, dedup_ti, isort_ti]
theorem b_set_tt (m : Bool) (s : St) {l : List (List Int)} (h : l.length < 64) : biop .sortSet m [.tup (l.map ti)] s = some (mk m ((srtT (dedup l)).map ti) s) := by
  show (match seqOf s (.tup (l.map ti)) with | some xs => if smallT xs then some (mk m (isort ltB (dedup xs)) s) else none | none => none) = _
  simp only [seqOf, small_tis h, if_true, dedup_ti, isort_ti]
theorem allB_map {α : Type} (p : α → Bool) : ∀ l : List α, allB (l.map fun a => D.bl (p a)) = some (l.map p)
  | [] => rfl
  | a :: l => by
    rw [List.map_cons, allB, allB_map p l]
    rfl
@[simp] theorem b_all {α : Type} (m : Bool) (s : St) (p : α → Bool) (l : List α) : biop .all m [.lst (l.map fun a => D.bl (p a))] s = some (.bl (l.all p), s) := by
  show (match lstOf s (.lst (l.map fun a => D.bl (p a))) with | some xs => (allB xs).map fun (bs : List Bool) => (D.bl (bs.all id), s) | none => none) = _
  simp only [lstOf, allB_map, Option.map_some, List.all_map]
  rfl
@[simp] theorem b_inst (t : String) (m : Bool) (s : St) (x : D) : biop (.isInst t) m [x] s = (tyOf s x).map fun u => (.bl (instOf t u), s) := rfl
theorem allI_map : ∀ l : List Int, allI (l.map D.int) = some l
  | [] => rfl
  | a :: l => by
    rw [List.map_cons, allI, allI_map l]
    rfl
@[simp] theorem b_maxD (m : Bool) (s : St) (l : List Int) (d : Int) : biop .maxD m [.lst (l.map D.int), .int d] s = some (.int (maxL l d), s) := by
  show (match lstOf s (.lst (l.map D.int)) with | some xs => (allI xs).map fun (ns : List Int) => (D.int (maxL ns d), s) | none => none) = _
  simp only [lstOf, allI_map, Option.map_some]
theorem filt_true {α : Type} : ∀ l : List α, l.filter (fun _ => true) = l
  | [] => rfl
  | a :: l => by
    rw [List.filter_cons, filt_true l]
    rfl
/-- a comprehension without a test -/
theorem comp_y {Γ : Calls} {gl : Str → Option D} {α : Type} (l : List α) (e : α → D) (r : α → D) (ρ1 : α → Env) {m : Bool} {vs : List Nat} {g : G} {it elt : E} {ρ : Env} {s : St} {x : D} (hit : ev Γ gl it ρ s = some (x, s)) (hs : seqOf s x = some (l.map e)) (hst : stab x (l.map e) s = true)
    (hb : ∀ a ∈ l, bindG g (e a) (wipeE ρ vs) = some (ρ1 a)) (hr : ∀ a ∈ l, ev Γ gl elt (ρ1 a) s = some (r a, s)) : ev Γ gl (.comp m vs g it .yes elt) ρ s = some (mk m (l.map r) s) := by
  have h := comp_p (c := .yes) (m := m) l e (fun _ => true) r ρ1 hit hs hst hb (fun a _ => rfl) (fun a ha _ => hr a ha)
  rw [filt_true] at h
  exact h
theorem len_filt {α : Type} (p : α → Bool) (l : List α) : (l.filter p).length = 0 ↔ l.any p = false := by
  rw [List.length_eq_zero_iff, ← List.isEmpty_iff, filter_isEmpty]
  cases l.any p <;> simp
theorem pos_filt {α : Type} (p : α → Bool) (l : List α) : decide ((0 : Int) < ((l.filter p).length : Int)) = l.any p := by
  cases h : l.any p with
  | false =>
    have := (len_filt p l).mpr h
    exact decide_eq_false (by omega)
  | true =>
    refine decide_eq_true ?_
    have : (l.filter p).length ≠ 0 := fun z => by rw [(len_filt p l).mp z] at h; cases h
    omega
theorem zero_filt {α : Type} (p : α → Bool) (l : List α) : decide (((l.filter p).length : Int) = 0) = !(l.any p) := by
  cases h : l.any p with
  | false =>
    have := (len_filt p l).mpr h
    exact decide_eq_true (by omega)
  | true =>
    refine decide_eq_false ?_
    have : (l.filter p).length ≠ 0 := fun z => by rw [(len_filt p l).mp z] at h; cases h
    omega
/-! places -/
@[simp] theorem ix_nat (n k : Nat) : ixOf n (k : Int) = if k < n then some k else none := by
  unfold ixOf
  rw [if_pos (Int.natCast_nonneg k)]
  by_cases h : k < n
  · rw [if_pos h, if_pos (by omega)]; rfl
  · rw [if_neg h, if_neg (by omega)]
theorem nth_nat {xs : List D} {k : Nat} {d : D} (s : St) (h : xs[k]? = some d) : nthD xs (k : Int) s = some (d, s) := by
  have hk := (List.getElem?_eq_some_iff.mp h).1
  unfold nthD
  rw [ix_nat, if_pos hk, Option.bind_some, h]
  rfl
@[simp] theorem nth_0 (x : D) (xs : List D) (s : St) : nthD (x :: xs) 0 s = some (x, s) := nth_nat (k := 0) s rfl
@[simp] theorem nth_1 (x y : D) (xs : List D) (s : St) : nthD (x :: y :: xs) 1 s = some (y, s) := nth_nat (k := 1) s rfl
@[simp] theorem nth_2 (x y z : D) (xs : List D) (s : St) : nthD (x :: y :: z :: xs) 2 s = some (z, s) := nth_nat (k := 2) s rfl
@[simp] theorem nth_3 (x y z u : D) (xs : List D) (s : St) : nthD (x :: y :: z :: u :: xs) 3 s = some (u, s) := nth_nat (k := 3) s rfl
@[simp] theorem idx_tup (xs : List D) (i : Int) (s : St) : idxD (.tup xs) (.int i) s = nthD xs i s := rfl
@[simp] theorem idx_lst (xs : List D) (i : Int) (s : St) : idxD (.lst xs) (.int i) s = nthD xs i s := rfl
@[simp] theorem op_add (m : Bool) (a b : Int) (s : St) : binop .add m (.int a) (.int b) s = some (.int (a + b), s) := rfl
@[simp] theorem op_sub (m : Bool) (a b : Int) (s : St) : binop .sub m (.int a) (.int b) s = some (.int (a - b), s) := rfl
end Md
end
section
set_option maxRecDepth 100000
/-! Sym4: loops. -/
namespace Md
open PySem
section
variable {Γ : Calls} {gl : Str → Option D} {α β : Type}
/-- a comprehension over two walks, without tests -/
theorem comp2_y (l : List α) (e : α → D) (k : α → List β) (e1 : β → D) (r : α → β → D) (x1 : α → D) (ρ1 : α → Env) (ρ2 : α → β → Env) {m : Bool} {vs vs1 : List Nat} {g g1 : G} {it it1 elt : E} {ρ : Env} {s : St} {x : D}
    (hit : ev Γ gl it ρ s = some (x, s)) (hs : seqOf s x = some (l.map e)) (hst : stab x (l.map e) s = true)
    (hb : ∀ a ∈ l, bindG g (e a) (wipeE ρ vs) = some (ρ1 a)) (hit1 : ∀ a ∈ l, ev Γ gl it1 (ρ1 a) s = some (x1 a, s)) (hs1 : ∀ a ∈ l, seqOf s (x1 a) = some ((k a).map e1)) (hst1 : ∀ a ∈ l, stab (x1 a) ((k a).map e1) s = true)
    (hb1 : ∀ a ∈ l, ∀ b ∈ k a, bindG g1 (e1 b) (wipeE (ρ1 a) vs1) = some (ρ2 a b)) (hr : ∀ a ∈ l, ∀ b ∈ k a, ev Γ gl elt (ρ2 a b) s = some (r a b, s)) (hc1 : ∀ a ∈ l, (k a).length ≤ cap) (hc : (l.flatMap fun a => (k a).map (r a)).length ≤ cap) :
    ev Γ gl (.comp2 m vs vs1 g it .yes g1 it1 .yes elt) ρ s = some (mk m (l.flatMap fun a => (k a).map (r a)) s) := by
  simp only [ev, hit, bnd_some, hs]
  rw [compL_pure (h := fun a => some (.tup ((k a).map (r a))))]
  · have e2 : ∀ l : List α, ((l.filterMap fun a => some (D.tup ((k a).map (r a)))).flatMap fun d => match d with
      | .tup ys => ys
      | _ => []) = l.flatMap fun a => (k a).map (r a) := by
      intro l
      induction l with
      | nil => rfl
      | cons a l ih => rw [List.filterMap_cons, List.flatMap_cons, List.flatMap_cons, ih]
    have e5 : ∀ zs : List D, zs = (l.flatMap fun a => (k a).map (r a)) → (if zs.length ≤ cap then some (mk m zs s) else none) = some (mk m (l.flatMap fun a => (k a).map (r a)) s) := fun zs e => by rw [e, if_pos hc]
    exact e5 _ (e2 l)
  · intro a ha
    simp only [hb a ha, bnd_some, truth_bl, hit1 a ha, hs1 a ha]
    rw [compL_pure (h := fun b => some (r a b))]
    · have e3 : ∀ l : List β, (l.filterMap fun b => some (r a b)) = l.map (r a) := by
        intro l
        induction l with
        | nil => rfl
        | cons b l ih => rw [List.filterMap_cons, List.map_cons, ih]
      have e4 : ((k a).map (r a)).length ≤ cap := by rw [List.length_map]; exact hc1 a ha
      simp only [e3, hst, e4, decide_true, Bool.and_self, if_true]
    · intro b hb'
      simp only [hb1 a ha b hb', bnd_some, truth_bl, hr a ha b hb', hst1 a ha, if_true]
theorem enm_map {e : α → D} : ∀ (k : Nat) (l : List α), enmL k (l.map e) = (l.zipIdx k).map fun p => .tup [.int (p.2 : Int), e p.1]
  | _, [] => rfl
  | k, a :: l => by
    rw [List.map_cons, enmL, enm_map (k + 1) l]
    rfl
theorem rng_map : ∀ (n : Nat) (lo c : Int), rngI lo n c = (List.range n).map fun (i : Nat) => D.int (lo + (i : Int) * c)
  | 0, _, _ => rfl
  | n + 1, lo, c => by
    rw [rngI, rng_map n, List.range_succ_eq_map, List.map_cons, List.map_map]
    refine congr (congrArg List.cons (by simp)) (List.map_congr_left fun i _ => ?_)
    show D.int (lo + c + (i : Int) * c) = D.int (lo + ((i + 1 : Nat) : Int) * c)
    congr 1
    rw [Int.natCast_add, Int.add_mul]
    simp
    omega
/-- a loop that ends by itself -/
theorem for_nx (l : List α) (e : α → D) (I : Env → Prop) {g : G} {it : E} {b : S} {ρ : Env} {s : St} {x : D} (hit : ev Γ gl it ρ s = some (x, s)) (hs : seqOf s x = some (l.map e)) (hst : stab x (l.map e) s = true) (hI : I ρ)
    (hb : ∀ a ∈ l, ∀ ρ, I ρ → ∃ ρ1 ρ2, bindG g (e a) ρ = some ρ1 ∧ ex Γ gl b ρ1 s = some (.nx, ρ2, s) ∧ I ρ2) : ∃ ρ', ex Γ gl (.forS g it b) ρ s = some (.nx, ρ', s) ∧ I ρ' := by
  rw [x_for, hit, bnd_some, hs]
  show ∃ ρ', forL _ _ (l.map e) ρ s = _ ∧ _
  generalize hok : stab x (l.map e) = ok at hst
  clear hok hit hs
  induction l generalizing ρ with
  | nil => exact ⟨ρ, rfl, hI⟩
  | cons a l ih =>
    obtain ⟨ρ1, ρ2, h1, h2, h3⟩ := hb a List.mem_cons_self ρ hI
    obtain ⟨ρ', h4, h5⟩ := ih h3 fun c hc => hb c (List.mem_cons_of_mem _ hc)
    refine ⟨ρ', ?_, h5⟩
    rw [List.map_cons, forL]
    simp only [h1, h2, hst, if_true]
    exact h4
/-- a loop that looks for the first -/
theorem for_find (l : List α) (e : α → D) (p : α → Bool) (r : α → D) (I : Env → Prop) {g : G} {it : E} {b : S} {ρ : Env} {s : St} {x : D} (hit : ev Γ gl it ρ s = some (x, s)) (hs : seqOf s x = some (l.map e)) (hst : stab x (l.map e) s = true) (hI : I ρ)
    (hb : ∀ a ∈ l, ∀ ρ, I ρ → ∃ ρ1 ρ2, bindG g (e a) ρ = some ρ1 ∧ ex Γ gl b ρ1 s = some (if p a then .ret (r a) else .nx, ρ2, s) ∧ (p a = false → I ρ2)) :
    ∃ ρ', ex Γ gl (.forS g it b) ρ s = some (match l.find? p with
      | some a => .ret (r a)
      | none => .nx, ρ', s) ∧ (l.find? p = none → I ρ') := by
  rw [x_for, hit, bnd_some, hs]
  show ∃ ρ', forL _ _ (l.map e) ρ s = _ ∧ _
  generalize hok : stab x (l.map e) = ok at hst
  clear hok hit hs
  induction l generalizing ρ with
  | nil => exact ⟨ρ, rfl, fun _ => hI⟩
  | cons a l ih =>
    obtain ⟨ρ1, ρ2, h1, h2, h3⟩ := hb a List.mem_cons_self ρ hI
    rw [List.map_cons, forL, List.find?_cons]
    simp only [h1, h2]
    cases hp : p a with
    | true => exact ⟨ρ2, by simp only [if_true], fun z => by cases z⟩
    | false =>
      obtain ⟨ρ', h4, h5⟩ := ih (h3 hp) fun c hc => hb c (List.mem_cons_of_mem _ hc)
      refine ⟨ρ', ?_, h5⟩
      simp only [Bool.false_eq_true, if_false, hst, if_true]
      exact h4
end
end Md
end
section
set_option maxRecDepth 100000
/-! Sym5: loops that change the store; dicts. -/
namespace Md
open PySem
section
variable (Γ : Calls) (gl : Str → Option D)
@[simp] theorem e_meth (o : E) (f : Str) (args : E) (ρ : Env) (s : St) : ev Γ gl (.meth o f args) ρ s = bnd (ev Γ gl o ρ s) fun x s => match x with
    | .ref n => match s[n]? with
      | some (.ins c fs) => if (fs.lookup f).isNone then bnd (ev Γ gl args ρ s) fun y s => match y with
        | .tup vs => Γ (c, some f) (.ref n :: vs) s
        | _ => none else none
      | _ => none
    | _ => none := rfl
@[simp] theorem e_make (c : Str) (args : E) (ρ : Env) (s : St) : ev Γ gl (.make c args) ρ s = bnd (ev Γ gl args ρ s) fun x s => match x with
    | .tup vs => bnd (Γ (c, some (Str.ofString "__init__")) (.ref s.length :: vs) (s ++ [.ins c []])) fun y s1 => match y with
      | .non => some (.ref s.length, s1)
      | _ => none
    | _ => none := rfl
@[simp] theorem e_dict (m : Bool) (args : E) (ρ : Env) (s : St) : ev Γ gl (.dict m args) ρ s = bnd (ev Γ gl args ρ s) fun x s => match x with
    | .tup [] => some (.ref s.length, s ++ [if m then .dt [] else .dk []])
    | .tup vs => (pairsK vs).map fun kvs => (.ref s.length, s ++ [.dk (putAll kvs [])])
    | _ => none := rfl
@[simp] theorem e_rev (a : E) (ρ : Env) (s : St) : ev Γ gl (.rev a) ρ s = bnd (ev Γ gl a ρ s) fun x s => match x with
    | .lst xs => some (.lst xs.reverse, s)
    | _ => none := rfl
@[simp] theorem e_zip (a b : E) (ρ : Env) (s : St) : ev Γ gl (.zip a b) ρ s = bnd (ev Γ gl a ρ s) fun x s => bnd (ev Γ gl b ρ s) fun y s => match x, y with
    | .tup xs, .tup ys => if xs.length ≤ cap then some (.lst (zipL xs ys), s) else none
    | .lst xs, .lst ys => if xs.length ≤ cap then some (.lst (zipL xs ys), s) else none
    | _, _ => none := rfl
@[simp] theorem x_setF (o : E) (f : Str) (cs : List Str) (e : E) (ρ : Env) (s : St) : ex Γ gl (.setF o f cs e) ρ s = bnd (ev Γ gl e ρ s) fun v s => bnd (ev Γ gl o ρ s) fun x s => match x with
    | .ref n => match s[n]? with
      | some (.ins c fs) => if fs.length < 100 ∧ cs.contains c then some (.nx, ρ, s.set n (.ins c (putF fs f v))) else none
      | _ => none
    | _ => none := rfl
@[simp] theorem x_aug (i : Nat) (o : Bo) (e : E) (ρ : Env) (s : St) : ex Γ gl (.aug i o e) ρ s = (match ρ[i]? with
    | some (some (.int a)) => bnd (ev Γ gl e ρ s) fun y s => match y with
      | .int b => (augI o a b).map fun z => (.nx, ρ.set i (some (.int z)), s)
      | _ => none
    | _ => none) := rfl
@[simp] theorem x_brk (ρ : Env) (s : St) : ex Γ gl .brk ρ s = some (.brk, ρ, s) := rfl
end
section
variable {Γ : Calls} {gl : Str → Option D} {α β : Type}
theorem seq_nx {a b : S} {ρ ρ1 : Env} {s s1 : St} {r : Option (R × Env × St)} (h : ex Γ gl a ρ s = some (.nx, ρ1, s1)) (h2 : ex Γ gl b ρ1 s1 = r) : ex Γ gl (.seq a b) ρ s = r := by
  rw [x_seq, h]
  exact h2
theorem asg_nx {i : Nat} {e : E} {ρ ρ1 : Env} {s s1 : St} {x : D} (h : ev Γ gl e ρ s = some (x, s1)) (hi : (if i < ρ.length then some (ρ.set i (some x)) else none) = some ρ1) : ex Γ gl (.asg i e) ρ s = some (.nx, ρ1, s1) := by
  rw [x_asg, h, bnd_some]
  split at hi
  · rename_i h
    cases hi
    rw [if_pos h]
  · cases hi
theorem ret_is {e : E} {ρ : Env} {s s1 : St} {x : D} (h : ev Γ gl e ρ s = some (x, s1)) : ex Γ gl (.ret e) ρ s = some (.ret x, ρ, s1) := by
  rw [x_ret, h, bnd_some]
theorem ife_is {c : E} {a b : S} {ρ : Env} {s s1 : St} {x : D} {p : Bool} {r : Option (R × Env × St)} (h : ev Γ gl c ρ s = some (x, s1)) (ht : truth s1 x = some p) (hr : (if p then ex Γ gl a ρ s1 else ex Γ gl b ρ s1) = r) : ex Γ gl (.ife c a b) ρ s = r := by
  rw [x_ife, h, bnd_some, ht]
  cases p
  · exact hr
  · exact hr
theorem out_of {o : Option (R × Env × St)} {r : R} {ρ : Env} {s : St} (h : o = some (r, ρ, s)) : outOf o = some (r, s) := by
  rw [h]; rfl
/-- a loop that ends by itself, over an invariant of what is left -/
theorem for_st (l : List α) (e : α → D) (I : List α → Env → St → Prop) {g : G} {it : E} {b : S} {ρ : Env} {s s0 : St} {x : D} (hit : ev Γ gl it ρ s = some (x, s0)) (hs : seqOf s0 x = some (l.map e)) (hst : ∀ s, stab x (l.map e) s = true) (hI : I l ρ s0)
    (hb : ∀ a t ρ s, I (a :: t) ρ s → ∃ ρ1 ρ2 s2, bindG g (e a) ρ = some ρ1 ∧ ex Γ gl b ρ1 s = some (.nx, ρ2, s2) ∧ I t ρ2 s2) : ∃ ρ' s', ex Γ gl (.forS g it b) ρ s = some (.nx, ρ', s') ∧ I [] ρ' s' := by
  rw [x_for, hit, bnd_some, hs]
  show ∃ ρ' s', forL _ _ (l.map e) ρ s0 = _ ∧ _
  generalize hok : stab x (l.map e) = ok at hst
  clear hok hit hs
  induction l generalizing ρ s0 with
  | nil => exact ⟨ρ, s0, rfl, hI⟩
  | cons a l ih =>
    obtain ⟨ρ1, ρ2, s2, h1, h2, h3⟩ := hb a l ρ s0 hI
    obtain ⟨ρ', s', h4, h5⟩ := ih h3
    refine ⟨ρ', s', ?_, h5⟩
    rw [List.map_cons, forL]
    simp only [h1, h2, hst, if_true]
    exact h4
end
/-- a comprehension whose test or element changes the store -/
theorem comp_st {Γ : Calls} {gl : Str → Option D} {α : Type} (l : List α) (e : α → D) (I : List α → List D → St → Prop) {m : Bool} {vs : List Nat} {g : G} {it c elt : E} {ρ : Env} {s s0 : St} {x : D} (hit : ev Γ gl it ρ s = some (x, s0)) (hs : seqOf s0 x = some (l.map e)) (hst : ∀ s, stab x (l.map e) s = true)
    (hI : I l [] s0) (hb : ∀ a t ys s, I (a :: t) ys s → ∃ ρ1 b d s1, bindG g (e a) (wipeE ρ vs) = some ρ1 ∧ ev Γ gl c ρ1 s = some (d, s1) ∧ truth s1 d = some b ∧ (b = true → ∃ y s2, ev Γ gl elt ρ1 s1 = some (y, s2) ∧ I t (ys ++ [y]) s2) ∧ (b = false → I t ys s1)) :
    ∃ ys s', ev Γ gl (.comp m vs g it c elt) ρ s = some (mk m ys s') ∧ I [] ys s' := by
  simp only [ev, hit, bnd_some, hs]
  generalize hok : stab x (l.map e) = ok at hst
  clear hok hit hs
  have key : ∀ (l : List α) (ys : List D) (s0 : St), I l ys s0 → ∃ zs s', compL (fun d s => match bindG g d (wipeE ρ vs) with
        | some ρ1 => bnd (ev Γ gl c ρ1 s) fun b s => match truth s b with
          | some true => bnd (ev Γ gl elt ρ1 s) fun y s => if ok s then some (some y, s) else none
          | some false => if ok s then some (none, s) else none
          | none => none
        | none => none) (l.map e) s0 = some (zs, s') ∧ I [] (ys ++ zs) s' := by
    intro l
    induction l with
    | nil => intro ys s0 h; exact ⟨[], s0, rfl, by rw [List.append_nil]; exact h⟩
    | cons a l ih =>
      intro ys s0 h
      obtain ⟨ρ1, b, d, s1, h1, h2, h3, h4, h5⟩ := hb a l ys s0 h
      cases b with
      | true =>
        obtain ⟨y, s2, h6, h7⟩ := h4 rfl
        obtain ⟨zs, s', h8, h9⟩ := ih _ _ h7
        refine ⟨y :: zs, s', ?_, ?_⟩
        · rw [List.map_cons, compL]
          simp only [hst, if_true] at h8
          simp only [h1, h2, bnd_some, h3, h6, hst, if_true, h8]
          rfl
        · rw [List.append_assoc] at h9
          exact h9
      | false =>
        obtain ⟨zs, s', h8, h9⟩ := ih _ _ (h5 rfl)
        refine ⟨zs, s', ?_, h9⟩
        rw [List.map_cons, compL]
        simp only [hst, if_true] at h8
        simp only [h1, h2, bnd_some, h3, hst, if_true, h8]
        rfl
  obtain ⟨zs, s', h1, h2⟩ := key l [] s0 hI
  rw [List.nil_append] at h2
  refine ⟨zs, s', ?_, h2⟩
  exact congrArg (fun o : Option (List D × St) => match o with
    | some (ys, s) => some (mk m ys s)
    | none => none) h1
theorem get_put {κ : Type} [DecidableEq κ] (kvs : List (κ × D)) (q : κ) (v : D) : getK (putK kvs q v) q = some v := by
  unfold putK
  split
  · rename_i h
    induction kvs with
    | nil => cases h
    | cons a kvs ih =>
      rw [List.map_cons]
      by_cases e : a.1 = q
      · rw [if_pos e, getK, if_pos e]
      · rw [if_neg e, getK, if_neg e]
        rw [List.any_cons, decide_eq_false e, Bool.false_or] at h
        exact ih h
  · rename_i h
    induction kvs with
    | nil => rw [List.nil_append, getK, if_pos rfl]
    | cons a kvs ih =>
      rw [List.any_cons, Bool.or_eq_true, not_or] at h
      have e : ¬ a.1 = q := fun e => h.1 (decide_eq_true e)
      rw [List.cons_append, getK, if_neg e]
      exact ih h.2
theorem get_put_ne {κ : Type} [DecidableEq κ] (kvs : List (κ × D)) {q k : κ} (v : D) (hk : k ≠ q) : getK (putK kvs q v) k = getK kvs k := by
  unfold putK
  split
  · rename_i h
    clear h
    induction kvs with
    | nil => rfl
    | cons a kvs ih =>
      rw [List.map_cons]
      by_cases e : a.1 = q
      · have e2 : ¬ a.1 = k := fun h => hk (h.symm.trans e)
        rw [if_pos e]
        show (if a.1 = k then _ else _) = (if a.1 = k then _ else _)
        rw [if_neg e2, if_neg e2]
        exact ih
      · rw [if_neg e]
        show (if a.1 = k then _ else _) = (if a.1 = k then _ else _)
        split
        · rfl
        · exact ih
  · rename_i h
    clear h
    induction kvs with
    | nil =>
      show (if q = k then _ else _) = _
      rw [if_neg (Ne.symm hk)]
    | cons a kvs ih =>
      rw [List.cons_append]
      show (if a.1 = k then _ else _) = (if a.1 = k then _ else _)
      split
      · rfl
      · exact ih
theorem put_len {κ : Type} [DecidableEq κ] (kvs : List (κ × D)) (q : κ) (v : D) : (putK kvs q v).length ≤ kvs.length + 1 := by
  unfold putK
  split
  · rw [List.length_map]; omega
  · rw [List.length_append]; simp
end Md
end
section
set_option maxRecDepth 100000
/-! Sym6: evaluation by parts, as terms. -/
namespace Md
open PySem
section
variable {Γ : Calls} {gl : Str → Option D} {ρ : Env} {s s1 s2 s3 : St} {a b c e : E} {x y z : D} {f : Str} {r : Option (D × St)}
theorem ev_v {i : Nat} {d : D} (h : ρ[i]? = some (some d)) : ev Γ gl (.var i) ρ s = some (d, s) := by rw [e_var, h]
theorem ev_c0 (h : Γ (f, none) [] s = r) : ev Γ gl (.call f .nil) ρ s = r := by
  simp only [e_call, e_nil, bnd_some, h]
theorem ev_c1 (h1 : ev Γ gl a ρ s = some (x, s1)) (h : Γ (f, none) [x] s1 = r) : ev Γ gl (.call f (.cons a .nil)) ρ s = r := by
  simp only [e_call, e_cons, e_nil, bnd_some, h1, h]
theorem ev_c2 (h1 : ev Γ gl a ρ s = some (x, s1)) (h2 : ev Γ gl b ρ s1 = some (y, s2)) (h : Γ (f, none) [x, y] s2 = r) : ev Γ gl (.call f (.cons a (.cons b .nil))) ρ s = r := by
  simp only [e_call, e_cons, e_nil, bnd_some, h1, h2, h]
theorem ev_c3 (h1 : ev Γ gl a ρ s = some (x, s1)) (h2 : ev Γ gl b ρ s1 = some (y, s2)) (h3 : ev Γ gl c ρ s2 = some (z, s3)) (h : Γ (f, none) [x, y, z] s3 = r) : ev Γ gl (.call f (.cons a (.cons b (.cons c .nil)))) ρ s = r := by
  simp only [e_call, e_cons, e_nil, bnd_some, h1, h2, h3, h]
theorem ev_b1 {q : Bi} {m : Bool} (h1 : ev Γ gl a ρ s = some (x, s1)) (h : biop q m [x] s1 = r) : ev Γ gl (.bi q m (.cons a .nil)) ρ s = r := by
  simp only [e_bi, e_cons, e_nil, bnd_some, h1, h]
theorem ev_b2 {q : Bi} {m : Bool} (h1 : ev Γ gl a ρ s = some (x, s1)) (h2 : ev Γ gl b ρ s1 = some (y, s2)) (h : biop q m [x, y] s2 = r) : ev Γ gl (.bi q m (.cons a (.cons b .nil))) ρ s = r := by
  simp only [e_bi, e_cons, e_nil, bnd_some, h1, h2, h]
theorem ev_cmp {o : Co} {p : Bool} (h1 : ev Γ gl a ρ s = some (x, s1)) (h2 : ev Γ gl b ρ s1 = some (y, s2)) (h : cmpD o s2 x y = some p) : ev Γ gl (.cmp o a b) ρ s = some (.bl p, s2) := by
  simp only [e_cmp, bnd_some, h1, h2, h, Option.map_some]
theorem ev_not {p : Bool} (h1 : ev Γ gl a ρ s = some (x, s1)) (h : truth s1 x = some p) : ev Γ gl (.not a) ρ s = some (.bl (!p), s1) := by
  simp only [e_not, bnd_some, h1, h, Option.map_some]
theorem ev_and {p q : Bool} (h1 : ev Γ gl a ρ s = some (.bl p, s1)) (h2 : ev Γ gl b ρ s1 = some (.bl q, s1)) : ev Γ gl (.and a b) ρ s = some (.bl (p && q), s1) := by
  cases p <;> simp only [e_and, bnd_some, h1, h2, Bool.true_and, Bool.false_and]
theorem ev_or {p q : Bool} (h1 : ev Γ gl a ρ s = some (.bl p, s1)) (h2 : ev Γ gl b ρ s1 = some (.bl q, s1)) : ev Γ gl (.or a b) ρ s = some (.bl (p || q), s1) := by
  cases p <;> simp only [e_or, bnd_some, h1, h2, Bool.true_or, Bool.false_or]
theorem ev_one (h : ev Γ gl a ρ s = r) : ev Γ gl (.one a) ρ s = r := h
theorem ev_idx (h1 : ev Γ gl a ρ s = some (x, s1)) (h2 : ev Γ gl b ρ s1 = some (y, s2)) (h : idxD x y s2 = r) : ev Γ gl (.idx a b) ρ s = r := by
  simp only [e_idx, bnd_some, h1, h2, h]
theorem ev_bin {o : Bo} {m : Bool} (h1 : ev Γ gl a ρ s = some (x, s1)) (h2 : ev Γ gl b ρ s1 = some (y, s2)) (h : binop o m x y s2 = r) : ev Γ gl (.bin o m a b) ρ s = r := by
  simp only [e_bin, bnd_some, h1, h2, h]
theorem ev_l2 (h1 : ev Γ gl a ρ s = some (x, s1)) (h2 : ev Γ gl b ρ s1 = some (y, s2)) : ev Γ gl (.lst false (.cons a (.cons b .nil))) ρ s = some (.lst [x, y], s2) := by
  simp only [e_lst, e_cons, e_nil, bnd_some, h1, h2, List.length_cons, List.length_nil, cap, mk_false]
  rfl
/-! comparisons by == of the encoded values -/
theorem eqOk_ti' (n : Nat) (l : List Int) : eqOk (n + 1) (ti l) = true := eqOk_ti n l
theorem eqOk_li (n : Nat) (l : List Int) : eqOk (n + 1) (li l) = true := by rw [eqOk, eqOks_ints]
theorem eqOk_lts (n : Nat) (l : List (List Int)) : eqOk (n + 2) (lts l) = true := by rw [eqOk, eqOks_tis]
theorem eqOk_fm (n : Nat) (k : Int) (l : List (List Int)) : eqOk (n + 3) (fm k l) = true := by
  rw [eqOk, eqOks, eqOks, eqOks, eqOk, eqOk, eqOks_tis]; rfl
theorem ne_self {s : St} {x : D} (h : eqOk 60 x = true) : cmpD .ne s x x = some false := by
  have : eqvD x x = some true := by
    unfold eqvD
    split
    · simp
    · rw [h, eqD_self]; rfl
  show (eqvD x x).map (!·) = _
  rw [this]; rfl
theorem ne_bl {s : St} {a b : Bool} : cmpD .ne s (.bl a) (.bl b) = some (!(a == b)) := rfl
theorem is_true {s : St} {a : Bool} : cmpD .is s (.bl a) (.bl true) = some a := by cases a <;> rfl
/-- what is missing -/
def subB (w f : List Int) : Bool := f.all fun l => decide (l ∈ w)
theorem subB_iff {w f : List Int} : subB w f = true ↔ ∀ l ∈ f, l ∈ w := by
  unfold subB
  rw [List.all_eq_true]
  exact ⟨fun h l hl => of_decide_eq_true (h l hl), fun h l hl => decide_eq_true (h l hl)⟩
theorem not_any_sub (w f : List Int) : (f.any fun l => !decide (l ∈ w)) = !subB w f := by
  unfold subB
  rw [List.not_all_eq_any_not]
theorem ev_miss {w fs : List Int} {i j l : Nat} (hi : ρ[i]? = some (some (ti fs))) (hj : ρ[j]? = some (some (ti w))) (hl : l < ρ.length) (hil : l ≠ i) (hjl : l ≠ j) :
    ev Γ gl (.comp false [l] (.v l) (.var i) (.cmp .notIn (.var l) (.var j)) (.var l)) ρ s = some (li (fs.filter fun x => !decide (x ∈ w)), s) := by
  have e1 : ∀ c : D, ((ρ.set l none).set l (some c))[j]? = some (some (ti w)) := fun c => by rw [List.getElem?_set_ne hjl, List.getElem?_set_ne hjl, hj]
  have e2 : ∀ c : D, ((ρ.set l none).set l (some c))[l]? = some (some c) := fun c => by rw [List.getElem?_set_self (by rw [List.length_set]; exact hl)]
  refine comp_p (x := ti fs) fs D.int (fun x => !decide (x ∈ w)) D.int (fun x => (ρ.set l none).set l (some (.int x))) (ev_v hi) rfl rfl (fun c _ => ?_) (fun c _ => ?_) (fun c _ _ => ev_v (e2 _))
  · simp only [wipeE, bindG, List.length_set, hl, if_true]
  · rw [ev_cmp (p := !decide (c ∈ w)) (ev_v (e2 _)) (ev_v (e1 _)) (by simp)]
    rfl
theorem ev_miss0 {w fs : List Int} {i j l : Nat} (hi : ρ[i]? = some (some (ti fs))) (hj : ρ[j]? = some (some (ti w))) (hl : l < ρ.length) (hil : l ≠ i) (hjl : l ≠ j) :
    ev Γ gl (.cmp .eq (.bi .len false (.cons (.comp false [l] (.v l) (.var i) (.cmp .notIn (.var l) (.var j)) (.var l)) .nil)) (.int 0)) ρ s = some (.bl (subB w fs), s) := by
  refine ev_cmp (ev_b1 (ev_miss hi hj hl hil hjl) (b_len_l _ _ _)) rfl ?_
  rw [cmp_eqI, List.length_map, zero_filt (fun x => !decide (x ∈ w)) fs, not_any_sub, Bool.not_not]
theorem ev_missP {w fs : List Int} {i j l : Nat} (hi : ρ[i]? = some (some (ti fs))) (hj : ρ[j]? = some (some (ti w))) (hl : l < ρ.length) (hil : l ≠ i) (hjl : l ≠ j) :
    ev Γ gl (.cmp .gt (.bi .len false (.cons (.comp false [l] (.v l) (.var i) (.cmp .notIn (.var l) (.var j)) (.var l)) .nil)) (.int 0)) ρ s = some (.bl (!subB w fs), s) := by
  refine ev_cmp (ev_b1 (ev_miss hi hj hl hil hjl) (b_len_l _ _ _)) rfl ?_
  rw [cmp_gt, List.length_map, pos_filt (fun x => !decide (x ∈ w)) fs, not_any_sub]
end
end Md
end
section
set_option maxRecDepth 100000
set_option maxHeartbeats 1000000
namespace L34
open PySem PySem.Spec PyProof.Rows Md
theorem p_is_integer : T.Φ ("is_integer", none) = some m_is_integer := by kernel_rfl
theorem p_is_number : T.Φ ("is_number", none) = some m_is_number := by kernel_rfl
theorem p_is_ascending : T.Φ ("is_ascending", none) = some m_is_ascending := by kernel_rfl
theorem p_is_clause : T.Φ ("is_clause", none) = some m_is_clause := by kernel_rfl
theorem p_made_clause : T.Φ ("made_clause", none) = some m_made_clause := by kernel_rfl
theorem p_check_count : T.Φ ("check_count", none) = some m_check_count := by kernel_rfl
theorem p_made_formula : T.Φ ("made_formula", none) = some m_made_formula := by kernel_rfl
theorem p_falsifies : T.Φ ("falsifies", none) = some m_falsifies := by kernel_rfl
theorem p_falsified : T.Φ ("falsified", none) = some m_falsified := by kernel_rfl
theorem p_with_literal : T.Φ ("with_literal", none) = some m_with_literal := by kernel_rfl
theorem p_free_variables : T.Φ ("free_variables", none) = some m_free_variables := by kernel_rfl
theorem p_is_earlier : T.Φ ("is_earlier", none) = some m_is_earlier := by kernel_rfl
theorem p_resolvent : T.Φ ("resolvent", none) = some m_resolvent := by kernel_rfl
theorem p_axiom_clause : T.Φ ("axiom_clause", none) = some m_axiom_clause := by kernel_rfl
theorem p_resolved_clause : T.Φ ("resolved_clause", none) = some m_resolved_clause := by kernel_rfl
theorem p_weakened_clause : T.Φ ("weakened_clause", none) = some m_weakened_clause := by kernel_rfl
theorem p_next_clause : T.Φ ("next_clause", none) = some m_next_clause := by kernel_rfl
theorem p_sources : T.Φ ("sources", none) = some m_sources := by kernel_rfl
theorem p_moved : T.Φ ("moved", none) = some m_moved := by kernel_rfl
theorem p_pruned_to : T.Φ ("pruned_to", none) = some m_pruned_to := by kernel_rfl
theorem p_Shortener_init : T.Φ ("Shortener", some "__init__") = some m_Shortener_init := by kernel_rfl
theorem p_Shortener_add : T.Φ ("Shortener", some "add") = some m_Shortener_add := by kernel_rfl
theorem p_Shortener_resolve : T.Φ ("Shortener", some "resolve") = some m_Shortener_resolve := by kernel_rfl
theorem p_is_monomial : T.Φ ("is_monomial", none) = some m_is_monomial := by kernel_rfl
theorem p_is_polynomial : T.Φ ("is_polynomial", none) = some m_is_polynomial := by kernel_rfl
theorem p_plus : T.Φ ("plus", none) = some m_plus := by kernel_rfl
theorem p_times_monomial : T.Φ ("times_monomial", none) = some m_times_monomial := by kernel_rfl
theorem p_times : T.Φ ("times", none) = some m_times := by kernel_rfl
theorem p_degree : T.Φ ("degree", none) = some m_degree := by kernel_rfl
theorem p_value_at : T.Φ ("value_at", none) = some m_value_at := by kernel_rfl
theorem p_literal_factor : T.Φ ("literal_factor", none) = some m_literal_factor := by kernel_rfl
theorem p_clause_polynomial : T.Φ ("clause_polynomial", none) = some m_clause_polynomial := by kernel_rfl
theorem p_leaf_cubes : T.Φ ("leaf_cubes", none) = some m_leaf_cubes := by kernel_rfl
theorem p_factors_of_tree : T.Φ ("factors_of_tree", none) = some m_factors_of_tree := by kernel_rfl
theorem p_place_tree : T.Φ ("place_tree", none) = some m_place_tree := by kernel_rfl
theorem p_graph_of_tree : T.Φ ("graph_of_tree", none) = some m_graph_of_tree := by kernel_rfl
theorem p_graph_leaf : T.Φ ("graph_leaf", none) = some m_graph_leaf := by kernel_rfl
theorem p_tree_depth : T.Φ ("tree_depth", none) = some m_tree_depth := by kernel_rfl
theorem p_find_leaf : T.Φ ("find_leaf", none) = some m_find_leaf := by kernel_rfl
theorem p_write_tree : T.Φ ("write_tree", none) = some m_write_tree := by kernel_rfl
theorem p_steps_of_tree : T.Φ ("steps_of_tree", none) = some m_steps_of_tree := by kernel_rfl
theorem p_tree_below : T.Φ ("tree_below", none) = some m_tree_below := by kernel_rfl
theorem p_tree_of_steps : T.Φ ("tree_of_steps", none) = some m_tree_of_steps := by kernel_rfl
theorem p_search : T.Φ ("search", none) = some m_search := by kernel_rfl
theorem p_solve : T.Φ ("solve", none) = some m_solve := by kernel_rfl
theorem p_total : T.Φ ("total", none) = some m_total := by kernel_rfl
theorem p_is_static : T.Φ ("is_static", none) = some m_is_static := by kernel_rfl
theorem p_static_degree : T.Φ ("static_degree", none) = some m_static_degree := by kernel_rfl
theorem p_find_sum_leaf : T.Φ ("find_sum_leaf", none) = some m_find_sum_leaf := by kernel_rfl
theorem p_sums_of_tree : T.Φ ("sums_of_tree", none) = some m_sums_of_tree := by kernel_rfl
theorem p__law_cell : T.Φ ("_law_cell", none) = some m__law_cell := by kernel_rfl
theorem p__law_numbers : T.Φ ("_law_numbers", none) = some m__law_numbers := by kernel_rfl
theorem p__law_pool : T.Φ ("_law_pool", none) = some m__law_pool := by kernel_rfl
theorem p__law_draw : T.Φ ("_law_draw", none) = some m__law_draw := by kernel_rfl
theorem p__law_kind : T.Φ ("_law_kind", none) = some m__law_kind := by kernel_rfl
theorem p__law_equal : T.Φ ("_law_equal", none) = some m__law_equal := by kernel_rfl
theorem p__law_some : T.Φ ("_law_some", none) = some m__law_some := by kernel_rfl
theorem p__law_cubes : T.Φ ("_law_cubes", none) = some m__law_cubes := by kernel_rfl
theorem p__law_clause : T.Φ ("_law_clause", none) = some m__law_clause := by kernel_rfl
theorem p__law_true : T.Φ ("_law_true", none) = some m__law_true := by kernel_rfl
theorem p__law_rows : T.Φ ("_law_rows", none) = some m__law_rows := by kernel_rfl
theorem p__law_closed_rows : T.Φ ("_law_closed_rows", none) = some m__law_closed_rows := by kernel_rfl
theorem p__law_leaves : T.Φ ("_law_leaves", none) = some m__law_leaves := by kernel_rfl
theorem p_law : T.Φ ("law", none) = some m_law := by kernel_rfl
abbrev Γ (n : Nat) : Calls := callN T.Φ T.gl n
theorem gl_most : T.gl "MOST_VARIABLES" = some (.int 40) := by kernel_rfl
theorem gl_one : T.gl "ONE" = some (.tup [.tup []]) := by kernel_rfl
end L34
end
section
set_option maxRecDepth 100000
set_option maxHeartbeats 1000000
namespace L34
open PySem PySem.Spec PyProof.Rows Md
variable (n : Nat) (s : Md.St)
def mc (l : List Int) : D := if l.any (fun a => decide (-a ∈ l)) then .non else ti (srt (dedup l))
theorem c_made_clause (l : List Int) (h : l.length < 64) : Γ (n + 1) ("made_clause", none) [li l] s = some (mc l, s) := by
  have hc : ev (Γ n) T.gl (.comp false [1] (.v 1) (.var 0) (.cmp .isIn (.neg (.var 1)) (.var 0)) (.var 1)) [some (li l), none] [] = some (.lst ((l.filter fun a => decide (-a ∈ l)).map D.int), []) :=
    comp_p l D.int (fun a => decide (-a ∈ l)) D.int (fun a => [some (li l), some (.int a)]) rfl rfl rfl (fun _ _ => rfl) (fun a _ => by simp) (fun _ _ _ => rfl)
  unfold mc
  by_cases hb : l.any (fun a => decide (-a ∈ l)) = true
  · rw [if_pos hb]
    refine call_pure p_made_clause (by simp [nrs, nr]) rfl (by decide) (d := .non) (s1 := []) ?_ rfl
    simp [hc, hb]
  · rw [if_neg hb]
    refine call_pure p_made_clause (by simp [nrs, nr]) rfl (by decide) (d := ti (srt (dedup l))) (s1 := []) ?_ (by simp [fzA, nrA])
    simp [hc, hb, b_set_li, h]
theorem c_check_count (k : Int) (h0 : 0 ≤ k) (h1 : k ≤ 40) : Γ (n + 1) ("check_count", none) [.int k] s = some (.non, s) := by
  refine call_pureN p_check_count (by simp [nrs, nr]) rfl (by decide) (s1 := []) ?_
  simp [gl_most, show ¬ k < 0 by omega, show ¬ 40 < k by omega]
theorem c_falsifies (cube c : List Int) : Γ (n + 1) ("falsifies", none) [ti cube, ti c] s = some (.bl (c.all fun l => decide (-l ∈ cube)), s) := by
  have hc : ev (Γ n) T.gl (.comp false [2] (.v 2) (.var 1) .yes (.cmp .isIn (.neg (.var 2)) (.var 0))) [some (ti cube), some (ti c), none] [] = some (.lst (c.map fun l => D.bl (decide (-l ∈ cube))), []) := by
    exact comp_y c D.int (fun l => D.bl (decide (-l ∈ cube))) (fun a => [some (ti cube), some (ti c), some (.int a)]) rfl rfl rfl (fun _ _ => rfl) (fun _ _ => by simp)
  refine call_pure p_falsifies (by simp [nrs, nr]) rfl (by decide) (d := .bl (c.all fun l => decide (-l ∈ cube))) (s1 := []) ?_ rfl
  simp [hc]
theorem c_with_literal (c : List Int) (l : Int) (h : c.length < 1000) : Γ (n + 1) ("with_literal", none) [ti c, .int l] s = some (ti (srt (c ++ [l])), s) := by
  refine call_pure p_with_literal (by simp [nrs, nr]) rfl (by decide) (d := ti (srt (c ++ [l]))) (s1 := []) ?_ (by simp [fzA, nrA])
  have e : c.map D.int ++ [D.int l] = (c ++ [l]).map D.int := by simp
  have hcap : c.length + 1 ≤ cap := by unfold cap; omega
  simp [seqOf, e, hcap, -List.map_append]
end L34
end
section
set_option maxRecDepth 100000
set_option maxHeartbeats 1000000
namespace L34
open PySem PySem.Spec PyProof.Rows Md
variable (n : Nat) (s : Md.St)
@[simp] theorem isNot_tup (s : Md.St) (xs : List D) : cmpD .isNot s (.tup xs) .non = some true := rfl
@[simp] theorem isNot_non (s : Md.St) : cmpD .isNot s .non .non = some false := rfl
@[simp] theorem is_tup (s : Md.St) (xs : List D) : cmpD .is s (.tup xs) .non = some false := rfl
@[simp] theorem is_non (s : Md.St) : cmpD .is s .non .non = some true := rfl
@[simp] theorem all_true {α : Type} (l : List α) : (l.all fun _ => true) = true := List.all_eq_true.mpr fun _ _ => rfl
def cl (r : List Int) : List Int := srt (dedup r)
def cls (rows : List (List Int)) : List (List Int) := srtT (dedup (rows.map cl))
/-- literals over 1..k, never one and its negation -/
structure RowOk (k : Int) (r : List Int) : Prop where
  lit : ∀ l ∈ r, (0 < l ∨ l < 0) ∧ -k ≤ l ∧ l ≤ k
  con : ∀ l ∈ r, -l ∉ r
  len : r.length < 64
theorem mc_ok {k : Int} {r : List Int} (h : RowOk k r) : mc r = ti (cl r) := by
  unfold mc
  rw [if_neg]
  · rfl
  · rw [Bool.not_eq_true, List.any_eq_false]
    intro a ha
    rw [decide_eq_true_eq]
    exact h.con a ha
theorem abs_ok {k l : Int} (h : (0 < l ∨ l < 0) ∧ -k ≤ l ∧ l ≤ k) : (0 < if l < 0 then -l else l) ∧ (if l < 0 then -l else l) ≤ k := by
  split <;> omega
theorem c_made_formula (k : Int) (rows : List (List Int)) (h0 : 0 ≤ k) (h1 : k ≤ 40) (hr : ∀ r ∈ rows, RowOk k r) (hl : rows.length < 64) :
    Γ (n + 2) ("made_formula", none) [.int k, .lst (rows.map li)] s = some (fm k (cls rows), s) := by
  obtain ⟨ρ', hf, x, rfl⟩ := for_nx (Γ := Γ (n + 1)) (gl := T.gl) (g := .v 2) (it := .var 1) (b := .ife (.not (.bi .all false (.cons (.comp false [3] (.v 3) (.var 2) .yes (.chain .lt .le (.int 0) (.bi .abs false (.cons (.var 3) .nil)) (.var 0))) .nil))) .stop .skip)
    (ρ := [some (.int k), some (.lst (rows.map li)), none, none, none, none]) (s := []) (x := .lst (rows.map li)) rows li (fun ρ => ∃ x, ρ = [some (.int k), some (.lst (rows.map li)), x, none, none, none]) rfl rfl rfl ⟨none, rfl⟩ (by
      rintro r hm ρ ⟨x, rfl⟩
      refine ⟨_, [some (.int k), some (.lst (rows.map li)), some (li r), none, none, none], rfl, ?_, _, rfl⟩
      have hc : ev (Γ (n + 1)) T.gl (.comp false [3] (.v 3) (.var 2) .yes (.chain .lt .le (.int 0) (.bi .abs false (.cons (.var 3) .nil)) (.var 0))) [some (.int k), some (.lst (rows.map li)), some (li r), none, none, none] [] = some (.lst (r.map fun _ => D.bl true), []) :=
        comp_y r D.int (fun _ => D.bl true) (fun a => [some (.int k), some (.lst (rows.map li)), some (li r), some (.int a), none, none]) rfl rfl rfl (fun _ _ => rfl) (fun a ha => by
          have := abs_ok ((hr r hm).lit a ha)
          simp [this.1, this.2])
      simp [hc, b_all false [] (fun _ : Int => true) r])
  have hc4 : ev (Γ (n + 1)) T.gl (.comp false [2] (.v 2) (.var 1) .yes (.call "made_clause" (.cons (.var 2) .nil))) [some (.int k), some (.lst (rows.map li)), x, none, none, none] [] = some (lts (rows.map cl), []) := by
    rw [lts, List.map_map]
    exact comp_y rows li (fun r => ti (cl r)) (fun a => [some (.int k), some (.lst (rows.map li)), some (li a), none, none, none]) rfl rfl rfl (fun _ _ => rfl) (fun r hm => by simp [c_made_clause _ _ _ (hr r hm).len, mc_ok (hr r hm)])
  have hc5 : ev (Γ (n + 1)) T.gl (.comp false [5] (.v 5) (.var 4) (.cmp .isNot (.var 5) .non) (.var 5)) [some (.int k), some (.lst (rows.map li)), x, none, some (lts (rows.map cl)), none] [] = some (lts (rows.map cl), []) := by
    have := comp_p (Γ := Γ (n + 1)) (gl := T.gl) (m := false) (vs := [5]) (g := .v 5) (it := .var 4) (c := .cmp .isNot (.var 5) .non) (elt := .var 5) (ρ := [some (.int k), some (.lst (rows.map li)), x, none, some (lts (rows.map cl)), none]) (s := []) (x := lts (rows.map cl))
      (rows.map cl) ti (fun _ => true) ti (fun a => [some (.int k), some (.lst (rows.map li)), x, none, some (lts (rows.map cl)), some (ti a)]) rfl rfl rfl (fun _ _ => rfl) (fun a _ => by simp) (fun _ _ _ => rfl)
    rw [filt_true] at this
    exact this
  refine call_pure p_made_formula (by simp [nrs, nr]) rfl (by decide) (d := fm k (cls rows)) (s1 := []) ?_ (by simp [fzA, nrA, nrAs])
  have hset := b_set_lt false [] (l := rows.map cl) (by rw [List.length_map]; exact hl)
  simp [c_check_count, h0, h1, hf, hc4, hc5, hset, cap, -List.map_map]
  rfl
end L34
end
section
set_option maxRecDepth 100000
set_option maxHeartbeats 1000000
namespace L34
open PySem PySem.Spec PyProof.Rows Md
variable (n : Nat) (s : Md.St)
def fals (cube c : List Int) : Bool := c.all fun l => decide (-l ∈ cube)
def sats (cube c : List Int) : Bool := c.any fun l => decide (l ∈ cube)
/-- where the first falsified clause stands -/
def fst1 (cube : List Int) (cs : List (List Int)) : Int := match (cs.zipIdx).find? fun p => fals cube p.1 with
  | some p => (p.2 : Int)
  | none => -1
theorem c_falsified (k : Int) (cs : List (List Int)) (cube : List Int) : Γ (n + 2) ("falsified", none) [fm k cs, ti cube] s = some (.int (fst1 cube cs), s) := by
  obtain ⟨ρ', hf, hI⟩ := for_find (Γ := Γ (n + 1)) (gl := T.gl) (g := .t (.cons (.v 2) (.cons (.v 3) .nil))) (it := .enm (.idx (.var 0) (.int 1))) (b := .ife (.call "falsifies" (.cons (.var 1) (.cons (.var 3) .nil))) (.ret (.var 2)) .skip)
    (ρ := [some (fm k cs), some (ti cube), none, none]) (s := []) (x := .lst (enmL 0 (cs.map ti))) cs.zipIdx (fun p => .tup [.int (p.2 : Int), ti p.1]) (fun p => fals cube p.1) (fun p => .int (p.2 : Int)) (fun ρ => ∃ x y, ρ = [some (fm k cs), some (ti cube), x, y])
    (by simp [Md.valOf]) (by rw [enm_map]; rfl) rfl ⟨none, none, rfl⟩ (by
      rintro p hm ρ ⟨x, y, rfl⟩
      refine ⟨_, [some (fm k cs), some (ti cube), some (.int (p.2 : Int)), some (ti p.1)], rfl, ?_, fun _ => ⟨_, _, rfl⟩⟩
      have := c_falsifies n [] cube p.1
      cases hp : fals cube p.1 with
      | true => simp [this, show (p.1.all fun l => decide (-l ∈ cube)) = true from hp]
      | false => simp [this, show (p.1.all fun l => decide (-l ∈ cube)) = false from hp])
  refine call_pure p_falsified (by simp [nrs, nr]) rfl (by decide) (d := .int (fst1 cube cs)) (s1 := []) ?_ rfl
  cases hq : (cs.zipIdx).find? fun p => fals cube p.1 with
  | none =>
    rw [hq] at hf
    obtain ⟨x, y, rfl⟩ := hI hq
    simp [hf, fst1, hq]
  | some p =>
    rw [hq] at hf
    simp [hf, fst1, hq]
end L34
end
section
set_option maxRecDepth 100000
set_option maxHeartbeats 1000000
namespace L34
open PySem PySem.Spec PyProof.Rows Md
variable (n : Nat) (s : Md.St)
def absI (l : Int) : Int := if l < 0 then -l else l
def free (k : Nat) (cube : List Int) : List Int := ((List.range k).map fun (i : Nat) => (1 : Int) + i).filter fun v => !decide (v ∈ cube) && !decide (-v ∈ cube)
theorem rng2 (a b : Int) : rngOf [.int a, .int b] = if -500000 ≤ a ∧ a ≤ 500000 ∧ b ≤ 500000 ∧ -500000 ≤ b then some (rngI a (b - a).toNat 1) else none := rfl
theorem rng_1k (k : Nat) (h : k ≤ 40) : rngOf [.int 1, .int ((k : Int) + 1)] = some (((List.range k).map fun (i : Nat) => (1 : Int) + i).map D.int) := by
  have : ((k : Int) + 1 - 1).toNat = k := by omega
  rw [rng2, if_pos ⟨by omega, by omega, by omega, by omega⟩, rng_map, List.map_map, this]
  exact congrArg some (List.map_congr_left fun i _ => by simp)
theorem ev_rng {Γ : Calls} {gl : Str → Option D} {args : E} {ρ : Md.Env} {s s1 : Md.St} {vs xs : List D} (h : ev Γ gl args ρ s = some (.tup vs, s1)) (hr : rngOf vs = some xs) : ev Γ gl (.rng args) ρ s = some (.lst xs, s1) := by
  rw [e_rng, h, bnd_some]
  simp only [hr, Option.map_some]
theorem c_free_variables (k : Nat) (cs : List (List Int)) (cube : List Int) (h : k ≤ 40) : Γ (n + 1) ("free_variables", none) [fm k cs, ti cube] s = some (li (free k cube), s) := by
  have hr := rng_1k k h
  refine call_pure p_free_variables (by simp [nrs, nr]) rfl (by decide) (d := li (free k cube)) (s1 := []) ?_ (by simp [fzA, nrA])
  have hc : ev (Γ n) T.gl (.comp false [2] (.v 2) (.rng (.cons (.int 1) (.cons (.bin .add false (.idx (.var 0) (.int 0)) (.int 1)) .nil))) (.and (.cmp .notIn (.var 2) (.var 1)) (.one (.cmp .notIn (.neg (.var 2)) (.var 1)))) (.var 2)) [some (fm k cs), some (ti cube), none] [] = some (li (free k cube), []) :=
    comp_p (x := li ((List.range k).map fun (i : Nat) => (1 : Int) + i)) ((List.range k).map fun (i : Nat) => (1 : Int) + i) D.int (fun v => !decide (v ∈ cube) && !decide (-v ∈ cube)) D.int (fun a => [some (fm k cs), some (ti cube), some (.int a)]) (ev_rng (by simp) hr) rfl rfl (fun _ _ => rfl)
      (fun a _ => by by_cases h : a ∈ cube <;> simp [h]) (fun _ _ _ => rfl)
  simp [hc]
end L34
end
section
set_option maxRecDepth 100000
set_option maxHeartbeats 1000000
namespace L34
open PySem PySem.Spec PyProof.Rows Md
abbrev so (f : List Int) : Md.St := [O.lst (f.map D.int)]
@[simp] theorem mem_so (i : Int) (f : List Int) : memD (so f) (.int i) (.ref 0) = some (decide (i ∈ f)) := by
  simp [memD, any_enc int_inj]
@[simp] theorem len_so (m : Bool) (f : List Int) : biop .len m [.ref 0] (so f) = some (.int f.length, so f) := by
  simp [biop, op1, lenB, lenOf]
@[simp] theorem recv_so (f : List Int) : bmRecv .append (.ref 0) (so f) = true := rfl
theorem app_so (m : Bool) (f : List Int) (i : Int) (h : f.length < 1000) : bmop .append m (.ref 0) [.int i] (so f) = some (.non, so (f ++ [i])) := by
  have : f.length < cap := by unfold cap; omega
  simp [bmop, op1, hd, appendM, this]
section
variable (n : Nat) (A B b : Option D)
end
end L34
end
section
set_option maxRecDepth 100000
set_option maxHeartbeats 1000000
namespace L34
open PySem PySem.Spec PyProof.Rows Md
variable (n : Nat) (s : Md.St)
theorem c_is_integer (i : Int) : Γ (n + 1) ("is_integer", none) [.int i] s = some (.bl true, s) := by
  refine call_pure p_is_integer (by simp [nrs, nr]) rfl (by decide) (d := .bl true) (s1 := []) ?_ rfl
  simp [tyOf, instOf]
theorem c_is_number (i : Int) : Γ (n + 2) ("is_number", none) [.int i] s = some (.bl (decide (0 ≤ i)), s) := by
  refine call_pure p_is_number (by simp [nrs, nr]) rfl (by decide) (d := .bl (decide (0 ≤ i))) (s1 := []) ?_ rfl
  simp [c_is_integer]
theorem c_is_earlier (i k : Int) : Γ (n + 3) ("is_earlier", none) [.int i, .int k] s = some (.bl (decide (0 ≤ i) && decide (i < k)), s) := by
  refine call_pure p_is_earlier (by simp [nrs, nr]) rfl (by decide) (d := .bl (decide (0 ≤ i) && decide (i < k))) (s1 := []) ?_ rfl
  by_cases h : 0 ≤ i
  · simp [c_is_number, h]
  · simp [c_is_number, h]
end L34
end
section
set_option maxRecDepth 100000
set_option maxHeartbeats 1000000
namespace L34
open PySem PySem.Spec PyProof.Rows Md
variable (n : Nat) (s : Md.St)
def resL (a b : List Int) (v : Int) : List Int := (a.filter fun x => !decide (x = v)) ++ (b.filter fun x => !decide (x = -v))
theorem c_resolvent (a b : List Int) (v : Int) (h1 : v ∈ a) (h2 : -v ∈ b) (h : a.length + b.length < 64) : Γ (n + 2) ("resolvent", none) [ti a, ti b, .int v] s = some (mc (resL a b v), s) := by
  have hl : (resL a b v).length < 64 := by
    unfold resL
    rw [List.length_append]
    have := List.length_filter_le (fun x => !decide (x = v)) a
    have := List.length_filter_le (fun x => !decide (x = -v)) b
    omega
  have hm := c_made_clause n [] (resL a b v) hl
  have hca : ev (Γ (n + 1)) T.gl (.comp false [3] (.v 3) (.var 0) (.cmp .ne (.var 3) (.var 2)) (.var 3)) [some (ti a), some (ti b), some (.int v), none, none] [] = some (li (a.filter fun x => !decide (x = v)), []) :=
    comp_p (x := ti a) a D.int (fun x => !decide (x = v)) D.int (fun x => [some (ti a), some (ti b), some (.int v), some (.int x), none]) rfl rfl rfl (fun _ _ => rfl) (fun x _ => by simp) (fun _ _ _ => rfl)
  have hcb : ev (Γ (n + 1)) T.gl (.comp false [4] (.v 4) (.var 1) (.cmp .ne (.var 4) (.neg (.var 2))) (.var 4)) [some (ti a), some (ti b), some (.int v), none, none] [] = some (li (b.filter fun x => !decide (x = -v)), []) :=
    comp_p (x := ti b) b D.int (fun x => !decide (x = -v)) D.int (fun x => [some (ti a), some (ti b), some (.int v), none, some (.int x)]) rfl rfl rfl (fun _ _ => rfl) (fun x _ => by simp) (fun _ _ _ => rfl)
  have hadd : binop .add false (li (a.filter fun x => !decide (x = v))) (li (b.filter fun x => !decide (x = -v))) [] = some (li (resL a b v), []) := by
    show (if _ + _ ≤ cap then _ else _) = _
    rw [if_pos]
    · simp [resL]
    · unfold resL at hl
      rw [List.length_append] at hl
      rw [List.length_map, List.length_map]
      unfold cap
      omega
  have hmc : nrA 0 (mc (resL a b v)) = true ∧ fzA 0 [] (mc (resL a b v)) = some (mc (resL a b v)) := by
    unfold mc
    split <;> simp [nrA, fzA]
  refine call_pure p_resolvent (by simp [nrs, nr]) rfl (by decide) (d := mc (resL a b v)) (s1 := []) ?_ hmc.2
  simp [hca, hcb, hadd, hm, h1, h2]
end L34
end
section
set_option maxRecDepth 100000
set_option maxHeartbeats 1000000
namespace L34
open PySem PySem.Spec PyProof.Rows Md
variable (n : Nat) (s : Md.St)
abbrev axS (i : Nat) : D := .tup [.str "axiom", .int (i : Int)]
abbrev reS (a b : Nat) (v : Int) : D := .tup [.str "resolve", .int (a : Int), .int (b : Int), .int v]
theorem c_axiom_clause (q : Int) (cs : List (List Int)) (i : Nat) (c : List Int) (h : cs[i]? = some c) : Γ (n + 3) ("axiom_clause", none) [fm q cs, axS i] s = some (ti c, s) := by
  have hi : i < cs.length := (List.getElem?_eq_some_iff.mp h).1
  have hn : nthD (cs.map ti) (i : Int) [] = some (ti c, []) := nth_nat [] (by rw [List.getElem?_map, h]; rfl)
  refine call_pure p_axiom_clause (by simp [nrs, nr]) rfl (by decide) (d := ti c) (s1 := []) ?_ (by simp [fzA, nrA])
  simp [c_is_number, Nat.not_le.mpr hi, hn]
end L34
end
section
set_option maxRecDepth 100000
set_option maxHeartbeats 1000000
namespace L34
open PySem PySem.Spec PyProof.Rows Md
/-- search's trees -/
inductive Tr where
  | leaf (k : Int) | ask (v : Int) (lo hi : Tr)
def Tr.d : Tr → D
  | .leaf k => .tup [.str "leaf", .int k]
  | .ask v lo hi => .tup [.str "ask", .int v, lo.d, hi.d]
/-- search, with fuel: a model, or a tree -/
def sr (k : Nat) (cs : List (List Int)) : Nat → List Int → Option (List Int ⊕ Tr)
  | 0, _ => none
  | m + 1, cube => if 0 ≤ fst1 cube cs then some (.inr (.leaf (fst1 cube cs))) else match free k cube with
    | [] => some (.inl cube)
    | v :: _ => match sr k cs m (srt (cube ++ [-v])) with
      | some (.inr lo) => match sr k cs m (srt (cube ++ [v])) with
        | some (.inr hi) => some (.inr (.ask v lo hi))
        | r => r
      | r => r
def srD : List Int ⊕ Tr → D
  | .inl m => .tup [ti m, .non]
  | .inr t => .tup [.non, t.d]
theorem nr_tr : ∀ t : Tr, nrA 0 t.d = true
  | .leaf k => rfl
  | .ask v lo hi => by
    simp only [Tr.d, nrA, nrAs, nr_tr lo, nr_tr hi, Bool.and_self]
end L34
end
section
set_option maxRecDepth 100000
set_option maxHeartbeats 1000000
namespace L34
open PySem PySem.Spec PyProof.Rows Md
theorem fz_srD (r : List Int ⊕ Tr) : fzA 0 [] (srD r) = some (srD r) := by
  cases r with
  | inl w => simp [srD, fzA, nrA, nrAs]
  | inr t => simp [srD, fzA, nrA, nrAs, nr_tr]
theorem c_search (q : Nat) (cs : List (List Int)) (hq : q ≤ 40) : ∀ (m : Nat) (cube : List Int) (r : List Int ⊕ Tr) (s : Md.St), sr q cs m cube = some r → cube.length + m < 900 → Γ (m + 3) ("search", none) [fm q cs, ti cube] s = some (srD r, s)
  | 0, cube, r, s, h, _ => by cases h
  | m + 1, cube, r, s, h, hb => by
    have hf := c_falsified (m + 1) [] q cs cube
    have hv := c_free_variables (m + 2) [] q cs cube hq
    refine call_pure p_search (by simp [nrs, nr]) rfl (by decide) (d := srD r) (s1 := []) ?_ (fz_srD r)
    unfold sr at h
    by_cases h0 : 0 ≤ fst1 cube cs
    · rw [if_pos h0] at h
      cases h
      simp [hf, h0, srD, Tr.d, cap]
    · rw [if_neg h0] at h
      cases hfr : free q cube with
      | nil =>
        rw [hfr] at h
        cases h
        rw [hfr] at hv
        simp [hf, h0, hv, srD, cap]
      | cons v t =>
        rw [hfr] at h
        try dsimp only at h
        rw [hfr] at hv
        have hlt : ¬ (t.length : Int) + 1 = 0 := by omega
        have w1 := c_with_literal (m + 2) [] cube (-v) (by omega)
        have w2 := c_with_literal (m + 2) [] cube v (by omega)
        have hb1 : (srt (cube ++ [-v])).length + m < 900 := by rw [len_srt]; simp; omega
        have hb2 : (srt (cube ++ [v])).length + m < 900 := by rw [len_srt]; simp; omega
        cases h1 : sr q cs m (srt (cube ++ [-v])) with
        | none => rw [h1] at h; cases h
        | some r1 =>
          rw [h1] at h
          try dsimp only at h
          have i1 := c_search q cs hq m _ r1 [] h1 hb1
          cases r1 with
          | inl w =>
            cases h
            simp [hf, h0, hv, hlt, w1, i1, srD, Md.bindG, cap]
          | inr lo =>
            try dsimp only at h
            cases h2 : sr q cs m (srt (cube ++ [v])) with
            | none => rw [h2] at h; cases h
            | some r2 =>
              rw [h2] at h
              try dsimp only at h
              have i2 := c_search q cs hq m _ r2 [] h2 hb2
              cases r2 with
              | inl w =>
                cases h
                simp [hf, h0, hv, hlt, w1, i1, w2, i2, srD, Md.bindG, cap]
              | inr hi =>
                cases h
                simp [hf, h0, hv, hlt, w1, i1, w2, i2, srD, Md.bindG, Tr.d, cap]
end L34
end
section
set_option maxRecDepth 100000
set_option maxHeartbeats 1000000
namespace L34
open PySem PySem.Spec PyProof.Rows Md
/-- the writer's store -/
abbrev SS (q : Int) (cs : List (List Int)) (st : List D) (cl : List (List Int)) : Md.St := [.ins "Shortener" [("formula", fm q cs), ("steps", .ref 1), ("clauses", .ref 2)], .lst st, .lst (cl.map ti)]
variable (n : Nat) (q : Int) (cs : List (List Int)) (st : List D) (cl : List (List Int))
theorem c_init : Γ (n + 1) ("Shortener", some "__init__") [.ref 0, fm q cs] [.ins "Shortener" []] = some (.non, SS q cs [] []) := by
  refine call_rawN p_Shortener_init rfl (by decide) ?_
  simp
  rfl
@[simp] theorem se_axiom_axiom (s : Md.St) : cmpD .eq s (.str "axiom") (.str "axiom") = some true := by kernel_rfl
@[simp] theorem se_resolve_axiom (s : Md.St) : cmpD .eq s (.str "resolve") (.str "axiom") = some false := by kernel_rfl
@[simp] theorem se_resolve_resolve (s : Md.St) : cmpD .eq s (.str "resolve") (.str "resolve") = some true := by kernel_rfl
@[simp] theorem se_leaf_leaf (s : Md.St) : cmpD .eq s (.str "leaf") (.str "leaf") = some true := by kernel_rfl
@[simp] theorem se_ask_leaf (s : Md.St) : cmpD .eq s (.str "ask") (.str "leaf") = some false := by kernel_rfl
@[simp] theorem se_model_model (s : Md.St) : cmpD .eq s (.str "model") (.str "model") = some true := by kernel_rfl
@[simp] theorem se_refutation_model (s : Md.St) : cmpD .eq s (.str "refutation") (.str "model") = some false := by kernel_rfl
theorem c_next_ax (s : Md.St) (i : Nat) (c : List Int) (h : cs[i]? = some c) : Γ (n + 4) ("next_clause", none) [fm q cs, .ref 2, axS i] s = some (ti c, s) := by
  have ha := c_axiom_clause n s q cs i c h
  refine call_raw p_next_clause rfl (by decide) ?_
  simp [ha]
theorem nth_cl (s : Md.St) {a : Nat} {c : List Int} (h : cl[a]? = some c) : nthD (cl.map ti) (a : Int) s = some (ti c, s) := nth_nat s (by rw [List.getElem?_map, h]; rfl)
theorem c_resolved (a b : Nat) (v : Int) (ca cb : List Int) (ha : cl[a]? = some ca) (hb : cl[b]? = some cb) (h1 : v ∈ ca) (h2 : -v ∈ cb) (hl : ca.length + cb.length < 64) (hv : 0 < v ∧ v ≤ q) :
    Γ (n + 4) ("resolved_clause", none) [fm q cs, .ref 2, reS a b v] (SS q cs st cl) = some (mc (resL ca cb v), SS q cs st cl) := by
  have hr := c_resolvent (n + 1) (SS q cs st cl) ca cb v h1 h2 hl
  have e1 := c_is_earlier n (SS q cs st cl) (a : Int) (cl.length : Int)
  have e2 := c_is_earlier n (SS q cs st cl) (b : Int) (cl.length : Int)
  have e3 := c_is_number (n + 1) (SS q cs st cl) v
  have la : a < cl.length := (List.getElem?_eq_some_iff.mp ha).1
  have lb : b < cl.length := (List.getElem?_eq_some_iff.mp hb).1
  have na := nth_cl cl (SS q cs st cl) ha
  have nb := nth_cl cl (SS q cs st cl) hb
  have v0 : (0 : Int) ≤ v := by omega
  refine call_raw p_resolved_clause rfl (by decide) ?_
  simp [e1, e2, e3, la, lb, na, nb, v0, hv.1, hv.2, hr, idxD, biop, op1, lenB, lenOf]
end L34
end
section
set_option maxRecDepth 100000
namespace L34
open Md
theorem srt_perm (l : List Int) : (srt l).Perm l := Sn.isort_perm l
theorem srtT_perm (l : List (List Int)) : (srtT l).Perm l := Sn.isort_perm l
theorem srt_canon {l m : List Int} (h : l.Perm m) : srt l = srt m :=
  Sn.sorted_eq (lt := Sn.ltI) (fun x y h g => by unfold Sn.ltI at *; simp at *; omega) ((srt_perm l).trans (h.trans (srt_perm m).symm)) (Sn.isort_sorted Sn.swoI l) (Sn.isort_sorted Sn.swoI m)
theorem srtT_canon {l m : List (List Int)} (h : l.Perm m) : srtT l = srtT m :=
  Sn.sorted_eq Sn.lex_anti ((srtT_perm l).trans (h.trans (srtT_perm m).symm)) (Sn.isort_sorted (NtL.swo_lexL id) l) (Sn.isort_sorted (NtL.swo_lexL id) m)
theorem srt_srt (l : List Int) : srt (srt l) = srt l := srt_canon (srt_perm l)
theorem srt_le (l : List Int) : (srt l).Pairwise (· ≤ ·) := (Sn.isort_sorted Sn.swoI l).imp fun {a b} h => by unfold Sn.ltI at h; simp at h; exact h
end L34
end
section
set_option maxRecDepth 100000
/-! plain facts: unit propagation -/
namespace L34
open Md
structure Lits (n : Nat) (c : List Int) : Prop where
  lit : ∀ l ∈ c, (0 < l ∨ l < 0) ∧ -(n : Int) ≤ l ∧ l ≤ n
structure Whole (n : Nat) (w : List Int) : Prop where
  len : w.length = n
  lit : ∀ l ∈ w, (0 < l ∨ l < 0) ∧ -(n : Int) ≤ l ∧ l ≤ n
  one : ∀ v : Int, 1 ≤ v → v ≤ n → (-v ∈ w ↔ v ∉ w)
theorem Whole.neg {n : Nat} {w : List Int} (h : Whole n w) {l : Int} (hl : (0 < l ∨ l < 0) ∧ -(n : Int) ≤ l ∧ l ≤ n) : -l ∈ w ↔ l ∉ w := by
  rcases hl with ⟨h1 | h1, h2, h3⟩
  · exact h.one l (by omega) h3
  · have := h.one (-l) (by omega) (by omega)
    rw [Int.neg_neg] at this
    constructor
    · intro a b; exact (this.mp b) a
    · intro a
      refine Decidable.byContradiction fun b => a (this.mpr b)
theorem Whole.con {n : Nat} {w : List Int} (h : Whole n w) {l : Int} (hl : l ∈ w) : -l ∉ w := fun a => (h.neg (h.lit l hl)).mp a hl
theorem fals_whole {n : Nat} {w c : List Int} (h : Whole n w) (hc : Lits n c) : fals w c = !sats w c := by
  unfold fals sats
  rw [List.not_any_eq_all_not, Bool.eq_iff_iff, List.all_eq_true, List.all_eq_true]
  constructor
  · intro a l hl
    have := a l hl
    rw [decide_eq_true_eq, h.neg (hc.lit l hl)] at this
    rw [decide_eq_false this]; rfl
  · intro a l hl
    have := a l hl
    rw [decide_eq_true_eq, h.neg (hc.lit l hl)]
    intro b
    rw [decide_eq_true b] at this
    cases this
end L34
end
section
set_option maxRecDepth 100000
/-! plain facts: whole cubes, restricted formulas, sides -/
namespace L34
open Md
def cb : Nat → List (List Int)
  | 0 => [[]]
  | n + 1 => (cb n).map (· ++ [(n : Int) + 1]) ++ (cb n).map (· ++ [-((n : Int) + 1)])
theorem cb_whole : ∀ {n : Nat} {w : List Int}, w ∈ cb n → Whole n w
  | 0, w, h => by
    cases List.mem_singleton.mp h
    exact ⟨rfl, fun l hl => (by cases hl), fun v h1 h2 => (by omega)⟩
  | n + 1, w, h => by
    have key : ∀ (u : List Int) (x : Int), u ∈ cb n → (x = (n : Int) + 1 ∨ x = -((n : Int) + 1)) → Whole (n + 1) (u ++ [x]) := by
      intro u x hu hx
      have H := cb_whole hu
      refine ⟨by simp [H.len], fun l hl => ?_, fun v h1 h2 => ?_⟩
      · rcases List.mem_append.mp hl with hl | hl
        · have := H.lit l hl
          omega
        · rw [List.mem_singleton] at hl
          omega
      · have hv : ∀ y : Int, y ∈ u → y ≠ (n : Int) + 1 ∧ y ≠ -((n : Int) + 1) := fun y hy => by have := H.lit y hy; omega
        rw [List.mem_append, List.mem_append, List.mem_singleton, List.mem_singleton]
        by_cases e : v = (n : Int) + 1
        · have a1 : v ∉ u := fun a => (hv v a).1 e
          have a2 : -v ∉ u := fun a => (hv _ a).2 (by omega)
          simp only [a1, a2, false_or]
          omega
        · have := H.one v h1 (by omega)
          rw [this]
          have a1 : ¬ v = x := by omega
          have a2 : ¬ -v = x := by omega
          simp only [a1, a2, or_false]
    unfold cb at h
    rcases List.mem_append.mp h with h | h
    · obtain ⟨u, hu, rfl⟩ := List.mem_map.mp h
      exact key u _ hu (.inl rfl)
    · obtain ⟨u, hu, rfl⟩ := List.mem_map.mp h
      exact key u _ hu (.inr rfl)
theorem cb_all (a : Int → Bool) : ∀ n : Nat, ∃ w ∈ cb n, ∀ v : Int, 1 ≤ v → v ≤ n → (v ∈ w ↔ a v = true)
  | 0 => ⟨[], List.mem_singleton.mpr rfl, fun v h1 h2 => by omega⟩
  | n + 1 => by
    obtain ⟨w, hw, h⟩ := cb_all a n
    have hv : ∀ y : Int, y ∈ w → y ≠ (n : Int) + 1 ∧ y ≠ -((n : Int) + 1) := fun y hy => by have := (cb_whole hw).lit y hy; omega
    by_cases e : a ((n : Int) + 1) = true
    · refine ⟨w ++ [(n : Int) + 1], List.mem_append_left _ (List.mem_map.mpr ⟨w, hw, rfl⟩), fun v h1 h2 => ?_⟩
      rw [List.mem_append, List.mem_singleton]
      by_cases ev : v = (n : Int) + 1
      · simp [ev, e]
      · rw [h v h1 (by omega)]
        simp [ev]
    · refine ⟨w ++ [-((n : Int) + 1)], List.mem_append_right _ (List.mem_map.mpr ⟨w, hw, rfl⟩), fun v h1 h2 => ?_⟩
      rw [List.mem_append, List.mem_singleton]
      by_cases ev : v = (n : Int) + 1
      · have a1 : v ∉ w := fun a => (hv v a).1 ev
        have a2 : ¬ v = -((n : Int) + 1) := by omega
        subst ev
        simp [a1, a2, e]
      · rw [h v h1 (by omega)]
        have a2 : ¬ v = -((n : Int) + 1) := by omega
        simp only [a2, or_false]
def cubes (n : Nat) : List (List Int) := (cb n).map srt
theorem Whole.ext {n : Nat} {w u : List Int} (h : Whole n w) (hl : u.length = w.length) (he : ∀ l, l ∈ u ↔ l ∈ w) : Whole n u :=
  ⟨hl.trans h.len, fun l hl => h.lit l ((he l).mp hl), fun v h1 h2 => by rw [he, he]; exact h.one v h1 h2⟩
theorem cubes_whole {n : Nat} {w : List Int} (h : w ∈ cubes n) : Whole n w := by
  obtain ⟨u, hu, rfl⟩ := List.mem_map.mp h
  exact (cb_whole hu).ext (len_srt u) fun l => mem_srt
theorem cubes_all (a : Int → Bool) (n : Nat) : ∃ w ∈ cubes n, ∀ v : Int, 1 ≤ v → v ≤ n → (v ∈ w ↔ a v = true) := by
  obtain ⟨w, hw, h⟩ := cb_all a n
  exact ⟨srt w, List.mem_map.mpr ⟨w, hw, rfl⟩, fun v h1 h2 => by rw [mem_srt]; exact h v h1 h2⟩
theorem mem_dedup {α : Type} [DecidableEq α] {a : α} : ∀ {l : List α}, a ∈ dedup l ↔ a ∈ l
  | [] => Iff.rfl
  | x :: l => by
    have ih : a ∈ dedup l ↔ a ∈ l := mem_dedup
    unfold dedup
    split
    · rw [ih, List.mem_cons]
      constructor
      · exact .inr
      · rintro (rfl | h)
        · assumption
        · exact h
    · rw [List.mem_cons, List.mem_cons, ih]
theorem nodup_dedup {α : Type} [DecidableEq α] : ∀ l : List α, (dedup l).Nodup
  | [] => List.nodup_nil
  | x :: l => by
    have ih := nodup_dedup l
    unfold dedup
    split
    · exact ih
    · rename_i h
      exact List.nodup_cons.mpr ⟨fun a => h (mem_dedup.mp a), ih⟩
theorem dedup_len {α : Type} [DecidableEq α] : ∀ l : List α, (dedup l).length ≤ l.length
  | [] => Nat.le_refl _
  | x :: l => by
    have ih := dedup_len l
    unfold dedup
    split
    · simp only [List.length_cons]; omega
    · simp only [List.length_cons]; omega
theorem mem_canon {c : List Int} {l : List (List Int)} : c ∈ srtT (dedup l) ↔ c ∈ l := by rw [mem_srtT, mem_dedup]
theorem canon_len (l : List (List Int)) : (srtT (dedup l)).length ≤ l.length := by
  rw [(srtT_perm _).length_eq]
  exact dedup_len l
theorem sats_ext {w : List Int} {c d : List Int} (h : ∀ l, l ∈ c ↔ l ∈ d) : sats w c = sats w d := by
  unfold sats
  rw [Bool.eq_iff_iff, List.any_eq_true, List.any_eq_true]
  constructor
  · rintro ⟨l, h1, h2⟩; exact ⟨l, (h l).mp h1, h2⟩
  · rintro ⟨l, h1, h2⟩; exact ⟨l, (h l).mpr h1, h2⟩
def allS (w : List Int) (cs : List (List Int)) : Bool := cs.all fun c => sats w c
theorem allS_iff {w : List Int} {cs : List (List Int)} : allS w cs = true ↔ ∀ c ∈ cs, sats w c = true := List.all_eq_true
theorem allS_canon {w : List Int} (l : List (List Int)) : allS w (srtT (dedup l)) = allS w l := by
  rw [Bool.eq_iff_iff, allS_iff, allS_iff]
  exact ⟨fun h c hc => h c (mem_canon.mpr hc), fun h c hc => h c (mem_canon.mp hc)⟩
def inW (w f : List Int) : Prop := ∀ l ∈ f, l ∈ w
/-! the first falsified clause -/
theorem fst1_none {cube : List Int} {cs : List (List Int)} (h : ¬ 0 ≤ fst1 cube cs) : ∀ c ∈ cs, fals cube c = false := by
  unfold fst1 at h
  split at h
  · omega
  · rename_i e
    intro c hc
    obtain ⟨i, hi, he⟩ := List.mem_iff_getElem.mp hc
    have := List.find?_eq_none.mp e (c, i) (by
      rw [List.mem_zipIdx_iff_getElem?]
      exact List.getElem?_eq_some_iff.mpr ⟨hi, he⟩)
    simpa using this
theorem fst1_some {cube : List Int} {cs : List (List Int)} (h : 0 ≤ fst1 cube cs) : ∃ (i : Nat) (c : List Int), fst1 cube cs = (i : Int) ∧ cs[i]? = some c ∧ fals cube c = true := by
  unfold fst1 at h ⊢
  split at h
  · rename_i p e
    have h1 := List.mem_of_find?_eq_some e
    have h2 := List.find?_some e
    exact ⟨p.2, p.1, rfl, List.mem_zipIdx_iff_getElem?.mp h1, h2⟩
  · omega
end L34
end
section
set_option maxRecDepth 100000
/-! plain facts: search, sides, widths -/
namespace L34
open Md
/-- what search may be asked at -/
structure Cube (n : Nat) (c : List Int) : Prop where
  lit : ∀ l ∈ c, (0 < l ∨ l < 0) ∧ -(n : Int) ≤ l ∧ l ≤ n
  con : ∀ l ∈ c, -l ∉ c
theorem mem_free {n : Nat} {cube : List Int} {v : Int} : v ∈ free n cube ↔ (1 ≤ v ∧ v ≤ n) ∧ v ∉ cube ∧ -v ∉ cube := by
  unfold free
  rw [List.mem_filter, List.mem_map]
  constructor
  · rintro ⟨⟨i, hi, rfl⟩, h⟩
    have := List.mem_range.mp hi
    rw [Bool.and_eq_true] at h
    refine ⟨by omega, by simpa using h.1, by simpa using h.2⟩
  · rintro ⟨⟨h1, h2⟩, h3, h4⟩
    refine ⟨⟨(v - 1).toNat, List.mem_range.mpr (by omega), by omega⟩, ?_⟩
    rw [decide_eq_false h3, decide_eq_false h4]; rfl
theorem mem_add {c : List Int} {x l : Int} : l ∈ srt (c ++ [x]) ↔ l ∈ c ∨ l = x := by
  rw [mem_srt, List.mem_append, List.mem_singleton]
theorem Cube.add {n : Nat} {c : List Int} (h : Cube n c) {v x : Int} (hv : v ∈ free n c) (hx : x = v ∨ x = -v) : Cube n (srt (c ++ [x])) := by
  obtain ⟨⟨h1, h2⟩, h3, h4⟩ := mem_free.mp hv
  refine ⟨fun l hl => ?_, fun l hl hn => ?_⟩
  · rcases mem_add.mp hl with hl | hl
    · exact h.lit l hl
    · omega
  · rcases mem_add.mp hl with a | a
    · rcases mem_add.mp hn with b | b
      · exact h.con l a b
      · rcases hx with e | e
        · have : l = -v := by omega
          exact h4 (this ▸ a)
        · have : l = v := by omega
          exact h3 (this ▸ a)
    · rcases mem_add.mp hn with b | b
      · rcases hx with e | e
        · have : -l = -v := by omega
          exact h4 (this ▸ b)
        · have : -l = v := by omega
          exact h3 (this ▸ b)
      · omega
/-- a tree of questions, over the cube -/
def TrOk (n : Nat) (cs : List (List Int)) (b : Nat) : Tr → List Int → Prop
  | .leaf k, cube => cube.length ≤ b ∧ Cube n cube ∧ ∃ (i : Nat) (c : List Int), k = (i : Int) ∧ cs[i]? = some c ∧ fals cube c = true
  | .ask v lo hi, cube => cube.length ≤ b ∧ Cube n cube ∧ v ∈ free n cube ∧ TrOk n cs b lo (srt (cube ++ [-v])) ∧ TrOk n cs b hi (srt (cube ++ [v]))
theorem free_less {n : Nat} {c : List Int} {v x : Int} (hv : v ∈ free n c) (hx : x = v ∨ x = -v) : (free n (srt (c ++ [x]))).length < (free n c).length := by
  have key : ∀ (l : List Int), v ∈ l → ((l.filter fun u => !decide (u ∈ srt (c ++ [x])) && !decide (-u ∈ srt (c ++ [x]))).length) < (l.filter fun u => !decide (u ∈ c) && !decide (-u ∈ c)).length := by
    have le : ∀ l : List Int, ((l.filter fun u => !decide (u ∈ srt (c ++ [x])) && !decide (-u ∈ srt (c ++ [x]))).length) ≤ (l.filter fun u => !decide (u ∈ c) && !decide (-u ∈ c)).length := by
      intro l
      rw [← List.countP_eq_length_filter, ← List.countP_eq_length_filter]
      refine List.countP_mono_left fun u _ hu => ?_
      simp only [Bool.and_eq_true, Bool.not_eq_true', decide_eq_false_iff_not, mem_add, not_or] at hu ⊢
      exact ⟨hu.1.1, hu.2.1⟩
    intro l
    induction l with
    | nil => intro h; cases h
    | cons a l ih =>
      intro h
      rw [List.filter_cons, List.filter_cons]
      by_cases e : a = v
      · subst e
        obtain ⟨_, h3, h4⟩ := mem_free.mp hv
        have a1 : (!decide (a ∈ c) && !decide (-a ∈ c)) = true := by rw [decide_eq_false h3, decide_eq_false h4]; rfl
        have a2 : (!decide (a ∈ srt (c ++ [x])) && !decide (-a ∈ srt (c ++ [x]))) = false := by
          rcases hx with rfl | rfl
          · have : x ∈ srt (c ++ [x]) := mem_add.mpr (.inr rfl)
            rw [decide_eq_true this]; rfl
          · have : -a ∈ srt (c ++ [-a]) := mem_add.mpr (.inr rfl)
            rw [decide_eq_true this]; simp
        rw [if_pos a1, a2]
        have := le l
        simp only [Bool.false_eq_true, if_false, List.length_cons]
        omega
      · have ih := ih (by rcases List.mem_cons.mp h with h | h; exact absurd h.symm e; exact h)
        by_cases a1 : (!decide (a ∈ c) && !decide (-a ∈ c)) = true
        · rw [if_pos a1]
          split
          · simp only [List.length_cons]; omega
          · simp only [List.length_cons]; omega
        · rw [if_neg a1]
          rw [if_neg]
          · exact ih
          · intro hu
            apply a1
            simp only [Bool.and_eq_true, Bool.not_eq_true', decide_eq_false_iff_not, mem_add, not_or] at hu ⊢
            exact ⟨hu.1.1, hu.2.1⟩
  exact key _ (List.mem_filter.mp hv).1
/-- search ends, and what it gives -/
theorem sr_ok {n b : Nat} {cs : List (List Int)} : ∀ (m : Nat) (cube : List Int), Cube n cube → (free n cube).length < m → cube.length + m ≤ b + 1 → ∃ r, sr n cs m cube = some r ∧ match r with
    | .inl w => (∀ v : Int, 1 ≤ v → v ≤ n → v ∈ w ∨ -v ∈ w) ∧ (∀ l ∈ w, -l ∉ w) ∧ ∀ c ∈ cs, fals w c = false
    | .inr t => TrOk n cs b t cube
  | 0, cube, _, h, _ => by omega
  | m + 1, cube, hC, h, hb => by
    unfold sr
    by_cases h0 : 0 ≤ fst1 cube cs
    · rw [if_pos h0]
      obtain ⟨i, c, h1, h2, h3⟩ := fst1_some h0
      exact ⟨_, rfl, by omega, hC, i, c, h1, h2, h3⟩
    · rw [if_neg h0]
      cases hf : free n cube with
      | nil =>
        refine ⟨_, rfl, fun v h1 h2 => ?_, hC.con, fst1_none h0⟩
        refine Decidable.byContradiction fun a => ?_
        rw [not_or] at a
        have : v ∈ free n cube := mem_free.mpr ⟨⟨h1, h2⟩, a⟩
        rw [hf] at this
        cases this
      | cons v t =>
        have hv : v ∈ free n cube := by rw [hf]; exact List.mem_cons_self
        have l1 := free_less (x := -v) hv (.inr rfl)
        have l2 := free_less (x := v) hv (.inl rfl)
        have e1 : (srt (cube ++ [-v])).length = cube.length + 1 := by rw [len_srt]; simp
        have e2 : (srt (cube ++ [v])).length = cube.length + 1 := by rw [len_srt]; simp
        obtain ⟨r1, h1, p1⟩ := sr_ok (cs := cs) (b := b) m _ (hC.add hv (.inr rfl)) (by omega) (by omega)
        obtain ⟨r2, h2, p2⟩ := sr_ok (cs := cs) (b := b) m _ (hC.add hv (.inl rfl)) (by omega) (by omega)
        simp only [h1, h2]
        cases r1 with
        | inl w => exact ⟨_, rfl, p1⟩
        | inr lo =>
          cases r2 with
          | inl w => exact ⟨_, rfl, p2⟩
          | inr hi => exact ⟨_, rfl, by omega, hC, hv, p1, p2⟩
/-- a tree leaves no model -/
theorem tr_none {n b : Nat} {cs : List (List Int)} {w : List Int} (W : Whole n w) (hs : allS w cs = true) : ∀ (t : Tr) (cube : List Int), TrOk n cs b t cube → inW w cube → False
  | .leaf k, cube, h, hi => by
    obtain ⟨_, _, i, c, _, h2, h3⟩ := h
    have := allS_iff.mp hs c (List.mem_of_getElem? h2)
    unfold sats at this
    unfold fals at h3
    obtain ⟨l, h4, h5⟩ := List.any_eq_true.mp this
    have := List.all_eq_true.mp h3 l h4
    exact W.con (of_decide_eq_true h5) (hi _ (of_decide_eq_true this))
  | .ask v lo hi, cube, h, hi' => by
    obtain ⟨_, _, hv, h1, h2⟩ := h
    obtain ⟨⟨a1, a2⟩, _⟩ := mem_free.mp hv
    by_cases hw : v ∈ w
    · refine tr_none W hs hi _ h2 fun l hl => ?_
      rcases mem_add.mp hl with hl | hl
      · exact hi' l hl
      · rw [hl]; exact hw
    · refine tr_none W hs lo _ h1 fun l hl => ?_
      rcases mem_add.mp hl with hl | hl
      · exact hi' l hl
      · rw [hl]; exact (W.one v a1 a2).mpr hw
theorem free_len (n : Nat) (c : List Int) : (free n c).length ≤ n := by
  unfold free
  refine Nat.le_trans (List.length_filter_le _ _) ?_
  simp
theorem cube_nil (n : Nat) : Cube n [] := ⟨fun l h => (by cases h), fun l h => (by cases h)⟩
/-- search from the start -/
theorem sr_start {n : Nat} {cs : List (List Int)} (hn : n ≤ 4) : ∃ r, sr n cs 5 [] = some r ∧ match r with
    | .inl w => (∀ v : Int, 1 ≤ v → v ≤ n → v ∈ w ∨ -v ∈ w) ∧ (∀ l ∈ w, -l ∉ w) ∧ ∀ c ∈ cs, fals w c = false
    | .inr t => TrOk n cs 5 t [] := sr_ok (b := 5) 5 [] (cube_nil n) (by have := free_len n []; omega) (by simp)
/-- with a whole assignment, what is not falsified is satisfied -/
theorem sats_of {n : Nat} {w c : List Int} (hw : ∀ v : Int, 1 ≤ v → v ≤ n → v ∈ w ∨ -v ∈ w) (hc : Lits n c) (h : fals w c = false) : sats w c = true := by
  unfold fals at h
  rw [← Bool.not_eq_true, List.all_eq_true] at h
  refine Decidable.byContradiction fun a => h fun l hl => ?_
  refine decide_eq_true ?_
  obtain ⟨h1, h2, h3⟩ := hc.lit l hl
  have hn : l ∉ w := fun b => a (List.any_eq_true.mpr ⟨l, hl, decide_eq_true b⟩)
  rcases h1 with h1 | h1
  · exact (hw l (by omega) h3).resolve_left hn
  · have := hw (-l) (by omega) (by omega)
    rw [Int.neg_neg] at this
    exact this.resolve_right hn
/-! widths -/
theorem maxL_le {b : Int} : ∀ {l : List Int}, 0 ≤ b → (∀ x ∈ l, x ≤ b) → maxL l 0 ≤ b
  | [], h, _ => h
  | [x], _, h => h x List.mem_cons_self
  | x :: y :: l, h0, h => by
    have ih := maxL_le h0 fun z hz => h z (List.mem_cons_of_mem x hz)
    have := h x List.mem_cons_self
    show max x (maxL (y :: l) 0) ≤ b
    omega
theorem le_maxL {x : Int} : ∀ {l : List Int}, x ∈ l → x ≤ maxL l 0
  | [], h => by cases h
  | [y], h => by rw [List.mem_singleton] at h; rw [h]; exact Int.le_refl _
  | y :: z :: l, h => by
    show x ≤ max y (maxL (z :: l) 0)
    rcases List.mem_cons.mp h with h | h
    · omega
    · have := le_maxL h
      omega
theorem maxL_pos : ∀ {l : List Int}, (∀ x ∈ l, 0 ≤ x) → 0 ≤ maxL l 0
  | [], _ => Int.le_refl _
  | x :: l, h => Int.le_trans (h x List.mem_cons_self) (le_maxL List.mem_cons_self)
/-! sides -/
theorem perm_of_mem {α : Type} [DecidableEq α] : ∀ {l m : List α}, l.Nodup → m.Nodup → (∀ a, a ∈ l ↔ a ∈ m) → l.Perm m := by
  intro l m h1 h2 h
  exact (List.perm_ext_iff_of_nodup h1 h2).mpr h
theorem canon_eq {l m : List (List Int)} (h : ∀ a, a ∈ l ↔ a ∈ m) : srtT (dedup l) = srtT (dedup m) :=
  srtT_canon (perm_of_mem (nodup_dedup l) (nodup_dedup m) fun a => by rw [mem_dedup, mem_dedup, h])
/-! the clause and its negation -/
end L34
end
section
set_option maxRecDepth 100000
/-! plain facts: polynomials over two elements -/
namespace L34
open Md
abbrev Po := List (List Int)
/-- the value of a polynomial -/
def pv (a : Int → Bool) : Po → Bool
  | [] => false
  | m :: p => (m.all a).xor (pv a p)
def pl (p q : Po) : Po := srtT ((p ++ q).filter fun m => decide (m ∈ p) != decide (m ∈ q))
def mon (m : List Int) : List Int := srt (dedup m)
def tm (p : Po) (m : List Int) : Po := p.foldl (fun f o => pl f [mon (o ++ m)]) []
def tp (p q : Po) : Po := q.foldl (fun f m => pl f (tm p m)) []
def lf (l : Int) : Po := if 0 < l then [[], [l]] else [[-l]]
def cp (c : List Int) : Po := c.foldl (fun f l => tp f (lf l)) [[]]
def dg (p : Po) : Int := maxL (p.map fun m => (m.length : Int)) (-1)
/-- a monomial over 1..k -/
structure Mo (k : Nat) (m : List Int) : Prop where
  inc : m.Pairwise (· < ·)
  rng : ∀ v ∈ m, 1 ≤ v ∧ v ≤ k
structure Can (k : Nat) (p : Po) : Prop where
  nod : p.Nodup
  srt : srtT p = p
  mo : ∀ m ∈ p, Mo k m
theorem pv_append (a : Int → Bool) : ∀ p q : Po, pv a (p ++ q) = (pv a p).xor (pv a q)
  | [], q => by simp [pv]
  | m :: p, q => by
    show (m.all a).xor (pv a (p ++ q)) = ((m.all a).xor (pv a p)).xor (pv a q)
    rw [pv_append a p q, Bool.xor_assoc]
theorem pv_perm (a : Int → Bool) {p q : Po} (h : p.Perm q) : pv a p = pv a q := by
  induction h with
  | nil => rfl
  | cons x _ ih => show (x.all a).xor _ = (x.all a).xor _; rw [ih]
  | swap x y l =>
    show (y.all a).xor ((x.all a).xor _) = (x.all a).xor ((y.all a).xor _)
    rw [← Bool.xor_assoc, ← Bool.xor_assoc, Bool.xor_comm (y.all a)]
  | trans _ _ ih1 ih2 => rw [ih1, ih2]
theorem pv_split (a : Int → Bool) (f : List Int → Bool) : ∀ p : Po, pv a p = (pv a (p.filter f)).xor (pv a (p.filter fun m => !f m))
  | [] => rfl
  | m :: p => by
    have ih := pv_split a f p
    show (m.all a).xor (pv a p) = _
    rw [List.filter_cons, List.filter_cons, ih]
    cases f m with
    | true =>
      simp only [Bool.not_true, Bool.false_eq_true, if_false, if_true]
      show _ = ((m.all a).xor _).xor _
      rw [Bool.xor_assoc]
    | false =>
      simp only [Bool.not_false, Bool.false_eq_true, if_false, if_true]
      show _ = Bool.xor _ ((m.all a).xor _)
      rw [← Bool.xor_assoc, ← Bool.xor_assoc, Bool.xor_comm (m.all a)]
theorem mem_pl {p q : Po} {m : List Int} : m ∈ pl p q ↔ (m ∈ p ∧ m ∉ q) ∨ (m ∉ p ∧ m ∈ q) := by
  unfold pl
  rw [mem_srtT, List.mem_filter, List.mem_append]
  by_cases h1 : m ∈ p <;> by_cases h2 : m ∈ q <;> simp [h1, h2]
theorem pl_perm (p q : Po) : (pl p q).Perm ((p.filter fun m => !decide (m ∈ q)) ++ (q.filter fun m => !decide (m ∈ p))) := by
  unfold pl
  refine (srtT_perm _).trans ?_
  rw [List.filter_append]
  have e1 : p.filter (fun m => decide (m ∈ p) != decide (m ∈ q)) = p.filter fun m => !decide (m ∈ q) := List.filter_congr fun m hm => by simp [hm]
  have e2 : q.filter (fun m => decide (m ∈ p) != decide (m ∈ q)) = q.filter fun m => !decide (m ∈ p) := List.filter_congr fun m hm => by simp [hm]
  rw [e1, e2]
theorem pv_pl (a : Int → Bool) {p q : Po} (hp : p.Nodup) (hq : q.Nodup) : pv a (pl p q) = (pv a p).xor (pv a q) := by
  rw [pv_perm a (pl_perm p q), pv_append, pv_split a (fun m => decide (m ∈ q)) p, pv_split a (fun m => decide (m ∈ p)) q]
  have e : pv a (p.filter fun m => decide (m ∈ q)) = pv a (q.filter fun m => decide (m ∈ p)) := pv_perm a (perm_of_mem (hp.filter _) (hq.filter _) fun m => by
    rw [List.mem_filter, List.mem_filter, decide_eq_true_eq, decide_eq_true_eq, and_comm])
  rw [e]
  cases pv a (q.filter fun m => decide (m ∈ p)) <;> cases pv a (p.filter fun m => !decide (m ∈ q)) <;> cases pv a (q.filter fun m => !decide (m ∈ p)) <;> rfl
theorem srtT_srtT (l : Po) : srtT (srtT l) = srtT l := srtT_canon (srtT_perm l)
theorem nodup_pl {p q : Po} (hp : p.Nodup) (hq : q.Nodup) : (pl p q).Nodup := by
  rw [(pl_perm p q).nodup_iff, List.nodup_append]
  refine ⟨hp.filter _, hq.filter _, fun m hm m' hm' e => ?_⟩
  subst e
  have h1 := (List.mem_filter.mp hm)
  have h2 := (List.mem_filter.mp hm')
  have : m ∉ q := by simpa using h1.2
  exact this h2.1
theorem can_nil (k : Nat) : Can k [] := ⟨List.nodup_nil, srtT_canon (l := []) (m := []) (List.Perm.refl _) |> fun _ => (List.Perm.eq_nil (srtT_perm [])), fun m h => by cases h⟩
theorem can_pl {k : Nat} {p q : Po} (hp : Can k p) (hq : Can k q) : Can k (pl p q) :=
  ⟨nodup_pl hp.nod hq.nod, by unfold pl; exact srtT_srtT _, fun m hm => by
    rcases mem_pl.mp hm with ⟨h, _⟩ | ⟨_, h⟩
    · exact hp.mo m h
    · exact hq.mo m h⟩
theorem can_one {k : Nat} {m : List Int} (h : Mo k m) : Can k [m] := ⟨by simp, List.perm_singleton.mp (srtT_perm [m]), fun m' hm => by rw [List.mem_singleton.mp hm]; exact h⟩
theorem srt_ltN {l : List Int} (h : l.Nodup) : (srt l).Pairwise (· < ·) := by
  have h2 : (srt l).Nodup := ((srt_perm l).nodup_iff).mpr h
  exact ((srt_le l).and h2).imp fun {a b} ⟨h, g⟩ => by
    have : a ≠ b := g
    omega
theorem mem_mon {m : List Int} {v : Int} : v ∈ mon m ↔ v ∈ m := by unfold mon; rw [mem_srt, mem_dedup]
theorem mo_mon {k : Nat} {m : List Int} (h : ∀ v ∈ m, 1 ≤ v ∧ v ≤ k) : Mo k (mon m) := ⟨srt_ltN (nodup_dedup m), fun v hv => h v (mem_mon.mp hv)⟩
theorem mon_all (a : Int → Bool) (m : List Int) : (mon m).all a = m.all a := by
  rw [Bool.eq_iff_iff, List.all_eq_true, List.all_eq_true]
  exact ⟨fun h v hv => h v (mem_mon.mpr hv), fun h v hv => h v (mem_mon.mp hv)⟩
theorem can_tmF {k : Nat} {m : List Int} (hm : ∀ v ∈ m, 1 ≤ v ∧ v ≤ k) : ∀ (p f : Po), (∀ x ∈ p, ∀ v ∈ x, 1 ≤ v ∧ v ≤ (k : Int)) → Can k f → Can k (p.foldl (fun f o => pl f [mon (o ++ m)]) f)
  | [], f, _, hf => hf
  | x :: p, f, hp, hf => by
    rw [List.foldl_cons]
    refine can_tmF hm p _ (fun y hy => hp y (List.mem_cons_of_mem _ hy)) (can_pl hf (can_one (mo_mon fun v hv => ?_)))
    rcases List.mem_append.mp hv with h | h
    · exact hp x List.mem_cons_self v h
    · exact hm v h
theorem can_tm {k : Nat} {p : Po} {m : List Int} (hp : Can k p) (hm : Mo k m) : Can k (tm p m) := can_tmF hm.rng p [] (fun x hx => (hp.mo x hx).rng) (can_nil k)
theorem pv_tmF (a : Int → Bool) (m : List Int) : ∀ (p f : Po), f.Nodup → pv a (p.foldl (fun f o => pl f [mon (o ++ m)]) f) = (pv a f).xor (pv a p && m.all a) ∧ (p.foldl (fun f o => pl f [mon (o ++ m)]) f).Nodup
  | [], f, hf => ⟨by simp [pv], hf⟩
  | x :: p, f, hf => by
    have h1 : ([mon (x ++ m)] : Po).Nodup := by simp
    obtain ⟨h2, h3⟩ := pv_tmF a m p (pl f [mon (x ++ m)]) (nodup_pl hf h1)
    rw [List.foldl_cons]
    refine ⟨?_, h3⟩
    rw [h2, pv_pl a hf h1]
    show Bool.xor (Bool.xor _ (Bool.xor ((mon (x ++ m)).all a) false)) _ = Bool.xor _ (Bool.xor (x.all a) (pv a p) && m.all a)
    rw [mon_all, List.all_append]
    cases pv a f <;> cases x.all a <;> cases m.all a <;> cases pv a p <;> rfl
theorem pv_tm (a : Int → Bool) (p : Po) (m : List Int) : pv a (tm p m) = (pv a p && m.all a) := by
  have := (pv_tmF a m p [] List.nodup_nil).1
  unfold tm
  rw [this]
  simp [pv]
theorem nodup_tm (p : Po) (m : List Int) : (tm p m).Nodup := (pv_tmF (fun _ => false) m p [] List.nodup_nil).2
theorem can_tpF {k : Nat} {p : Po} (hp : Can k p) : ∀ (q f : Po), (∀ x ∈ q, Mo k x) → Can k f → Can k (q.foldl (fun f m => pl f (tm p m)) f)
  | [], f, _, hf => hf
  | x :: q, f, hq, hf => by
    rw [List.foldl_cons]
    exact can_tpF hp q _ (fun y hy => hq y (List.mem_cons_of_mem _ hy)) (can_pl hf (can_tm hp (hq x List.mem_cons_self)))
theorem can_tp {k : Nat} {p q : Po} (hp : Can k p) (hq : Can k q) : Can k (tp p q) := can_tpF hp q [] hq.mo (can_nil k)
theorem pv_tpF (a : Int → Bool) (p : Po) : ∀ (q f : Po), f.Nodup → pv a (q.foldl (fun f m => pl f (tm p m)) f) = (pv a f).xor (pv a p && pv a q)
  | [], f, hf => by simp [pv]
  | x :: q, f, hf => by
    rw [List.foldl_cons, pv_tpF a p q _ (nodup_pl hf (nodup_tm p x)), pv_pl a hf (nodup_tm p x), pv_tm]
    show _ = Bool.xor _ (_ && Bool.xor (x.all a) (pv a q))
    cases pv a f <;> cases x.all a <;> cases pv a p <;> cases pv a q <;> rfl
theorem pv_tp (a : Int → Bool) (p q : Po) : pv a (tp p q) = (pv a p && pv a q) := by
  unfold tp
  rw [pv_tpF a p q [] List.nodup_nil]
  simp [pv]
/-! literals, clauses -/
def lv (a : Int → Bool) (l : Int) : Bool := if 0 < l then a l else !a (-l)
theorem can_lf {k : Nat} {l : Int} (h : (0 < l ∨ l < 0) ∧ -(k : Int) ≤ l ∧ l ≤ k) : Can k (lf l) := by
  unfold lf
  split
  · have e : srtT [[], [l]] = [[], [l]] := by rfl
    refine ⟨by simp, e, fun m hm => ?_⟩
    rcases List.mem_cons.mp hm with rfl | hm
    · exact ⟨List.Pairwise.nil, fun v hv => by cases hv⟩
    · rw [List.mem_singleton.mp hm]
      exact ⟨by simp, fun v hv => by rw [List.mem_singleton.mp hv]; omega⟩
  · exact can_one ⟨by simp, fun v hv => by rw [List.mem_singleton.mp hv]; omega⟩
theorem pv_lf (a : Int → Bool) (l : Int) : pv a (lf l) = !lv a l := by
  unfold lf lv
  split
  · simp [pv]
  · simp [pv]
theorem can_unit (k : Nat) : Can k [[]] := can_one ⟨List.Pairwise.nil, fun v hv => by cases hv⟩
theorem can_cpF {k : Nat} : ∀ (c : List Int) (f : Po), Lits k c → Can k f → Can k (c.foldl (fun f l => tp f (lf l)) f)
  | [], f, _, hf => hf
  | l :: c, f, hc, hf => by
    rw [List.foldl_cons]
    exact can_cpF c _ ⟨fun x hx => hc.lit x (List.mem_cons_of_mem _ hx)⟩ (can_tp hf (can_lf (hc.lit l List.mem_cons_self)))
theorem can_cp {k : Nat} {c : List Int} (h : Lits k c) : Can k (cp c) := can_cpF c [[]] h (can_unit k)
theorem pv_cpF (a : Int → Bool) : ∀ (c : List Int) (f : Po), pv a (c.foldl (fun f l => tp f (lf l)) f) = (pv a f && c.all fun l => !lv a l)
  | [], f => by simp
  | l :: c, f => by
    rw [List.foldl_cons, pv_cpF a c, pv_tp, pv_lf, List.all_cons, Bool.and_assoc]
theorem pv_cp (a : Int → Bool) (c : List Int) : pv a (cp c) = c.all fun l => !lv a l := by
  unfold cp
  rw [pv_cpF]
  simp [pv]
/-! polynomials are told apart by their values -/
theorem inc_eq : ∀ {a b : List Int}, a.Pairwise (· < ·) → b.Pairwise (· < ·) → (∀ v, v ∈ a ↔ v ∈ b) → a = b := by
  intro a b ha hb h
  have hp : a.Perm b := perm_of_mem (ha.imp fun {x y} h => by omega) (hb.imp fun {x y} h => by omega) h
  exact List.Perm.eq_of_pairwise (le := fun x y => x < y) (fun x y _ _ h1 h2 => by omega) ha hb hp
theorem sub_len : ∀ {l m : List Int}, l.Nodup → (∀ x ∈ l, x ∈ m) → l.length ≤ m.length
  | [], _, _, _ => Nat.zero_le _
  | a :: l, m, h, hr => by
    obtain ⟨h3, h4⟩ := List.nodup_cons.mp h
    have hl := hr a List.mem_cons_self
    have := sub_len (m := m.erase a) h4 fun x hx => (List.mem_erase_of_ne (fun e => h3 (by rw [← e]; exact hx))).mpr (hr x (List.mem_cons_of_mem _ hx))
    rw [List.length_erase_of_mem hl] at this
    have := List.length_pos_of_mem hl
    rw [List.length_cons]
    omega
theorem inc_nodup {a : List Int} (h : a.Pairwise (· < ·)) : a.Nodup := h.imp fun {x y} h => by omega
/-- of two increasing lists, one in the other and not shorter: equal -/
theorem sub_eq {a b : List Int} (ha : a.Pairwise (· < ·)) (hb : b.Pairwise (· < ·)) (h : ∀ x ∈ a, x ∈ b) (hl : b.length ≤ a.length) : a = b := by
  refine inc_eq ha hb fun v => ⟨h v, fun hv => ?_⟩
  refine Decidable.byContradiction fun hn => ?_
  have := sub_len (l := v :: a) (m := b) (List.nodup_cons.mpr ⟨hn, inc_nodup ha⟩) (fun x hx => by
    rcases List.mem_cons.mp hx with rfl | hx
    · exact hv
    · exact h x hx)
  rw [List.length_cons] at this
  omega
theorem min_mem : ∀ {p : Po}, p ≠ [] → ∃ m ∈ p, ∀ x ∈ p, m.length ≤ x.length
  | [], h => absurd rfl h
  | [m], _ => ⟨m, List.mem_cons_self, fun x hx => by rw [List.mem_singleton.mp hx]; exact Nat.le_refl _⟩
  | m :: m' :: p, _ => by
    obtain ⟨y, h1, h2⟩ := min_mem (p := m' :: p) (by simp)
    rcases Nat.lt_or_ge m.length y.length with h | h
    · refine ⟨m, List.mem_cons_self, fun x hx => ?_⟩
      rcases List.mem_cons.mp hx with rfl | hx
      · exact Nat.le_refl _
      · have := h2 x hx; omega
    · refine ⟨y, List.mem_cons_of_mem _ h1, fun x hx => ?_⟩
      rcases List.mem_cons.mp hx with rfl | hx
      · exact h
      · exact h2 x hx
theorem pv_none (a : Int → Bool) : ∀ {p : Po}, (∀ x ∈ p, x.all a = false) → pv a p = false
  | [], _ => rfl
  | x :: p, h => by
    show (x.all a).xor (pv a p) = false
    rw [h x List.mem_cons_self, pv_none a fun y hy => h y (List.mem_cons_of_mem _ hy)]
    rfl
theorem pv_only (a : Int → Bool) {m : List Int} (hm : m.all a = true) : ∀ {p : Po}, p.Nodup → m ∈ p → (∀ x ∈ p, x.all a = true → x = m) → pv a p = true
  | [], _, h, _ => by cases h
  | x :: p, hn, h, hu => by
    obtain ⟨h1, h2⟩ := List.nodup_cons.mp hn
    show (x.all a).xor (pv a p) = true
    by_cases e : x = m
    · subst e
      rw [hm, pv_none a fun y hy => ?_]
      · rfl
      · rw [← Bool.not_eq_true]
        intro hy2
        have := hu y (List.mem_cons_of_mem _ hy) hy2
        exact h1 (this ▸ hy)
    · have hx : x.all a = false := by
        rw [← Bool.not_eq_true]
        exact fun hx => e (hu x List.mem_cons_self hx)
      rw [hx, pv_only a hm h2 ((List.mem_cons.mp h).resolve_left fun e2 => e e2.symm) fun y hy => hu y (List.mem_cons_of_mem _ hy)]
      rfl
theorem zero_of {k : Nat} {p : Po} (hp : Can k p) (h : ∀ a, pv a p = false) : p = [] := by
  refine Decidable.byContradiction fun hne => ?_
  obtain ⟨m, h1, h2⟩ := min_mem hne
  have := pv_only (fun v => decide (v ∈ m)) (m := m) (List.all_eq_true.mpr fun v hv => decide_eq_true hv) hp.nod h1 fun x hx hxa => by
    have hxm : ∀ v ∈ x, v ∈ m := fun v hv => of_decide_eq_true (List.all_eq_true.mp hxa v hv)
    exact sub_eq (hp.mo x hx).inc (hp.mo m h1).inc hxm (h2 x hx)
  rw [h] at this
  cases this
theorem po_eq {k : Nat} {p q : Po} (hp : Can k p) (hq : Can k q) (h : ∀ a, pv a p = pv a q) : p = q := by
  have h0 := zero_of (can_pl hp hq) fun a => by rw [pv_pl a hp.nod hq.nod, h a, Bool.xor_self]
  have hm : ∀ m, m ∈ p ↔ m ∈ q := fun m => by
    have : m ∉ pl p q := by rw [h0]; exact List.not_mem_nil
    rw [mem_pl] at this
    constructor
    · intro h1
      exact Decidable.byContradiction fun h2 => this (.inl ⟨h1, h2⟩)
    · intro h1
      exact Decidable.byContradiction fun h2 => this (.inr ⟨h2, h1⟩)
  rw [← hp.srt, ← hq.srt]
  exact srtT_canon (perm_of_mem hp.nod hq.nod hm)
theorem pl_self {k : Nat} {p : Po} (hp : Can k p) : pl p p = [] := zero_of (can_pl hp hp) fun a => by rw [pv_pl a hp.nod hp.nod, Bool.xor_self]
theorem pl_nil {k : Nat} {p : Po} (hp : Can k p) : pl p [] = p := po_eq (can_pl hp (can_nil k)) hp fun a => by rw [pv_pl a hp.nod List.nodup_nil]; simp [pv]
theorem tp_self {k : Nat} {p : Po} (hp : Can k p) : tp p p = p := po_eq (can_tp hp hp) hp fun a => by rw [pv_tp, Bool.and_self]
end L34
end
section
set_option maxRecDepth 100000
set_option maxHeartbeats 1000000
namespace L34
open PySem PySem.Spec PyProof.Rows Md
variable (n : Nat) (q : Int) (cs : List (List Int)) (st : List D) (cl : List (List Int))
@[simp] theorem lk_formula (x y z : D) : List.lookup (Str.ofString "formula") [(Str.ofString "formula", x), (Str.ofString "steps", y), (Str.ofString "clauses", z)] = some x := by kernel_rfl
@[simp] theorem lk_steps (x y z : D) : List.lookup (Str.ofString "steps") [(Str.ofString "formula", x), (Str.ofString "steps", y), (Str.ofString "clauses", z)] = some y := by kernel_rfl
@[simp] theorem lk_clauses (x y z : D) : List.lookup (Str.ofString "clauses") [(Str.ofString "formula", x), (Str.ofString "steps", y), (Str.ofString "clauses", z)] = some z := by kernel_rfl
@[simp] theorem lk_add (x y z : D) : List.lookup (Str.ofString "add") [(Str.ofString "formula", x), (Str.ofString "steps", y), (Str.ofString "clauses", z)] = none := by kernel_rfl
@[simp] theorem lk_resolve (x y z : D) : List.lookup (Str.ofString "resolve") [(Str.ofString "formula", x), (Str.ofString "steps", y), (Str.ofString "clauses", z)] = none := by kernel_rfl
theorem c_add (d : D) (c : List Int) (h : Γ n ("next_clause", none) [fm q cs, .ref 2, d] (SS q cs st cl) = some (ti c, SS q cs st cl)) (h1 : st.length < 1000) (h2 : cl.length < 1000) :
    Γ (n + 1) ("Shortener", some "add") [.ref 0, d] (SS q cs st cl) = some (.int (st.length : Int), SS q cs (st ++ [d]) (cl ++ [c])) := by
  have l1 : st.length < cap := by unfold cap; omega
  have l2 : cl.length < cap := by unfold cap; omega
  refine call_raw p_Shortener_add rfl (by decide) ?_
  simp [h, bmRecv, lstOf, bmop, op1, hd, appendM, biop, lenB, lenOf, l1, l2]
/-- what a written clause is like -/
def Good (cube c : List Int) : Prop := c.Nodup ∧ ∀ l ∈ c, -l ∈ cube
theorem nodup_len : ∀ {c cube : List Int}, c.Nodup → (∀ l ∈ c, -l ∈ cube) → c.length ≤ cube.length
  | [], _, _, _ => Nat.zero_le _
  | l :: t, cube, h, hc => by
    obtain ⟨h1, h2⟩ := List.nodup_cons.mp h
    have hl := hc l List.mem_cons_self
    have := nodup_len (cube := cube.erase (-l)) h2 fun x hx => (List.mem_erase_of_ne (by
      intro e
      have : x = l := by omega
      exact h1 (this ▸ hx))).mpr (hc x (List.mem_cons_of_mem _ hx))
    rw [List.length_erase_of_mem hl] at this
    have := List.length_pos_of_mem hl
    rw [List.length_cons]
    omega
theorem good_mc {cube ca cb : List Int} {v : Int} (hcon : ∀ l ∈ cube, -l ∉ cube) (ha : Good (srt (cube ++ [-v])) ca) (hb : Good (srt (cube ++ [v])) cb) : ∃ c, mc (resL ca cb v) = ti c ∧ Good cube c ∧ (∀ x ∈ ca, x = v ∨ x ∈ c) ∧ ∀ x ∈ cb, x = -v ∨ x ∈ c := by
  have hm : ∀ l ∈ resL ca cb v, -l ∈ cube := by
    intro l hl
    unfold resL at hl
    rcases List.mem_append.mp hl with hl | hl
    · obtain ⟨h1, h2⟩ := List.mem_filter.mp hl
      have h2 : ¬ l = v := by simpa using h2
      rcases mem_add.mp (ha.2 l h1) with h | h
      · exact h
      · omega
    · obtain ⟨h1, h2⟩ := List.mem_filter.mp hl
      have h2 : ¬ l = -v := by simpa using h2
      rcases mem_add.mp (hb.2 l h1) with h | h
      · exact h
      · omega
  refine ⟨srt (dedup (resL ca cb v)), ?_, ⟨?_, ?_⟩, fun x hx => ?_, fun x hx => ?_⟩
  · unfold mc
    rw [if_neg]
    rw [Bool.not_eq_true, List.any_eq_false]
    intro a ha
    rw [decide_eq_true_eq]
    intro hn
    have := hm _ hn
    rw [Int.neg_neg] at this
    exact hcon a this (hm a ha)
  · exact ((srt_perm _).nodup_iff).mpr (nodup_dedup _)
  · intro l hl
    rw [mem_srt, mem_dedup] at hl
    exact hm l hl
  · by_cases e : x = v
    · exact .inl e
    · right
      rw [mem_srt, mem_dedup]
      exact List.mem_append_left _ (List.mem_filter.mpr ⟨hx, by simp [e]⟩)
  · by_cases e : x = -v
    · exact .inl e
    · right
      rw [mem_srt, mem_dedup]
      exact List.mem_append_right _ (List.mem_filter.mpr ⟨hx, by simp [e]⟩)
def Tr.dep : Tr → Nat
  | .leaf _ => 0
  | .ask _ lo hi => max lo.dep hi.dep + 1
def Tr.sz : Tr → Nat
  | .leaf _ => 1
  | .ask _ lo hi => lo.sz + hi.sz + 1
theorem dep_le {m b : Nat} {cs : List (List Int)} : ∀ {t : Tr} {cube : List Int}, TrOk m cs b t cube → t.dep ≤ (free m cube).length
  | .leaf _, _, _ => Nat.zero_le _
  | .ask v lo hi, cube, ⟨_, _, hv, h1, h2⟩ => by
    have := dep_le h1
    have := dep_le h2
    have := free_less (x := -v) hv (.inr rfl)
    have := free_less (x := v) hv (.inl rfl)
    unfold Tr.dep
    omega
theorem sz_le {m b : Nat} {cs : List (List Int)} : ∀ {t : Tr} {cube : List Int}, TrOk m cs b t cube → t.sz + 1 ≤ 2 ^ ((free m cube).length + 1)
  | .leaf _, cube, _ => by
    have : 2 ^ 1 ≤ 2 ^ ((free m cube).length + 1) := Nat.pow_le_pow_right (by omega) (by omega)
    unfold Tr.sz
    omega
  | .ask v lo hi, cube, ⟨_, _, hv, h1, h2⟩ => by
    have i1 := sz_le h1
    have i2 := sz_le h2
    have l1 := free_less (x := -v) hv (.inr rfl)
    have l2 := free_less (x := v) hv (.inl rfl)
    have p1 : 2 ^ ((free m (srt (cube ++ [-v]))).length + 1) ≤ 2 ^ ((free m cube).length) := Nat.pow_le_pow_right (by omega) (by omega)
    have p2 : 2 ^ ((free m (srt (cube ++ [v]))).length + 1) ≤ 2 ^ ((free m cube).length) := Nat.pow_le_pow_right (by omega) (by omega)
    rw [Nat.pow_succ]
    unfold Tr.sz
    omega
/-- a step that names earlier ones -/
inductive StOk (k : Nat) : D → Prop where
  | ax (i : Nat) : StOk k (axS i)
  | re (a b : Nat) (v : Int) (ha : a < k) (hb : b < k) : StOk k (reS a b v)
def Steps (st : List D) : Prop := ∀ k d, st[k]? = some d → StOk k d
theorem Steps.snoc {st : List D} {d : D} (h : Steps st) (hd : StOk st.length d) : Steps (st ++ [d]) := by
  intro k e he
  rcases Nat.lt_or_ge k st.length with hk | hk
  · rw [List.getElem?_append_left hk] at he
    exact h k e he
  · rw [List.getElem?_append_right hk] at he
    have : k - st.length = 0 := by
      have := (List.getElem?_eq_some_iff.mp he).1
      simp at this
      omega
    rw [this] at he
    cases he
    have : k = st.length := by omega
    rw [this]
    exact hd
/-- what a step's clause is, by earlier ones -/
def StepC (q : Int) (cs : List (List Int)) (cl : List (List Int)) (k : Nat) (d : D) : Prop :=
  (∃ (i : Nat) (c : List Int), d = axS i ∧ cs[i]? = some c ∧ cl[k]? = some c) ∨
  ∃ (a b : Nat) (v : Int) (ca cb c : List Int), d = reS a b v ∧ a < k ∧ b < k ∧ cl[a]? = some ca ∧ cl[b]? = some cb ∧ cl[k]? = some c ∧ (0 < v ∧ v ≤ q) ∧ (∀ x ∈ ca, x = v ∨ x ∈ c) ∧ ∀ x ∈ cb, x = -v ∨ x ∈ c
structure Der (q : Int) (cs : List (List Int)) (st : List D) (cl : List (List Int)) : Prop where
  len : st.length = cl.length
  at_ : ∀ k d, st[k]? = some d → StepC q cs cl k d
theorem StepC.mono {q : Int} {cs cl ex : List (List Int)} {k : Nat} {d : D} (h : StepC q cs cl k d) : StepC q cs (cl ++ ex) k d := by
  have mv : ∀ {i : Nat} {c : List Int}, cl[i]? = some c → (cl ++ ex)[i]? = some c := fun {i c} e => by
    rw [List.getElem?_append_left (List.getElem?_eq_some_iff.mp e).1]; exact e
  rcases h with ⟨i, c, h1, h2, h3⟩ | ⟨a, b, v, ca, cb, c, h1, h2, h3, h4, h5, h6, h7⟩
  · exact .inl ⟨i, c, h1, h2, mv h3⟩
  · exact .inr ⟨a, b, v, ca, cb, c, h1, h2, h3, mv h4, mv h5, mv h6, h7⟩
theorem Der.snoc {q : Int} {cs cl : List (List Int)} {st : List D} {d : D} {c : List Int} (h : Der q cs st cl) (hd : StepC q cs (cl ++ [c]) st.length d) : Der q cs (st ++ [d]) (cl ++ [c]) := by
  refine ⟨by simp [h.len], fun k e he => ?_⟩
  rcases Nat.lt_or_ge k st.length with hk | hk
  · rw [List.getElem?_append_left hk] at he
    exact (h.at_ k e he).mono
  · rw [List.getElem?_append_right hk] at he
    have : k - st.length = 0 := by
      have := (List.getElem?_eq_some_iff.mp he).1
      simp at this
      omega
    rw [this] at he
    cases he
    have : k = st.length := by omega
    rw [this]
    exact hd
theorem Der.steps {q : Int} {cs cl : List (List Int)} {st : List D} (h : Der q cs st cl) : Steps st := fun k d hd => by
  rcases h.at_ k d hd with ⟨i, c, rfl, _⟩ | ⟨a, b, v, ca, cb, c, rfl, h2, h3, _⟩
  · exact .ax i
  · exact .re a b v h2 h3
theorem der_nil (q : Int) (cs : List (List Int)) : Der q cs [] [] := ⟨rfl, fun k d h => by simp at h⟩
theorem c_resolve (a b : Nat) (v : Int) (ca cb cube : List Int) (ha : cl[a]? = some ca) (hb : cl[b]? = some cb) (hv : 0 < v ∧ v ≤ q) (h1 : v ∈ ca) (hcon : ∀ l ∈ cube, -l ∉ cube) (ga : Good (srt (cube ++ [-v])) ca) (gb : Good (srt (cube ++ [v])) cb) (hl : ca.length + cb.length < 64)
    (hS : Der q cs st cl) (hsz : st.length < 999) : ∃ (i : Nat) (st' : List D) (ex : List (List Int)) (c : List Int),
    Γ (n + 7) ("Shortener", some "resolve") [.ref 0, .int (a : Int), .int (b : Int), .int v] (SS q cs st cl) = some (.int (i : Int), SS q cs st' (cl ++ ex)) ∧ Der q cs st' (cl ++ ex) ∧ (cl ++ ex)[i]? = some c ∧ Good cube c ∧ st'.length ≤ st.length + 1 := by
  have hst := hS.len
  have na := nth_cl cl (SS q cs st cl) ha
  have nb := nth_cl cl (SS q cs st cl) hb
  by_cases h2 : -v ∈ cb
  · obtain ⟨c, hm, hg, hca, hcb⟩ := good_mc hcon ga gb
    have hr := c_resolved n q cs st cl a b v ca cb ha hb h1 h2 hl hv
    rw [hm] at hr
    have hn : Γ (n + 5) ("next_clause", none) [fm q cs, .ref 2, reS a b v] (SS q cs st cl) = some (ti c, SS q cs st cl) := by
      refine call_raw p_next_clause rfl (by decide) ?_
      simp [hr]
    have hadd := c_add (n + 5) q cs st cl (reS a b v) c hn (by omega) (by omega)
    refine ⟨st.length, st ++ [reS a b v], [c], c, ?_, ?_, ?_, hg, by simp⟩
    · refine call_raw p_Shortener_resolve rfl (by decide) ?_
      simp [na, nb, h1, h2, hadd, idxD, cap]
    · have la := (List.getElem?_eq_some_iff.mp ha).1
      have lb := (List.getElem?_eq_some_iff.mp hb).1
      exact hS.snoc (.inr ⟨a, b, v, ca, cb, c, rfl, by omega, by omega, by rw [List.getElem?_append_left la]; exact ha, by rw [List.getElem?_append_left lb]; exact hb, by rw [hst, List.getElem?_append_right (Nat.le_refl _)]; simp, hv, hca, hcb⟩)
    · rw [hst, List.getElem?_append_right (Nat.le_refl _)]; simp
  · refine ⟨b, st, [], cb, ?_, by rw [List.append_nil]; exact hS, ?_, ⟨gb.1, fun l hl => ?_⟩, by simp⟩
    · refine call_raw p_Shortener_resolve rfl (by decide) ?_
      simp [na, nb, h1, h2, idxD]
    · simp [hb]
    · rcases mem_add.mp (gb.2 l hl) with h | h
      · exact h
      · have : l = -v := by omega
        exact absurd (this ▸ hl) h2
end L34
end
section
set_option maxRecDepth 100000
/-! plain facts: degrees; the static refutation of a tree -/
namespace L34
open Md
theorem maxL_leD {b d : Int} : ∀ {l : List Int}, d ≤ b → (∀ x ∈ l, x ≤ b) → maxL l d ≤ b
  | [], h, _ => h
  | [x], _, h => h x List.mem_cons_self
  | x :: y :: l, h0, h => by
    have ih := maxL_leD h0 fun z hz => h z (List.mem_cons_of_mem x hz)
    have := h x List.mem_cons_self
    show max x (maxL (y :: l) d) ≤ b
    omega
theorem le_maxLD {x d : Int} : ∀ {l : List Int}, x ∈ l → x ≤ maxL l d
  | [], h => by cases h
  | [y], h => by rw [List.mem_singleton] at h; rw [h]; exact Int.le_refl _
  | y :: z :: l, h => by
    show x ≤ max y (maxL (z :: l) d)
    rcases List.mem_cons.mp h with h | h
    · omega
    · have := le_maxLD (d := d) h
      omega
theorem len_dg {p : Po} {m : List Int} (h : m ∈ p) : (m.length : Int) ≤ dg p := le_maxLD (List.mem_map.mpr ⟨m, h, rfl⟩)
theorem dg_le {p : Po} {b : Int} (h0 : -1 ≤ b) (h : ∀ m ∈ p, (m.length : Int) ≤ b) : dg p ≤ b := maxL_leD h0 fun x hx => by
  obtain ⟨m, hm, rfl⟩ := List.mem_map.mp hx
  exact h m hm
theorem dg_low (p : Po) : -1 ≤ dg p := by
  cases p with
  | nil => exact Int.le_refl _
  | cons m p =>
    have := len_dg (p := m :: p) (m := m) List.mem_cons_self
    omega
theorem mem_tmF {m : List Int} : ∀ {p f : Po} {z : List Int}, z ∈ p.foldl (fun f o => pl f [mon (o ++ m)]) f → z ∈ f ∨ ∃ x ∈ p, z = mon (x ++ m)
  | [], f, z, h => .inl h
  | x :: p, f, z, h => by
    rw [List.foldl_cons] at h
    rcases mem_tmF h with h | ⟨y, hy, e⟩
    · rcases mem_pl.mp h with ⟨h, _⟩ | ⟨_, h⟩
      · exact .inl h
      · exact .inr ⟨x, List.mem_cons_self, List.mem_singleton.mp h⟩
    · exact .inr ⟨y, List.mem_cons_of_mem _ hy, e⟩
theorem mem_tm {p : Po} {m z : List Int} (h : z ∈ tm p m) : ∃ x ∈ p, z = mon (x ++ m) := (mem_tmF h).resolve_left (by simp)
theorem mem_tpF {p : Po} : ∀ {q f : Po} {z : List Int}, z ∈ q.foldl (fun f m => pl f (tm p m)) f → z ∈ f ∨ ∃ y ∈ q, ∃ x ∈ p, z = mon (x ++ y)
  | [], f, z, h => .inl h
  | y :: q, f, z, h => by
    rw [List.foldl_cons] at h
    rcases mem_tpF h with h | ⟨w, hw, x, hx, e⟩
    · rcases mem_pl.mp h with ⟨h, _⟩ | ⟨_, h⟩
      · exact .inl h
      · obtain ⟨x, hx, e⟩ := mem_tm h
        exact .inr ⟨y, List.mem_cons_self, x, hx, e⟩
    · exact .inr ⟨w, List.mem_cons_of_mem _ hw, x, hx, e⟩
theorem mem_tp {p q : Po} {z : List Int} (h : z ∈ tp p q) : ∃ y ∈ q, ∃ x ∈ p, z = mon (x ++ y) := (mem_tpF h).resolve_left (by simp)
theorem mon_len (m : List Int) : (mon m).length ≤ m.length := by unfold mon; rw [len_srt]; exact dedup_len m
theorem dg_tp (p q : Po) : dg (tp p q) ≤ dg p + (if dg q > 0 then dg q else 0) := by
  refine dg_le ?_ fun z hz => ?_
  · have := dg_low p
    split <;> omega
  · obtain ⟨y, hy, x, hx, rfl⟩ := mem_tp hz
    have h1 := len_dg hx
    have h2 := len_dg hy
    have h3 := mon_len (x ++ y)
    rw [List.length_append] at h3
    split <;> omega
/-! the leaves of a tree -/
def lvs : Tr → List Int → List (Int × List Int)
  | .leaf k, cube => [(k, cube)]
  | .ask v lo hi, cube => lvs lo (srt (cube ++ [-v])) ++ lvs hi (srt (cube ++ [v]))
def lvU : Tr → List Int → List (Int × List Int)
  | .leaf k, cube => [(k, cube)]
  | .ask v lo hi, cube => lvU lo (cube ++ [-v]) ++ lvU hi (cube ++ [v])
/-- the leaf that an assignment comes to -/
def fl (a : Int → Bool) : Tr → Int
  | .leaf k => k
  | .ask v lo hi => if a v then fl a hi else fl a lo
def xs {α : Type} (f : α → Bool) : List α → Bool
  | [] => false
  | x :: l => (f x).xor (xs f l)
theorem xs_append {α : Type} (f : α → Bool) : ∀ l m : List α, xs f (l ++ m) = (xs f l).xor (xs f m)
  | [], m => by simp [xs]
  | x :: l, m => by
    show (f x).xor (xs f (l ++ m)) = ((f x).xor (xs f l)).xor (xs f m)
    rw [xs_append f l m, Bool.xor_assoc]
theorem xs_congr {α : Type} {f g : α → Bool} : ∀ {l : List α}, (∀ x ∈ l, f x = g x) → xs f l = xs g l
  | [], _ => rfl
  | x :: l, h => by
    show (f x).xor (xs f l) = (g x).xor (xs g l)
    rw [h x List.mem_cons_self, xs_congr fun y hy => h y (List.mem_cons_of_mem _ hy)]
theorem xs_and {α : Type} (f : α → Bool) (b : Bool) : ∀ l : List α, (xs f l && b) = xs (fun x => f x && b) l
  | [] => rfl
  | x :: l => by
    show ((f x).xor (xs f l) && b) = (f x && b).xor (xs _ l)
    rw [← xs_and f b l]
    cases f x <;> cases xs f l <;> cases b <;> rfl
theorem lv_neg (a : Int → Bool) {l : Int} (h : 0 < l ∨ l < 0) : lv a (-l) = !lv a l := by
  unfold lv
  rcases h with h | h
  · rw [if_neg (by omega), if_pos h, Int.neg_neg]
  · rw [if_pos (by omega), if_neg (by omega), Bool.not_not]
theorem all_add (a : Int → Bool) (cube : List Int) (x : Int) : (srt (cube ++ [x])).all (lv a) = (cube.all (lv a) && lv a x) := by
  rw [Bool.eq_iff_iff, List.all_eq_true, Bool.and_eq_true, List.all_eq_true]
  constructor
  · intro h
    exact ⟨fun y hy => h y (mem_add.mpr (.inl hy)), h x (mem_add.mpr (.inr rfl))⟩
  · rintro ⟨h1, h2⟩ y hy
    rcases mem_add.mp hy with h | h
    · exact h1 y h
    · rw [h]; exact h2
/-- just one leaf has a true way -/
theorem one_leaf {n b : Nat} {cs : List (List Int)} (a : Int → Bool) (k : Int) : ∀ (t : Tr) (cube : List Int), TrOk n cs b t cube → xs (fun p => decide (p.1 = k) && p.2.all (lv a)) (lvs t cube) = (cube.all (lv a) && decide (fl a t = k))
  | .leaf i, cube, _ => by
    show ((decide (i = k) && cube.all (lv a)).xor false) = (cube.all (lv a) && decide (i = k))
    rw [Bool.xor_false, Bool.and_comm]
  | .ask v lo hi, cube, ⟨_, _, hv, h1, h2⟩ => by
    have hv0 : 0 < v := (mem_free.mp hv).1.1
    unfold lvs fl
    rw [xs_append, one_leaf a k lo _ h1, one_leaf a k hi _ h2, all_add, all_add, lv_neg a (.inl hv0)]
    have : lv a v = a v := by unfold lv; rw [if_pos hv0]
    rw [this]
    cases a v <;> cases cube.all (lv a) <;> simp
/-! products -/
def need (c w : List Int) : List Int := w.filter fun l => !decide (-l ∈ c)
def prd (c w : List Int) : Po := w.foldl (fun f l => if -l ∈ c then f else tp f (lf (-l))) [[]]
theorem prdF (a : Int → Bool) (c : List Int) : ∀ (w : List Int) (f : Po), (∀ l ∈ w, 0 < l ∨ l < 0) → pv a (w.foldl (fun f l => if -l ∈ c then f else tp f (lf (-l))) f) = (pv a f && (need c w).all (lv a))
  | [], f, _ => by simp [need]
  | l :: w, f, h => by
    have ih := fun f => prdF a c w f fun x hx => h x (List.mem_cons_of_mem _ hx)
    rw [List.foldl_cons, ih]
    unfold need
    rw [List.filter_cons]
    by_cases hc : -l ∈ c
    · simp [hc]
    · rw [if_neg hc, decide_eq_false hc]
      simp only [Bool.not_false, if_true, List.all_cons]
      rw [pv_tp, pv_lf, lv_neg a (h l List.mem_cons_self), Bool.not_not, Bool.and_assoc]
theorem pv_prd (a : Int → Bool) (c w : List Int) (h : ∀ l ∈ w, 0 < l ∨ l < 0) : pv a (prd c w) = (need c w).all (lv a) := by
  unfold prd
  rw [prdF a c w _ h]
  simp [pv]
theorem can_prdF {k : Nat} (c : List Int) : ∀ (w : List Int) (f : Po), Lits k w → Can k f → Can k (w.foldl (fun f l => if -l ∈ c then f else tp f (lf (-l))) f)
  | [], f, _, hf => hf
  | l :: w, f, h, hf => by
    rw [List.foldl_cons]
    refine can_prdF c w _ ⟨fun x hx => h.lit x (List.mem_cons_of_mem _ hx)⟩ ?_
    split
    · exact hf
    · have := h.lit l List.mem_cons_self
      exact can_tp hf (can_lf ⟨by omega, by omega, by omega⟩)
theorem can_prd {k : Nat} {c w : List Int} (h : Lits k w) : Can k (prd c w) := can_prdF c w [[]] h (can_unit k)
/-- a way that makes a clause false: its needed literals and the clause's falsity are its truth -/
theorem need_all (a : Int → Bool) {c w : List Int} (hc : ∀ l ∈ c, 0 < l ∨ l < 0) (hf : ∀ l ∈ c, -l ∈ w) : ((need c w).all (lv a) && c.all fun l => !lv a l) = w.all (lv a) := by
  rw [Bool.eq_iff_iff, Bool.and_eq_true, List.all_eq_true, List.all_eq_true, List.all_eq_true]
  constructor
  · rintro ⟨h1, h2⟩ l hl
    by_cases hn : -l ∈ c
    · have := h2 _ hn
      have e := lv_neg a (hc _ hn)
      rw [Int.neg_neg] at e
      rw [e]
      exact this
    · exact h1 l (List.mem_filter.mpr ⟨hl, by rw [decide_eq_false hn]; rfl⟩)
  · intro h
    refine ⟨fun l hl => h l (List.mem_filter.mp hl).1, fun l hl => ?_⟩
    have := h _ (hf l hl)
    rw [lv_neg a (hc l hl)] at this
    exact this
/-! the factors -/
def fct (cs : List (List Int)) : List (Int × List Int) → List Po → List Po
  | [], F => F
  | (i, w) :: l, F => fct cs l (F.set i.toNat (pl (F.getD i.toNat []) (prd (cs.getD i.toNat []) w)))
structure LvOk (n : Nat) (cs : List (List Int)) (d : Nat) (p : Int × List Int) : Prop where
  cl : ∃ (i : Nat) (c : List Int), p.1 = (i : Int) ∧ cs[i]? = some c ∧ ∀ l ∈ c, -l ∈ p.2
  lit : Lits n p.2
  len : p.2.length ≤ d
theorem lvs_ok {n b : Nat} {cs : List (List Int)} : ∀ (t : Tr) (cube : List Int), TrOk n cs b t cube → ∀ p ∈ lvs t cube, LvOk n cs (cube.length + t.dep) p
  | .leaf i, cube, ⟨_, hC, j, c, e, h1, h2⟩, p, hp => by
    rw [List.mem_singleton.mp hp]
    exact ⟨⟨j, c, e, h1, fun l hl => of_decide_eq_true (List.all_eq_true.mp h2 l hl)⟩, ⟨hC.lit⟩, by simp⟩
  | .ask v lo hi, cube, ⟨_, _, _, h1, h2⟩, p, hp => by
    have e1 : ∀ x : Int, (srt (cube ++ [x])).length = cube.length + 1 := fun x => by rw [len_srt]; simp
    unfold lvs at hp
    unfold Tr.dep
    rcases List.mem_append.mp hp with hp | hp
    · have := lvs_ok lo _ h1 p hp
      exact ⟨this.cl, this.lit, by have := this.len; rw [e1] at this; omega⟩
    · have := lvs_ok hi _ h2 p hp
      exact ⟨this.cl, this.lit, by have := this.len; rw [e1] at this; omega⟩
theorem getD_set {α : Type} (F : List α) (i j : Nat) (x d : α) (hi : i < F.length) : (F.set i x).getD j d = if i = j then x else F.getD j d := by
  rw [List.getD_eq_getElem?_getD, List.getD_eq_getElem?_getD, List.getElem?_set]
  by_cases h : i = j
  · subst h
    rw [if_pos rfl, if_pos rfl, if_pos hi]; rfl
  · rw [if_neg h, if_neg h]
theorem fct_len (cs : List (List Int)) : ∀ (l : List (Int × List Int)) (F : List Po), (fct cs l F).length = F.length
  | [], F => rfl
  | (i, w) :: l, F => by
    unfold fct
    rw [fct_len cs l, List.length_set]
theorem fct_can {n d : Nat} {cs : List (List Int)} : ∀ (l : List (Int × List Int)) (F : List Po), (∀ p ∈ l, LvOk n cs d p) → F.length = cs.length → (∀ p ∈ F, Can n p) → ∀ p ∈ fct cs l F, Can n p
  | [], F, _, _, h => h
  | (i, w) :: l, F, ho, hF, h => by
    unfold fct
    refine fct_can l _ (fun p hp => ho p (List.mem_cons_of_mem _ hp)) (by rw [List.length_set]; exact hF) fun p hp => ?_
    have hi := ho _ List.mem_cons_self
    rcases List.mem_or_eq_of_mem_set hp with h1 | h1
    · exact h p h1
    · rw [h1]
      refine can_pl ?_ (can_prd hi.lit)
      rw [List.getD_eq_getElem?_getD]
      cases e : F[i.toNat]? with
      | none => exact can_nil n
      | some q => exact h q (List.mem_of_getElem? e)
theorem fct_at {n d : Nat} {cs : List (List Int)} (a : Int → Bool) (k : Nat) (c : List Int) (hk : cs[k]? = some c) : ∀ (l : List (Int × List Int)) (F : List Po), (∀ p ∈ l, LvOk n cs d p) → F.length = cs.length → (∀ p ∈ F, Can n p) →
    pv a ((fct cs l F).getD k []) = (pv a (F.getD k [])).xor (xs (fun p => decide (p.1 = (k : Int)) && (need c p.2).all (lv a)) l)
  | [], F, _, _, h => by simp [fct, xs]
  | (i, w) :: l, F, ho, hF, h => by
    have hi := ho _ List.mem_cons_self
    obtain ⟨⟨j, c', e1, e2, e3⟩, e4, e5⟩ := hi
    have e1 : i = (j : Int) := e1
    have hj := (List.getElem?_eq_some_iff.mp e2).1
    have cF : ∀ j : Nat, Can n (F.getD j []) := fun j => by
      rw [List.getD_eq_getElem?_getD]
      cases e : F[j]? with
      | none => exact can_nil n
      | some q => exact h q (List.mem_of_getElem? e)
    have hset : ∀ p ∈ F.set i.toNat (pl (F.getD i.toNat []) (prd (cs.getD i.toNat []) w)), Can n p := fun p hp => by
      rcases List.mem_or_eq_of_mem_set hp with h1 | h1
      · exact h p h1
      · rw [h1]; exact can_pl (cF _) (can_prd e4)
    unfold fct
    rw [fct_at a k c hk l _ (fun p hp => ho p (List.mem_cons_of_mem _ hp)) (by rw [List.length_set]; exact hF) hset, getD_set _ _ _ _ _ (by omega)]
    show _ = Bool.xor _ (Bool.xor (decide (i = (k : Int)) && (need c w).all (lv a)) _)
    by_cases hik : i.toNat = k
    · rw [if_pos hik, hik, pv_pl a (cF _).nod (can_prd e4).nod, pv_prd a _ _ (fun l hl => (e4.lit l hl).1)]
      have ec : cs.getD k [] = c := by rw [List.getD_eq_getElem?_getD, hk]; rfl
      rw [ec, decide_eq_true (by omega : i = (k : Int)), Bool.true_and, Bool.xor_assoc]
    · rw [if_neg hik, decide_eq_false (by omega : ¬ i = (k : Int)), Bool.false_and, Bool.false_xor]
/-- the factors of a tree -/
def fcs (cs : List (List Int)) (t : Tr) : List Po := fct cs (lvs t []) (List.replicate cs.length [])
theorem fcs_len (cs : List (List Int)) (t : Tr) : (fcs cs t).length = cs.length := by unfold fcs; rw [fct_len, List.length_replicate]
theorem fcs_can {n b : Nat} {cs : List (List Int)} {t : Tr} (h : TrOk n cs b t []) : ∀ p ∈ fcs cs t, Can n p :=
  fct_can _ _ (lvs_ok t [] h) (by rw [List.length_replicate]) fun p hp => by rw [(List.mem_replicate.mp hp).2]; exact can_nil n
theorem fcs_val {n b : Nat} {cs : List (List Int)} {t : Tr} (h : TrOk n cs b t []) (a : Int → Bool) {k : Nat} {c : List Int} (hk : cs[k]? = some c) : pv a ((fcs cs t).getD k []) = xs (fun p => decide (p.1 = (k : Int)) && (need c p.2).all (lv a)) (lvs t []) := by
  unfold fcs
  rw [fct_at a k c hk _ _ (lvs_ok t [] h) (by rw [List.length_replicate]) (fun p hp => by rw [(List.mem_replicate.mp hp).2]; exact can_nil n)]
  have : (List.replicate cs.length ([] : Po)).getD k [] = [] := by
    rw [List.getD_eq_getElem?_getD, List.getElem?_replicate]
    split <;> rfl
  rw [this]
  simp [pv]
/-- a factor times its clause counts at just the leaf -/
theorem fcs_one {n b : Nat} {cs : List (List Int)} {t : Tr} (hcs : ∀ c ∈ cs, Lits n c) (h : TrOk n cs b t []) (a : Int → Bool) {k : Nat} {c : List Int} (hk : cs[k]? = some c) : (pv a ((fcs cs t).getD k []) && pv a (cp c)) = decide (fl a t = (k : Int)) := by
  rw [fcs_val h a hk, pv_cp, xs_and]
  have := one_leaf a (k : Int) t [] h
  simp only [List.all_nil, Bool.true_and] at this
  rw [← this]
  refine xs_congr fun p hp => ?_
  obtain ⟨⟨i, c', e1, e2, e3⟩, _, _⟩ := lvs_ok t [] h p hp
  by_cases hpk : p.1 = (k : Int)
  · have : i = k := by omega
    subst this
    rw [hk] at e2
    cases e2
    rw [decide_eq_true hpk, Bool.true_and, Bool.true_and]
    exact need_all a (fun l hl => ((hcs c (List.mem_of_getElem? hk)).lit l hl).1) e3
  · rw [decide_eq_false hpk, Bool.false_and, Bool.false_and]; rfl
/-- sums of products -/
def tot : List (List Int × Po) → Po → Po
  | [], f => f
  | (c, q) :: l, f => tot l (pl f (tp (cp c) q))
theorem tot_pv {n : Nat} (a : Int → Bool) : ∀ (l : List (List Int × Po)) (f : Po), (∀ p ∈ l, Lits n p.1 ∧ Can n p.2) → Can n f → pv a (tot l f) = (pv a f).xor (xs (fun p => pv a (cp p.1) && pv a p.2) l) ∧ Can n (tot l f)
  | [], f, _, hf => ⟨by simp [tot, xs], hf⟩
  | (c, q) :: l, f, h, hf => by
    obtain ⟨hc, hq⟩ := h _ List.mem_cons_self
    have ht := can_tp (can_cp hc) hq
    obtain ⟨h1, h2⟩ := tot_pv a l (pl f (tp (cp c) q)) (fun p hp => h p (List.mem_cons_of_mem _ hp)) (can_pl hf ht)
    unfold tot
    refine ⟨?_, h2⟩
    rw [h1, pv_pl a hf.nod ht.nod, pv_tp]
    show _ = Bool.xor _ (Bool.xor _ _)
    rw [Bool.xor_assoc]
end L34
end
section
set_option maxRecDepth 100000
/-! plain facts: the sum is one, values, degrees -/
namespace L34
open Md
theorem fl_ok {n b : Nat} {cs : List (List Int)} (a : Int → Bool) : ∀ (t : Tr) (cube : List Int), TrOk n cs b t cube → ∃ (i : Nat) (c : List Int), fl a t = (i : Int) ∧ cs[i]? = some c ∧ ((∀ x ∈ cube, lv a x = true) → ∀ l ∈ c, lv a (-l) = true)
  | .leaf k, cube, ⟨_, hC, i, c, e, h1, h2⟩ => ⟨i, c, e, h1, fun h l hl => h _ (of_decide_eq_true (List.all_eq_true.mp h2 l hl))⟩
  | .ask v lo hi, cube, ⟨_, _, hv, h1, h2⟩ => by
    have hv0 : 0 < v := (mem_free.mp hv).1.1
    have e : lv a v = a v := by unfold lv; rw [if_pos hv0]
    unfold fl
    split
    · rename_i ha
      obtain ⟨i, c, h3, h4, h5⟩ := fl_ok a hi _ h2
      refine ⟨i, c, h3, h4, fun h => h5 fun x hx => ?_⟩
      rcases mem_add.mp hx with hx | hx
      · exact h x hx
      · rw [hx, e, ha]
    · rename_i ha
      obtain ⟨i, c, h3, h4, h5⟩ := fl_ok a lo _ h1
      refine ⟨i, c, h3, h4, fun h => h5 fun x hx => ?_⟩
      rcases mem_add.mp hx with hx | hx
      · exact h x hx
      · rw [hx, lv_neg a (.inl hv0), e]
        simpa using ha
theorem xs_zip {f : List Int × Po → Bool} (z : Int) : ∀ (cs : List (List Int)) (F : List Po) (base : Nat), F.length = cs.length → (∀ (j : Nat) (c : List Int), cs[j]? = some c → f (c, F.getD j []) = decide (z = ((base + j : Nat) : Int))) → xs f (cs.zip F) = decide ((base : Int) ≤ z ∧ z < ((base + cs.length : Nat) : Int))
  | [], [], base, _, _ => by
    rw [decide_eq_false (by rw [List.length_nil]; omega)]; rfl
  | [], q :: F, base, h, _ => by cases h
  | c :: cs, [], base, h, _ => by cases h
  | c :: cs, q :: F, base, h, hf => by
    have h0 := hf 0 c rfl
    have ih := xs_zip z cs F (base + 1) (by simpa using h) fun j c' hj => by
      have := hf (j + 1) c' hj
      rw [show base + 1 + j = base + (j + 1) by omega]
      exact this
    rw [List.zip_cons_cons]
    show Bool.xor (f (c, q)) (xs f (cs.zip F)) = _
    have h0 : f (c, q) = decide (z = ((base + 0 : Nat) : Int)) := h0
    rw [h0, ih, List.length_cons]
    by_cases e : z = ((base : Nat) : Int)
    · have d1 : decide (z = ((base + 0 : Nat) : Int)) = true := decide_eq_true (by omega)
      have d2 : decide (((base + 1 : Nat) : Int) ≤ z ∧ z < ((base + 1 + cs.length : Nat) : Int)) = false := decide_eq_false (by omega)
      have d3 : decide (((base : Nat) : Int) ≤ z ∧ z < ((base + (cs.length + 1) : Nat) : Int)) = true := decide_eq_true (by omega)
      rw [d1, d2, d3]; rfl
    · have d1 : decide (z = ((base + 0 : Nat) : Int)) = false := decide_eq_false (by omega)
      rw [d1, Bool.false_xor]
      by_cases e2 : ((base + 1 : Nat) : Int) ≤ z ∧ z < ((base + 1 + cs.length : Nat) : Int)
      · rw [decide_eq_true e2, decide_eq_true (by omega)]
      · rw [decide_eq_false e2, decide_eq_false (by omega)]
theorem zip_mem {n : Nat} {cs : List (List Int)} {F : List Po} (hcs : ∀ c ∈ cs, Lits n c) (hF : ∀ p ∈ F, Can n p) : ∀ p ∈ cs.zip F, Lits n p.1 ∧ Can n p.2 := fun p hp => by
  have := List.of_mem_zip hp
  exact ⟨hcs _ this.1, hF _ this.2⟩
theorem tot_one {n b : Nat} {cs : List (List Int)} {t : Tr} (hcs : ∀ c ∈ cs, Lits n c) (h : TrOk n cs b t []) : tot (cs.zip (fcs cs t)) [] = [[]] := by
  have hz := zip_mem hcs (fcs_can h)
  refine po_eq (tot_pv (n := n) (fun _ => false) _ _ hz (can_nil n)).2 (can_unit n) fun a => ?_
  rw [(tot_pv a _ _ hz (can_nil n)).1]
  obtain ⟨i, c, h1, h2, _⟩ := fl_ok a t [] h
  have hi := (List.getElem?_eq_some_iff.mp h2).1
  rw [xs_zip (fl a t) cs (fcs cs t) 0 (fcs_len cs t) fun j c hj => by
    show (pv a (cp c) && pv a ((fcs cs t).getD j [])) = _
    rw [Bool.and_comm, fcs_one hcs h a hj, Nat.zero_add]]
  rw [decide_eq_true (by omega)]
  simp [pv]
/-- the law's own sum: the factors first -/
def tot2 : List (List Int × Po) → Po → Po
  | [], f => f
  | (c, q) :: l, f => tot2 l (pl f (tp q (cp c)))
theorem tot2_eq {n : Nat} : ∀ (l : List (List Int × Po)) (f : Po), (∀ p ∈ l, Lits n p.1 ∧ Can n p.2) → tot2 l f = tot l f
  | [], f, _ => rfl
  | (c, q) :: l, f, h => by
    obtain ⟨hc, hq⟩ := h _ List.mem_cons_self
    have e : tp q (cp c) = tp (cp c) q := po_eq (can_tp hq (can_cp hc)) (can_tp (can_cp hc) hq) fun a => by rw [pv_tp, pv_tp, Bool.and_comm]
    unfold tot2 tot
    rw [e]
    exact tot2_eq l _ fun p hp => h p (List.mem_cons_of_mem _ hp)
theorem xs_set {f : List Int × Po → Bool} {q : Po} : ∀ (cs : List (List Int)) (F : List Po) (j : Nat) (c : List Int), F.length = cs.length → cs[j]? = some c → xs f (cs.zip (F.set j q)) = ((xs f (cs.zip F)).xor (f (c, F.getD j []))).xor (f (c, q))
  | [], F, j, c, _, h => by simp at h
  | c :: cs, [], j, c', h, _ => by cases h
  | c :: cs, p :: F, 0, c', h, hc => by
    cases hc
    show Bool.xor (f (c, q)) (xs f (cs.zip F)) = ((Bool.xor (f (c, p)) (xs f (cs.zip F))).xor (f (c, p))).xor (f (c, q))
    cases f (c, q) <;> cases f (c, p) <;> cases xs f (cs.zip F) <;> rfl
  | c :: cs, p :: F, j + 1, c', h, hc => by
    have ih := xs_set (f := f) (q := q) cs F j c' (by simpa using h) hc
    show Bool.xor (f (c, p)) (xs f (cs.zip (F.set j q))) = ((Bool.xor (f (c, p)) (xs f (cs.zip F))).xor (f (c', F.getD j []))).xor (f (c', q))
    rw [ih, Bool.xor_assoc, Bool.xor_assoc, Bool.xor_assoc]
/-- with 1 added to one factor, the sum is not 1 -/
theorem tot_bent {n b : Nat} {cs : List (List Int)} {t : Tr} (hcs : ∀ c ∈ cs, Lits n c) (hcon : ∀ c ∈ cs, ∀ l ∈ c, -l ∉ c) (h : TrOk n cs b t []) {j : Nat} {c : List Int} (hj : cs[j]? = some c) :
    tot (cs.zip ((fcs cs t).set j (pl ((fcs cs t).getD j []) [[]]))) [] ≠ [[]] := by
  intro e
  have hc := List.mem_of_getElem? hj
  have cj : Can n ((fcs cs t).getD j []) := by
    rw [List.getD_eq_getElem?_getD]
    cases e : (fcs cs t)[j]? with
    | none => exact can_nil n
    | some q => exact fcs_can h q (List.mem_of_getElem? e)
  have hz := zip_mem hcs (F := (fcs cs t).set j (pl ((fcs cs t).getD j []) [[]])) fun p hp => by
    rcases List.mem_or_eq_of_mem_set hp with h1 | h1
    · exact fcs_can h p h1
    · rw [h1]; exact can_pl cj (can_unit n)
  have key : ∀ a, pv a (cp c) = false := fun a => by
    have h1 := (tot_pv a _ _ hz (can_nil n)).1
    have h2 := (tot_pv a _ _ (zip_mem hcs (fcs_can h)) (can_nil n)).1
    rw [tot_one hcs h] at h2
    rw [e, xs_set cs (fcs cs t) j c (fcs_len cs t) hj] at h1
    have h3 : pv a (pl ((fcs cs t).getD j []) [[]]) = !pv a ((fcs cs t).getD j []) := by
      rw [pv_pl a cj.nod (by simp)]
      simp [pv]
    simp only [h3] at h1
    simp only [pv, Bool.false_xor, List.all_nil, Bool.xor_false] at h1 h2
    rw [← h2] at h1
    cases e1 : pv a (cp c) with
    | false => rfl
    | true =>
      rw [e1] at h1
      cases e2 : pv a ((fcs cs t).getD j []) <;> rw [e2] at h1 <;> cases h1
  have := key fun v => decide (-v ∈ c)
  rw [pv_cp, ← Bool.not_eq_true, List.all_eq_true] at this
  refine this fun l hl => ?_
  rw [Bool.not_eq_true']
  unfold lv
  split
  · exact decide_eq_false (hcon c hc l hl)
  · show (!decide (-(-l) ∈ c)) = false
    rw [Int.neg_neg, decide_eq_true hl]; rfl
/-! values -/
def va (p : Po) (w : List Int) : Int := if pv (fun v => decide (v ∈ w)) p then 1 else 0
theorem va_count (w : List Int) : ∀ p : Po, (((p.filter fun m => m.all fun v => decide (v ∈ w)).length : Nat) : Int) % 2 = va p w
  | [] => rfl
  | m :: p => by
    have ih := va_count w p
    unfold va at ih ⊢
    rw [List.filter_cons]
    show _ = if ((m.all fun v => decide (v ∈ w)).xor (pv (fun v => decide (v ∈ w)) p)) = true then (1 : Int) else 0
    cases m.all fun v => decide (v ∈ w) with
    | false =>
      simp only [Bool.false_eq_true, if_false, Bool.false_xor]
      exact ih
    | true =>
      simp only [if_true, List.length_cons]
      cases h : pv (fun v => decide (v ∈ w)) p <;> rw [h] at ih
      · simp only [Bool.false_eq_true, if_false] at ih
        simp
        omega
      · simp only [if_true] at ih
        simp
        omega
theorem va_mul (p q : Po) (w : List Int) : va (tp p q) w = va p w * va q w := by
  unfold va
  rw [pv_tp]
  cases pv (fun v => decide (v ∈ w)) p <;> cases pv (fun v => decide (v ∈ w)) q <;> simp
theorem va_add {n : Nat} {p q : Po} (hp : Can n p) (hq : Can n q) (w : List Int) : va (pl p q) w = if va p w = va q w then 0 else 1 := by
  unfold va
  rw [pv_pl _ hp.nod hq.nod]
  cases pv (fun v => decide (v ∈ w)) p <;> cases pv (fun v => decide (v ∈ w)) q <;> simp
theorem lv_whole {n : Nat} {w : List Int} (W : Whole n w) {l : Int} (hl : (0 < l ∨ l < 0) ∧ -(n : Int) ≤ l ∧ l ≤ n) : lv (fun v => decide (v ∈ w)) l = decide (l ∈ w) := by
  unfold lv
  split
  · rfl
  · by_cases h : l ∈ w
    · show (!decide (-l ∈ w)) = _
      rw [decide_eq_true h, decide_eq_false (W.con h)]; rfl
    · show (!decide (-l ∈ w)) = _
      rw [decide_eq_false h, decide_eq_true ((W.neg hl).mpr h)]; rfl
theorem va_cp {n : Nat} {w c : List Int} (W : Whole n w) (hc : Lits n c) : va (cp c) w = if sats w c then 0 else 1 := by
  unfold va
  rw [pv_cp]
  have : (c.all fun l => !lv (fun v => decide (v ∈ w)) l) = !sats w c := by
    unfold sats
    rw [List.not_any_eq_all_not, Bool.eq_iff_iff, List.all_eq_true, List.all_eq_true]
    constructor
    · intro h l hl; rw [← lv_whole W (hc.lit l hl)]; exact h l hl
    · intro h l hl; rw [lv_whole W (hc.lit l hl)]; exact h l hl
  rw [this]
  cases sats w c <;> rfl
theorem va_fcs {n b : Nat} {cs : List (List Int)} {t : Tr} (hcs : ∀ c ∈ cs, Lits n c) (h : TrOk n cs b t []) (w : List Int) {k : Nat} {c : List Int} (hk : cs[k]? = some c) : va ((fcs cs t).getD k []) w * va (cp c) w = if fl (fun v => decide (v ∈ w)) t = (k : Int) then 1 else 0 := by
  have := fcs_one hcs h (fun v => decide (v ∈ w)) hk
  unfold va
  cases e1 : pv (fun v => decide (v ∈ w)) ((fcs cs t).getD k []) <;> cases e2 : pv (fun v => decide (v ∈ w)) (cp c) <;> rw [e1, e2] at this
  · rw [if_neg (of_decide_eq_false this.symm)]; rfl
  · rw [if_neg (of_decide_eq_false this.symm)]; rfl
  · rw [if_neg (of_decide_eq_false this.symm)]; rfl
  · rw [if_pos (of_decide_eq_true this.symm)]; rfl
/-- the law's own count over its leaves -/
theorem xs_count {α : Type} (f : α → Bool) : ∀ l : List α, ((l.countP f : Nat) : Int) % 2 = if xs f l then 1 else 0
  | [] => rfl
  | x :: l => by
    have ih := xs_count f l
    rw [List.countP_cons]
    show _ = if ((f x).xor (xs f l)) = true then (1 : Int) else 0
    cases f x <;> cases h : xs f l <;> rw [h] at ih <;> simp at ih ⊢ <;> omega
theorem lvU_xs {n b : Nat} {cs : List (List Int)} (k : Int) (c w : List Int) : ∀ (t : Tr) (cube cube' : List Int), TrOk n cs b t cube → (∀ l, l ∈ cube' ↔ l ∈ cube) → xs (fun p => decide (p.1 = k) && subB w (need c p.2)) (lvU t cube') = xs (fun p => decide (p.1 = k) && subB w (need c p.2)) (lvs t cube)
  | .leaf i, cube, cube', _, h => by
    show Bool.xor _ false = Bool.xor _ false
    have : subB w (need c cube') = subB w (need c cube) := by
      rw [Bool.eq_iff_iff, subB_iff, subB_iff]
      constructor
      · intro g l hl
        obtain ⟨h1, h2⟩ := List.mem_filter.mp hl
        exact g l (List.mem_filter.mpr ⟨(h l).mpr h1, h2⟩)
      · intro g l hl
        obtain ⟨h1, h2⟩ := List.mem_filter.mp hl
        exact g l (List.mem_filter.mpr ⟨(h l).mp h1, h2⟩)
    simp only [this]
  | .ask v lo hi, cube, cube', ⟨_, _, _, h1, h2⟩, h => by
    have hm : ∀ x l : Int, l ∈ cube' ++ [x] ↔ l ∈ srt (cube ++ [x]) := fun x l => by rw [mem_add, List.mem_append, List.mem_singleton, h]
    unfold lvU lvs
    rw [xs_append, xs_append, lvU_xs k c w lo _ _ h1 (hm _), lvU_xs k c w hi _ _ h2 (hm _)]
theorem own_ok {n b : Nat} {cs : List (List Int)} {t : Tr} (h : TrOk n cs b t []) {w : List Int} (W : Whole n w) {k : Nat} {c : List Int} (hk : cs[k]? = some c) : (((lvU t []).countP fun p => decide (p.1 = (k : Int)) && subB w (need c p.2) : Nat) : Int) % 2 = va ((fcs cs t).getD k []) w := by
  rw [xs_count, lvU_xs (k : Int) c w t [] [] h (fun l => Iff.rfl)]
  unfold va
  rw [fcs_val h _ hk]
  have : xs (fun p => decide (p.1 = (k : Int)) && subB w (need c p.2)) (lvs t []) = xs (fun p => decide (p.1 = (k : Int)) && (need c p.2).all (lv fun v => decide (v ∈ w))) (lvs t []) := xs_congr fun p hp => by
    have hl := (lvs_ok t [] h p hp).lit
    congr 1
    rw [Bool.eq_iff_iff, subB_iff, List.all_eq_true]
    constructor
    · intro g l hl'
      rw [lv_whole W (hl.lit l (List.mem_filter.mp hl').1)]
      exact decide_eq_true (g l hl')
    · intro g l hl'
      have := g l hl'
      rw [lv_whole W (hl.lit l (List.mem_filter.mp hl').1)] at this
      exact of_decide_eq_true this
  rw [this]
/-! degrees -/
def InV (w : List Int) (m : List Int) : Prop := ∀ v ∈ m, ∃ l ∈ w, v = absI l
theorem inV_lf {l : Int} {m : List Int} (h : m ∈ lf l) : InV [l] m := by
  unfold lf at h
  split at h
  · rename_i h0
    rcases List.mem_cons.mp h with rfl | h
    · intro v hv; cases hv
    · rw [List.mem_singleton.mp h]
      intro v hv
      rw [List.mem_singleton.mp hv]
      exact ⟨l, by simp, by unfold absI; rw [if_neg (by omega)]⟩
  · rename_i h0
    rw [List.mem_singleton.mp h]
    intro v hv
    rw [List.mem_singleton.mp hv]
    refine ⟨l, by simp, ?_⟩
    unfold absI
    split <;> omega
theorem InV.mono {w u m : List Int} (h : InV w m) (hs : ∀ l ∈ w, ∃ l' ∈ u, absI l' = absI l) : InV u m := fun v hv => by
  obtain ⟨l, hl, rfl⟩ := h v hv
  obtain ⟨l', h1, h2⟩ := hs l hl
  exact ⟨l', h1, h2.symm⟩
theorem inV_mon {w x y : List Int} (hx : InV w x) (hy : InV w y) : InV w (mon (x ++ y)) := fun v hv => by
  rcases List.mem_append.mp (mem_mon.mp hv) with h | h
  · exact hx v h
  · exact hy v h
theorem inV_cpF {w : List Int} : ∀ (c : List Int) (f : Po), (∀ l ∈ c, ∃ l' ∈ w, absI l' = absI l) → (∀ m ∈ f, InV w m) → ∀ m ∈ c.foldl (fun f l => tp f (lf l)) f, InV w m
  | [], f, _, h => h
  | l :: c, f, hc, h => by
    rw [List.foldl_cons]
    refine inV_cpF c _ (fun x hx => hc x (List.mem_cons_of_mem _ hx)) fun m hm => ?_
    obtain ⟨y, hy, x, hx, rfl⟩ := mem_tp hm
    exact inV_mon (h x hx) ((inV_lf hy).mono fun z hz => by rw [List.mem_singleton.mp hz]; exact hc l List.mem_cons_self)
theorem inV_cp {w c : List Int} (h : ∀ l ∈ c, ∃ l' ∈ w, absI l' = absI l) : ∀ m ∈ cp c, InV w m := inV_cpF c [[]] h fun m hm => by
  rw [List.mem_singleton.mp hm]; intro v hv; cases hv
theorem absI_neg (l : Int) : absI (-l) = absI l := by unfold absI; split <;> split <;> omega
theorem inV_prdF {u c : List Int} : ∀ (w : List Int) (f : Po), (∀ l ∈ w, l ∈ u) → (∀ m ∈ f, InV u m) → ∀ m ∈ w.foldl (fun f l => if -l ∈ c then f else tp f (lf (-l))) f, InV u m
  | [], f, _, h => h
  | l :: w, f, hw, h => by
    rw [List.foldl_cons]
    refine inV_prdF w _ (fun x hx => hw x (List.mem_cons_of_mem _ hx)) fun m hm => ?_
    split at hm
    · exact h m hm
    · obtain ⟨y, hy, x, hx, rfl⟩ := mem_tp hm
      exact inV_mon (h x hx) ((inV_lf hy).mono fun z hz => by rw [List.mem_singleton.mp hz]; exact ⟨l, hw l List.mem_cons_self, (absI_neg l).symm⟩)
theorem inV_prd {c w : List Int} : ∀ m ∈ prd c w, InV w m := inV_prdF w [[]] (fun l h => h) fun m hm => by
  rw [List.mem_singleton.mp hm]; intro v hv; cases hv
theorem mem_fct {n d : Nat} {cs : List (List Int)} (k : Nat) (c : List Int) (hk : cs[k]? = some c) : ∀ (l : List (Int × List Int)) (F : List Po), (∀ p ∈ l, LvOk n cs d p) → F.length = cs.length → ∀ m ∈ (fct cs l F).getD k [], m ∈ F.getD k [] ∨ ∃ p ∈ l, p.1 = (k : Int) ∧ m ∈ prd c p.2
  | [], F, _, _, m, h => .inl h
  | (i, w) :: l, F, ho, hF, m, h => by
    unfold fct at h
    have hi := ho _ List.mem_cons_self
    obtain ⟨⟨j, c', e1, e2, _⟩, _, _⟩ := hi
    have e1 : i = (j : Int) := e1
    have hj := (List.getElem?_eq_some_iff.mp e2).1
    rcases mem_fct k c hk l _ (fun p hp => ho p (List.mem_cons_of_mem _ hp)) (by rw [List.length_set]; exact hF) m h with h1 | ⟨p, hp, h1, h2⟩
    · rw [getD_set _ _ _ _ _ (by omega)] at h1
      split at h1
      · rename_i hik
        have ec : cs.getD i.toNat [] = c := by rw [hik, List.getD_eq_getElem?_getD, hk]; rfl
        rw [ec, hik] at h1
        rcases mem_pl.mp h1 with ⟨h1, _⟩ | ⟨_, h1⟩
        · exact .inl h1
        · exact .inr ⟨(i, w), List.mem_cons_self, by show i = _; omega, h1⟩
      · exact .inl h1
    · exact .inr ⟨p, List.mem_cons_of_mem _ hp, h1, h2⟩
theorem absI_eq {a b : Int} (h : absI a = absI b) : a = b ∨ a = -b := by
  unfold absI at h
  split at h <;> split at h <;> omega
/-- the degree of a clause times a factor's monomial -/
theorem dg_static {n b : Nat} {cs : List (List Int)} {t : Tr} (h : TrOk n cs b t []) {k : Nat} {c : List Int} (hk : cs[k]? = some c) : ∀ m ∈ (fcs cs t).getD k [], dg (tm (cp c) m) ≤ (t.dep : Int) := by
  intro m hm
  unfold fcs at hm
  rcases mem_fct k c hk _ _ (lvs_ok t [] h) (by rw [List.length_replicate]) m hm with h1 | ⟨p, hp, h1, h2⟩
  · have : (List.replicate cs.length ([] : Po)).getD k [] = [] := by
      rw [List.getD_eq_getElem?_getD, List.getElem?_replicate]
      split <;> rfl
    rw [this] at h1
    cases h1
  · obtain ⟨⟨i, c', e1, e2, e3⟩, e4, e5⟩ := lvs_ok t [] h p hp
    have : i = k := by omega
    subst this
    rw [hk] at e2
    cases e2
    refine dg_le (by omega) fun z hz => ?_
    obtain ⟨x, hx, rfl⟩ := mem_tm hz
    have hz1 : InV p.2 (mon (x ++ m)) := inV_mon (inV_cp (fun l hl => ⟨-l, e3 l hl, absI_neg l⟩) x hx) (inV_prd m h2)
    have hl := sub_len (l := mon (x ++ m)) (m := p.2.map absI) (by unfold mon; exact ((srt_perm _).nodup_iff).mpr (nodup_dedup _)) fun v hv => by
      obtain ⟨l, h3, h4⟩ := hz1 v hv
      exact List.mem_map.mpr ⟨l, h3, h4.symm⟩
    rw [List.length_map] at hl
    simp at e5
    omega
end L34
end
section
set_option maxRecDepth 100000
set_option maxHeartbeats 1000000
namespace L34
open PySem PySem.Spec PyProof.Rows Md
theorem c_write_tree (m b : Nat) (cs : List (List Int)) (hnd : ∀ c ∈ cs, c.Nodup) (hb : b ≤ 20) : ∀ (t : Tr) (cube : List Int) (N : Nat) (st : List D) (cl : List (List Int)), TrOk m cs b t cube → t.dep ≤ N → Der m cs st cl → st.length + t.sz < 900 →
    ∃ (i : Nat) (st' : List D) (ex : List (List Int)) (c : List Int), Γ (N + 8) ("write_tree", none) [.ref 0, t.d] (SS m cs st cl) = some (.int (i : Int), SS m cs st' (cl ++ ex)) ∧ Der m cs st' (cl ++ ex) ∧ (cl ++ ex)[i]? = some c ∧ Good cube c ∧ st'.length ≤ st.length + t.sz
  | .leaf k, cube, N, st, cl, hT, hN, hS, hz => by
    have hl := hS.len
    obtain ⟨_, hC, i, c, rfl, h2, h3⟩ := hT
    have hn := c_next_ax (N + 2) m cs (SS m cs st cl) i c h2
    have hadd := c_add (N + 6) m cs st cl (axS i) c hn (by omega) (by omega)
    refine ⟨st.length, st ++ [axS i], [c], c, ?_, hS.snoc (.inl ⟨i, c, rfl, h2, by rw [hl, List.getElem?_append_right (Nat.le_refl _)]; simp⟩), ?_, ⟨hnd c (List.mem_of_getElem? h2), fun l hl => ?_⟩, by simp [Tr.sz]⟩
    · refine call_raw p_write_tree rfl (by decide) ?_
      simp [Tr.d, hadd, cap]
    · rw [hl, List.getElem?_append_right (Nat.le_refl _)]; simp
    · exact of_decide_eq_true (List.all_eq_true.mp h3 l hl)
  | .ask v lo hi, cube, N, st, cl, hT, hN, hS, hz => by
    have hl := hS.len
    obtain ⟨hb1, hC, hv, h1, h2⟩ := hT
    unfold Tr.dep at hN
    unfold Tr.sz at hz
    obtain ⟨N, rfl⟩ : ∃ K, N = K + 1 := ⟨N - 1, by omega⟩
    obtain ⟨i1, st1, ex1, c1, w1, S1, e1, g1, z1⟩ := c_write_tree m b cs hnd hb lo _ N st cl h1 (by omega) hS (by omega)
    obtain ⟨⟨v1, v2⟩, _⟩ := mem_free.mp hv
    have n1 := nth_cl (cl ++ ex1) (SS m cs st1 (cl ++ ex1)) e1
    by_cases hc : v ∈ c1
    · obtain ⟨i2, st2, ex2, c2, w2, S2, e2, g2, z2⟩ := c_write_tree m b cs hnd hb hi _ N st1 (cl ++ ex1) h2 (by omega) S1 (by omega)
      have e1' : (cl ++ ex1 ++ ex2)[i1]? = some c1 := by
        rw [List.getElem?_append_left (List.getElem?_eq_some_iff.mp e1).1]; exact e1
      have len1 : c1.length ≤ cube.length + 1 := by
        have := nodup_len g1.1 g1.2
        rw [len_srt] at this
        simpa using this
      have len2 : c2.length ≤ cube.length + 1 := by
        have := nodup_len g2.1 g2.2
        rw [len_srt] at this
        simpa using this
      obtain ⟨i3, st3, ex3, c3, w3, S3, e3, g3, z3⟩ := c_resolve (N + 1) m cs st2 (cl ++ ex1 ++ ex2) i1 i2 v c1 c2 cube e1' e2 ⟨by omega, v2⟩ hc hC.con g1 g2 (by omega) S2 (by omega)
      refine ⟨i3, st3, ex1 ++ ex2 ++ ex3, c3, ?_, ?_, ?_, g3, by unfold Tr.sz; omega⟩
      · refine call_raw p_write_tree rfl (by decide) ?_
        rw [show cl ++ (ex1 ++ ex2 ++ ex3) = cl ++ ex1 ++ ex2 ++ ex3 by simp only [List.append_assoc]]
        simp only [Nat.add_assoc] at w1 w2 w3
        simp only [Tr.d]
        generalize cl ++ ex1 ++ ex2 ++ ex3 = L3 at *
        generalize cl ++ ex1 ++ ex2 = L2 at *
        generalize cl ++ ex1 = L1 at *
        generalize lo.d = LO at *
        generalize hi.d = HI at *
        simp [w1, n1, hc, w2, w3, idxD]
      · simpa [List.append_assoc] using S3
      · simpa [List.append_assoc] using e3
    · refine ⟨i1, st1, ex1, c1, ?_, S1, e1, ⟨g1.1, fun l hl => ?_⟩, by unfold Tr.sz; omega⟩
      · refine call_raw p_write_tree rfl (by decide) ?_
        simp only [Tr.d]
        generalize cl ++ ex1 = L1 at *
        generalize lo.d = LO at *
        generalize hi.d = HI at *
        simp [w1, n1, hc, idxD]
      · rcases mem_add.mp (g1.2 l hl) with h | h
        · exact h
        · have : l = v := by omega
          exact absurd (this ▸ hl) hc
end L34
end
section
set_option maxRecDepth 100000
set_option maxHeartbeats 1000000
namespace L34
open PySem PySem.Spec PyProof.Rows Md
variable (n : Nat)
theorem c_sources_ax (s : Md.St) (i : Nat) : Γ (n + 1) ("sources", none) [axS i] s = some (.lst [], s) := by
  refine call_pure p_sources (by simp [nrs, nr]) rfl (by decide) (d := .lst []) (s1 := []) ?_ rfl
  simp [cap]
theorem c_sources_re (s : Md.St) (a b : Nat) (v : Int) : Γ (n + 1) ("sources", none) [reS a b v] s = some (.lst [.int (a : Int), .int (b : Int)], s) := by
  refine call_pure p_sources (by simp [nrs, nr]) rfl (by decide) (d := .lst [.int (a : Int), .int (b : Int)]) (s1 := []) ?_ rfl
  simp [cap]
theorem c_moved_ax (s : Md.St) (i : Nat) (p : D) : Γ (n + 1) ("moved", none) [axS i, p] s = some (axS i, s) := by
  refine call_raw p_moved rfl (by decide) ?_
  simp [cap]
theorem c_moved_re (s : Md.St) (a b : Nat) (v x y : Int) (p : Nat) (kvs : List (KK × D)) (hp : s[p]? = some (.dk kvs)) (ha : getK kvs (.inl (a : Int)) = some (.int x)) (hb : getK kvs (.inl (b : Int)) = some (.int y)) :
    Γ (n + 1) ("moved", none) [reS a b v, .ref p] s = some (.tup [.str "resolve", .int x, .int y, .int v], s) := by
  refine call_raw p_moved rfl (by decide) ?_
  simp [cap, idxD, hp, keyK, ha, hb]
/-- used indexes -/
def kv (us : List Nat) : List (KK × D) := us.map fun (k : Nat) => (.inl (k : Int), .bl true)
def addU (us : List Nat) (k : Nat) : List Nat := if k ∈ us then us else us ++ [k]
theorem put_kv (us : List Nat) (k : Nat) : putK (kv us) (.inl (k : Int)) (.bl true) = kv (addU us k) := by
  have h1 : ((kv us).any fun p => decide (p.1 = Sum.inl (k : Int))) = decide (k ∈ us) := by
    rw [Bool.eq_iff_iff, List.any_eq_true, decide_eq_true_eq]
    unfold kv
    constructor
    · rintro ⟨p, hp, e⟩
      obtain ⟨j, hj, rfl⟩ := List.mem_map.mp hp
      have e := of_decide_eq_true e
      have : j = k := by
        have : (j : Int) = (k : Int) := by simpa using e
        omega
      exact this ▸ hj
    · intro h
      exact ⟨_, List.mem_map.mpr ⟨k, h, rfl⟩, by simp⟩
  unfold putK addU
  rw [h1]
  by_cases h : k ∈ us
  · rw [if_pos h, decide_eq_true h, if_pos rfl]
    unfold kv
    rw [List.map_map]
    refine List.map_congr_left fun j _ => ?_
    simp
  · rw [if_neg h, decide_eq_false h]
    simp [kv]
theorem get_kv (us : List Nat) (k : Nat) : (getK (kv us) (.inl (k : Int))).isSome = decide (k ∈ us) := by
  induction us with
  | nil => rfl
  | cons j us ih =>
    show (if (Sum.inl (j : Int) : KK) = .inl (k : Int) then some (D.bl true) else getK (kv us) (.inl (k : Int))).isSome = _
    by_cases e : j = k
    · simp [e]
    · have e2 : ¬ k = j := fun h => e h.symm
      have : ¬ (Sum.inl (j : Int) : KK) = .inl (k : Int) := by
        intro h
        have : (j : Int) = (k : Int) := by simpa using h
        omega
      rw [if_neg this, ih]
      simp [e2]
theorem mem_addU {us : List Nat} {k j : Nat} : j ∈ addU us k ↔ j ∈ us ∨ j = k := by
  unfold addU
  split
  · rename_i h
    constructor
    · exact .inl
    · rintro (h1 | rfl)
      · exact h1
      · exact h
  · simp
theorem nodup_addU {us : List Nat} {k : Nat} (h : us.Nodup) : (addU us k).Nodup := by
  unfold addU
  split
  · exact h
  · rename_i hk
    refine List.nodup_append.mpr ⟨h, by simp, fun a ha b hb => ?_⟩
    rw [List.mem_singleton] at hb
    intro e
    exact hk (hb ▸ e ▸ ha)
theorem intKeys_kv : ∀ us : List Nat, intKeys (kv us) = some (us.map fun (k : Nat) => D.int (k : Int))
  | [] => rfl
  | k :: us => by
    show (intKeys (kv us)).map (D.int (k : Int) :: ·) = _
    rw [intKeys_kv us]
    rfl
theorem nodup_lt : ∀ {us : List Nat} {m : Nat}, us.Nodup → (∀ u ∈ us, u < m) → us.length ≤ m := by
  intro us m h1 h2
  have : us.length ≤ (List.range m).length := by
    have key : ∀ (l r : List Nat), l.Nodup → (∀ x ∈ l, x ∈ r) → l.length ≤ r.length := by
      intro l
      induction l with
      | nil => intro _ _ _; exact Nat.zero_le _
      | cons a l ih =>
        intro r h hr
        obtain ⟨h3, h4⟩ := List.nodup_cons.mp h
        have hl := hr a List.mem_cons_self
        have := ih (r.erase a) h4 fun x hx => (List.mem_erase_of_ne (fun e => h3 (by rw [← e]; exact hx))).mpr (hr x (List.mem_cons_of_mem _ hx))
        rw [List.length_erase_of_mem hl] at this
        have := List.length_pos_of_mem hl
        rw [List.length_cons]
        omega
    exact key us _ h1 fun x hx => List.mem_range.mpr (h2 x hx)
  simpa using this
def down : Nat → List Nat
  | 0 => []
  | k + 1 => k :: down k
theorem rng_down : ∀ k : Nat, rngI ((k : Int) - 1) k (-1) = (down k).map fun (j : Nat) => D.int (j : Int)
  | 0 => rfl
  | k + 1 => by
    have := rng_down k
    show D.int (((k + 1 : Nat) : Int) - 1) :: rngI (((k + 1 : Nat) : Int) - 1 + -1) k (-1) = D.int (k : Int) :: (down k).map _
    rw [← this]
    congr 2
    · omega
    · omega
/-- what a step uses is used -/
def Shut (st : List D) (us : List Nat) (u : Nat) : Prop := ∀ a b v, st[u]? = some (reS a b v) → a ∈ us ∧ b ∈ us
theorem Shut.mono {st : List D} {us vs : List Nat} {u : Nat} (h : Shut st us u) (hs : ∀ x ∈ us, x ∈ vs) : Shut st vs u := fun a b v e => ⟨hs _ (h a b v e).1, hs _ (h a b v e).2⟩
abbrev P1 (o0 o2 : O) (st : List D) (us : List Nat) : Md.St := [o0, .lst st, o2, .dk (kv us)]
def Inv1 (o0 o2 : O) (st : List D) (last : Nat) (l : List Nat) (ρ : Md.Env) (s : Md.St) : Prop :=
  ∃ (k : Nat) (us : List Nat) (x y : Option D), l = down k ∧ k ≤ st.length ∧ ρ = [some (.ref 1), some (.int (last : Int)), some (.ref 3), x, y, none, none] ∧ s = P1 o0 o2 st us ∧ us.Nodup ∧ (∀ u ∈ us, u < st.length) ∧ last ∈ us ∧ (∀ u ∈ us, u ≤ last) ∧ ∀ u ∈ us, u < k ∨ Shut st us u
theorem loop1 (o0 o2 : O) (st : List D) (last : Nat) (hlast : last < st.length) (hS : Steps st) (hsz : st.length < 60) :
    ∃ ρ' s', ex (Γ (n + 1)) T.gl (.forS (.v 3) (.rng (.cons (.var 1) (.cons (.neg (.int 1)) (.cons (.neg (.int 1)) .nil)))) (.ife (.cmp .isIn (.var 3) (.var 2)) (.forS (.v 4) (.call "sources" (.cons (.idx (.var 0) (.var 3)) .nil)) (.setI (.var 2) (.var 4) (.bl true))) .skip))
      [some (.ref 1), some (.int (last : Int)), some (.ref 3), none, none, none, none] (P1 o0 o2 st [last]) = some (.nx, ρ', s') ∧ Inv1 o0 o2 st last [] ρ' s' := by
  have hr : rngOf [.int (last : Int), .int (-1), .int (-1)] = some ((down (last + 1)).map fun (j : Nat) => D.int (j : Int)) := by
    have := rng_down (last + 1)
    rw [show ((last + 1 : Nat) : Int) - 1 = (last : Int) by omega] at this
    show (if _ then some (rngI (last : Int) ((last : Int) - -1).toNat (-1)) else none) = _
    rw [if_pos ⟨by omega, by omega, by omega, by omega⟩, ← this]
    congr 2
  refine for_st (down (last + 1)) (fun (j : Nat) => D.int (j : Int)) (Inv1 o0 o2 st last) (ev_rng (by simp) hr) rfl (fun _ => rfl) ⟨last + 1, [last], none, none, rfl, by omega, rfl, rfl, by simp, by simpa using hlast, by simp, by simp, by simp⟩ ?_
  rintro a t ρ s ⟨k, us, x, y, hl, hk, rfl, rfl, hnd, hlt, hin, hle, hsh⟩
  cases k with
  | zero => cases hl
  | succ k =>
    obtain ⟨e1, e2⟩ : k = a ∧ down k = t := by
      simp only [down, List.cons.injEq] at hl
      exact ⟨hl.1.symm, hl.2.symm⟩
    subst e1 e2
    have hget : (getK (kv us) (.inl (k : Int))).isSome = decide (k ∈ us) := get_kv us k
    by_cases hku : k ∈ us
    · obtain ⟨d, hd⟩ : ∃ d, st[k]? = some d := ⟨st[k], List.getElem?_eq_getElem (by omega)⟩
      have hn := fun s => nth_nat (xs := st) s hd
      cases hS k d hd with
      | ax i =>
        refine ⟨_, [some (.ref 1), some (.int (last : Int)), some (.ref 3), some (.int (k : Int)), y, none, none], P1 o0 o2 st us, rfl, ?_, k, us, _, y, rfl, by omega, rfl, rfl, hnd, hlt, hin, hle, fun u hu => ?_⟩
        · simp [memD, keyK, hget, hku, x_for, idxD, hn, c_sources_ax, seqOf, lstOf, forL]
        · rcases hsh u hu with h | h
          · rcases Nat.lt_or_ge u k with h2 | h2
            · exact .inl h2
            · have : u = k := by omega
              subst this
              exact .inr fun a b v e => by rw [hd] at e; cases e
          · exact .inr h
      | re a b v ha hb =>
        have ka : (kv us).length < cap := by
          have := nodup_lt hnd hlt
          unfold kv cap
          rw [List.length_map]
          omega
        have kb : (kv (addU us a)).length < cap := by
          have := nodup_lt (nodup_addU (k := a) hnd) (fun u hu => by
            rcases mem_addU.mp hu with h | h
            · exact hlt u h
            · omega : ∀ u ∈ addU us a, u < st.length)
          unfold kv cap
          rw [List.length_map]
          omega
        refine ⟨_, [some (.ref 1), some (.int (last : Int)), some (.ref 3), some (.int (k : Int)), some (.int (b : Int)), none, none], P1 o0 o2 st (addU (addU us a) b), rfl, ?_, k, addU (addU us a) b, _, _, rfl, by omega, rfl, rfl, nodup_addU (nodup_addU hnd), fun u hu => ?_, mem_addU.mpr (.inl (mem_addU.mpr (.inl hin))), fun u hu => ?_, fun u hu => ?_⟩
        · simp [memD, keyK, hget, hku, x_for, idxD, hn, c_sources_re, seqOf, lstOf, forL, Md.bindG, setAt, ka, kb, put_kv, stab]
        · rcases mem_addU.mp hu with h | h
          · rcases mem_addU.mp h with h | h
            · exact hlt u h
            · omega
          · omega
        · have hkl := hle k hku
          rcases mem_addU.mp hu with h | h
          · rcases mem_addU.mp h with h | h
            · exact hle u h
            · omega
          · omega
        · have mono : ∀ x ∈ us, x ∈ addU (addU us a) b := fun x hx => mem_addU.mpr (.inl (mem_addU.mpr (.inl hx)))
          rcases mem_addU.mp hu with h | h
          · rcases mem_addU.mp h with h | h
            · rcases hsh u h with h | h
              · rcases Nat.lt_or_ge u k with h2 | h2
                · exact .inl h2
                · have : u = k := by omega
                  subst this
                  refine .inr fun a' b' v' e => ?_
                  rw [hd] at e
                  simp only [Option.some.injEq, D.tup.injEq, List.cons.injEq, D.int.injEq, Int.natCast_inj] at e
                  obtain ⟨_, rfl, rfl, _⟩ := e
                  exact ⟨mem_addU.mpr (.inl (mem_addU.mpr (.inr rfl))), mem_addU.mpr (.inr rfl)⟩
              · exact .inr (h.mono mono)
            · left; omega
          · left; omega
    · refine ⟨_, [some (.ref 1), some (.int (last : Int)), some (.ref 3), some (.int (k : Int)), y, none, none], P1 o0 o2 st us, rfl, ?_, k, us, _, y, rfl, by omega, rfl, rfl, hnd, hlt, hin, hle, fun u hu => ?_⟩
      · simp [memD, keyK, hget, hku]
      · rcases hsh u hu with h | h
        · left
          have : u ≠ k := fun e => hku (e ▸ hu)
          omega
        · exact .inr h
end L34
end
section
set_option maxRecDepth 100000
set_option maxHeartbeats 1000000
namespace L34
open PySem PySem.Spec PyProof.Rows Md
variable (n : Nat)
abbrev P2 (o0 o2 : O) (st : List D) (us : List Nat) (pl : List (KK × D)) (fo : List D) : Md.St := [o0, .lst st, o2, .dk (kv us), .dk pl, .lst fo]
def Inv2 (o0 o2 : O) (st : List D) (cl : List (List Int)) (q : Int) (cs : List (List Int)) (last : Nat) (us : List Nat) (l : List Int) (ρ : Md.Env) (s : Md.St) : Prop :=
  ∃ (pl : List (KK × D)) (fo : List D) (fc : List (List Int)) (x y : Option D), ρ = [some (.ref 1), some (.int (last : Int)), some (.ref 3), x, y, some (.ref 4), some (.ref 5)] ∧ s = P2 o0 o2 st us pl fo ∧ l.Pairwise (· < ·) ∧ (∀ k ∈ l, ∃ j : Nat, k = (j : Int) ∧ j ∈ us) ∧
    (∀ u ∈ us, (u : Int) ∈ l ∨ ∃ (x : Nat) (c : List Int), getK pl (.inl (u : Int)) = some (.int (x : Int)) ∧ fc[x]? = some c ∧ cl[u]? = some c) ∧ pl.length + l.length ≤ 60 ∧ fo.length + l.length ≤ 60 ∧ nrAs 0 fo = true ∧ nrAs 3 fo = true ∧
    Der q cs fo fc ∧ (if l = [] then fc.getLast? = cl[last]? else (last : Int) ∈ l)
theorem srt_lt {l : List Int} (h : l.Nodup) : (srt l).Pairwise (· < ·) := by
  have h1 := srt_le l
  have h2 : (srt l).Nodup := ((srt_perm l).nodup_iff).mpr h
  exact (h1.and h2).imp fun {a b} ⟨h, g⟩ => by
    have : a ≠ b := g
    omega
theorem nrAs_snoc {m : Nat} {d : D} : ∀ {l : List D}, nrAs m l = true → nrA m d = true → nrAs m (l ++ [d]) = true
  | [], _, h => by simp [nrAs, h]
  | a :: l, h, hd => by
    rw [nrAs, Bool.and_eq_true] at h
    rw [List.cons_append, nrAs, h.1, nrAs_snoc h.2 hd]
    rfl
theorem loop2 (o0 o2 : O) (st : List D) (cl : List (List Int)) (q : Int) (cs : List (List Int)) (last : Nat) (us : List Nat) (x y : Option D) (hD : Der q cs st cl) (hsz : st.length < 60) (hnd : us.Nodup) (hlt : ∀ u ∈ us, u < st.length) (hsh : ∀ u ∈ us, Shut st us u) (hin : last ∈ us) (hle : ∀ u ∈ us, u ≤ last) :
    ∃ ρ' s', ex (Γ (n + 1)) T.gl (.forS (.v 3) (.bi .sorted false (.cons (.var 2) .nil)) (.seq (.setI (.var 5) (.var 3) (.bi .len false (.cons (.var 6) .nil))) (.exp (.bm .append false (.var 6) (.cons (.call "moved" (.cons (.idx (.var 0) (.var 3)) (.cons (.var 5) .nil))) .nil)))))
      [some (.ref 1), some (.int (last : Int)), some (.ref 3), x, y, some (.ref 4), some (.ref 5)] (P2 o0 o2 st us [] []) = some (.nx, ρ', s') ∧ Inv2 o0 o2 st cl q cs last us [] ρ' s' := by
  have hS := hD.steps
  have hu : us.length ≤ st.length := nodup_lt hnd hlt
  have hndI : (us.map fun (k : Nat) => (k : Int)).Nodup := List.pairwise_map.mpr (hnd.imp fun {a b} e h => e (by omega))
  have hsrt : biop .sorted false [.ref 3] (P2 o0 o2 st us [] []) = some (li (srt (us.map fun (k : Nat) => (k : Int))), P2 o0 o2 st us [] []) := by
    show (match sortArg (P2 o0 o2 st us [] []) (.ref 3) with | some xs => (sortD xs).map fun ys => mk false ys (P2 o0 o2 st us [] []) | none => none) = _
    have e : us.map (fun (k : Nat) => D.int (k : Int)) = (us.map fun (k : Nat) => (k : Int)).map D.int := by rw [List.map_map]; rfl
    have hl : (kv us).length < 64 := by unfold kv; rw [List.length_map]; omega
    simp only [sortArg, List.getElem?_cons_succ, List.getElem?_cons_zero, hl, if_true, intKeys_kv, e, sortD_int, Option.map_some, mk_false]
  have hlm : (last : Int) ∈ srt (us.map fun (k : Nat) => (k : Int)) := by
    rw [mem_srt]
    exact List.mem_map.mpr ⟨last, hin, rfl⟩
  refine for_st (s0 := P2 o0 o2 st us [] []) (x := li (srt (us.map fun (k : Nat) => (k : Int)))) (srt (us.map fun (k : Nat) => (k : Int))) D.int (Inv2 o0 o2 st cl q cs last us) (by simp [hsrt]) rfl (fun _ => rfl) ⟨[], [], [], x, y, rfl, rfl, srt_lt hndI, fun k hk => ?_, fun u hu => .inl ?_, ?_, ?_, rfl, rfl, der_nil q cs, ?_⟩ ?_
  · rw [mem_srt] at hk
    obtain ⟨j, hj, rfl⟩ := List.mem_map.mp hk
    exact ⟨j, rfl, hj⟩
  · rw [mem_srt]
    exact List.mem_map.mpr ⟨u, hu, rfl⟩
  · rw [len_srt, List.length_map]; simp; omega
  · rw [len_srt, List.length_map]; simp; omega
  · rw [if_neg (fun e => by rw [e] at hlm; cases hlm)]
    exact hlm
  · rintro k t ρ s ⟨pl, fo, fc, x, y, rfl, rfl, hp, hk, hget, hl1, hl2, hn0, hn3, hF, hend⟩
    rw [if_neg (by simp)] at hend
    obtain ⟨j, rfl, hj⟩ := hk k List.mem_cons_self
    have hjl := hlt j hj
    obtain ⟨d, hdj⟩ : ∃ d, st[j]? = some d := ⟨st[j], List.getElem?_eq_getElem hjl⟩
    have hn := fun s => nth_nat (xs := st) s hdj
    rw [List.length_cons] at hl1 hl2
    have hpc : pl.length < cap := by unfold cap; omega
    have hfc : fo.length < cap := by unfold cap; omega
    have hfl := hF.len
    obtain ⟨hp1, hp2⟩ := List.pairwise_cons.mp hp
    have hput := put_len pl (.inl (j : Int)) (.int (fo.length : Int))
    have next : ∀ (c : List Int), cl[j]? = some c → ∀ u ∈ us, (u : Int) ∈ t ∨ ∃ (x : Nat) (c' : List Int), getK (putK pl (.inl (j : Int)) (.int (fo.length : Int))) (.inl (u : Int)) = some (.int (x : Int)) ∧ (fc ++ [c])[x]? = some c' ∧ cl[u]? = some c' := by
      intro c hc u hu
      by_cases e : u = j
      · subst e
        exact .inr ⟨fo.length, c, get_put _ _ _, by rw [hfl, List.getElem?_append_right (Nat.le_refl _)]; simp, hc⟩
      · rcases hget u hu with h | ⟨x, c', h1, h2, h3⟩
        · left
          rcases List.mem_cons.mp h with h | h
          · omega
          · exact h
        · right
          have ne : (Sum.inl (u : Int) : KK) ≠ .inl (j : Int) := by
            intro h
            have : (u : Int) = (j : Int) := by simpa using h
            omega
          exact ⟨x, c', by rw [get_put_ne _ _ ne]; exact h1, by rw [List.getElem?_append_left (List.getElem?_eq_some_iff.mp h2).1]; exact h2, h3⟩
    have fin : ∀ (c : List Int), cl[j]? = some c → (if t = [] then (fc ++ [c]).getLast? = cl[last]? else (last : Int) ∈ t) := by
      intro c hc
      split
      · rename_i e
        rw [e, List.mem_singleton] at hend
        have : last = j := by omega
        rw [this, hc]
        simp
      · rename_i e
        rcases List.mem_cons.mp hend with h | h
        · obtain ⟨z, t', e2⟩ := List.exists_cons_of_ne_nil e
          have hz := hp1 z (by rw [e2]; exact List.mem_cons_self)
          obtain ⟨jz, rfl, hjz⟩ := hk z (List.mem_cons_of_mem _ (by rw [e2]; exact List.mem_cons_self))
          have := hle jz hjz
          omega
        · exact h
    rcases hD.at_ j d hdj with ⟨i, c, rfl, hc1, hc2⟩ | ⟨a, b, v, ca, cb, c, rfl, ha, hb, hca, hcb, hc2, hv, hx1, hx2⟩
    · refine ⟨_, [some (.ref 1), some (.int (last : Int)), some (.ref 3), some (.int (j : Int)), y, some (.ref 4), some (.ref 5)], P2 o0 o2 st us (putK pl (.inl (j : Int)) (.int (fo.length : Int))) (fo ++ [axS i]), rfl, ?_, _, _, fc ++ [c], _, _, rfl, rfl, hp2, fun k hk' => hk k (List.mem_cons_of_mem _ hk'), next c hc2, by omega, by rw [List.length_append]; simp; omega, nrAs_snoc hn0 rfl, nrAs_snoc hn3 rfl,
        hF.snoc (.inl ⟨i, c, rfl, hc1, by rw [hfl, List.getElem?_append_right (Nat.le_refl _)]; simp⟩), fin c hc2⟩
      simp [biop, op1, lenB, lenOf, setAt, keyK, hpc, hfc, idxD, hn, c_moved_ax, bmRecv, lstOf, bmop, hd, appendM]
    · obtain ⟨ma, mb⟩ := hsh j hj a b v hdj
      have old : ∀ u : Nat, u < j → u ∈ us → ∃ (x : Nat) (c' : List Int), getK (putK pl (.inl (j : Int)) (.int (fo.length : Int))) (.inl (u : Int)) = some (.int (x : Int)) ∧ fc[x]? = some c' ∧ cl[u]? = some c' := by
        intro u h1 h2
        rcases hget u h2 with h | ⟨x, c', h1', h2', h3'⟩
        · rcases List.mem_cons.mp h with h | h
          · omega
          · have := hp1 _ h
            omega
        · have ne : (Sum.inl (u : Int) : KK) ≠ .inl (j : Int) := by
            intro h
            have : (u : Int) = (j : Int) := by simpa using h
            omega
          exact ⟨x, c', by rw [get_put_ne _ _ ne]; exact h1', h2', h3'⟩
      obtain ⟨xa, ca', hxa, hfa, ea⟩ := old a ha ma
      obtain ⟨xb, cb', hxb, hfb, eb⟩ := old b hb mb
      have ea : ca' = ca := by rw [hca] at ea; cases ea; rfl
      have eb : cb' = cb := by rw [hcb] at eb; cases eb; rfl
      subst ea eb
      have la := (List.getElem?_eq_some_iff.mp hfa).1
      have lb := (List.getElem?_eq_some_iff.mp hfb).1
      have hm := c_moved_re n (P2 o0 o2 st us (putK pl (.inl (j : Int)) (.int (fo.length : Int))) fo) a b v (xa : Int) (xb : Int) 4 _ rfl hxa hxb
      refine ⟨_, [some (.ref 1), some (.int (last : Int)), some (.ref 3), some (.int (j : Int)), y, some (.ref 4), some (.ref 5)], P2 o0 o2 st us (putK pl (.inl (j : Int)) (.int (fo.length : Int))) (fo ++ [reS xa xb v]), rfl, ?_, _, _, fc ++ [c], _, _, rfl, rfl, hp2, fun k hk' => hk k (List.mem_cons_of_mem _ hk'), next c hc2, by omega, by rw [List.length_append]; simp; omega, nrAs_snoc hn0 rfl, nrAs_snoc hn3 rfl,
        hF.snoc (.inr ⟨xa, xb, v, _, _, c, rfl, by omega, by omega, by rw [List.getElem?_append_left la]; exact hfa, by rw [List.getElem?_append_left lb]; exact hfb, by rw [hfl, List.getElem?_append_right (Nat.le_refl _)]; simp, hv, hx1, hx2⟩), fin c hc2⟩
      simp [biop, op1, lenB, lenOf, setAt, keyK, hpc, hfc, idxD, hn, hm, bmRecv, lstOf, bmop, hd, appendM]
theorem nrAs_steps : ∀ {st : List D}, (∀ d ∈ st, ∃ k, StOk k d) → nrAs 3 st = true
  | [], _ => rfl
  | d :: st, h => by
    rw [nrAs, nrAs_steps fun e he => h e (List.mem_cons_of_mem _ he)]
    obtain ⟨k, hk⟩ := h d List.mem_cons_self
    cases hk <;> rfl
theorem steps_nr {st : List D} (hS : Steps st) : nrAs 3 st = true := nrAs_steps fun d hd => by
  obtain ⟨i, hi, e⟩ := List.mem_iff_getElem.mp hd
  exact ⟨i, hS i d (List.getElem?_eq_some_iff.mpr ⟨hi, e⟩)⟩
theorem c_pruned (o0 o2 : O) (st : List D) (cl : List (List Int)) (q : Int) (cs : List (List Int)) (last : Nat) (h0 : nrO 3 o0 = true) (h2 : nrO 3 o2 = true) (hlast : last < st.length) (hD : Der q cs st cl) (hsz : st.length < 60) :
    ∃ fo fc, Γ (n + 2) ("pruned_to", none) [.ref 1, .int (last : Int)] [o0, .lst st, o2] = some (.tup fo, [o0, .lst st, o2]) ∧ nrAs 0 fo = true ∧ Der q cs fo fc ∧ fc.getLast? = cl[last]? ∧ fo.length ≤ 60 := by
  have hS := hD.steps
  obtain ⟨ρ1, s1, f1, k, us, x, y, e0, _, rfl, rfl, hnd, hlt, hin, hle, hsh⟩ := loop1 n o0 o2 st last hlast hS hsz
  have hk : k = 0 := by cases k with | zero => rfl | succ k => cases e0
  have hsh : ∀ u ∈ us, Shut st us u := fun u hu => by
    rcases hsh u hu with h | h
    · omega
    · exact h
  obtain ⟨ρ2, s2, f2, pl, fo, fc, x2, y2, rfl, rfl, _, _, _, _, hl2, n0, n3, hF, hend⟩ := loop2 n o0 o2 st cl q cs last us x y hD hsz hnd hlt hsh hin hle
  rw [if_pos rfl] at hend
  refine ⟨fo, fc, call_tidy (s1 := P2 o0 o2 st us pl fo) (d := .tup fo) p_pruned_to rfl (by decide) ?_ ?_ ?_, n0, hF, hend, by simpa using hl2⟩
  · have hp : putK ([] : List (KK × D)) (.inl (last : Int)) (.bl true) = kv [last] := rfl
    have f1 : ex (Γ (n + 1)) T.gl _ [some (.ref 1), some (.int (last : Int)), some (.ref 3), none, none, none, none] [o0, .lst st, o2, .dk (kv [last])] = _ := f1
    simp [pairsK, keyK, Md.putAll, hp, f1, f2, biop, op1, tupleB, seqOf, lstOf]
  · show (nrO 3 o0 && (nrO 3 (.lst st) && (nrO 3 o2 && true))) = true
    rw [h0, h2]
    simp [nrO, steps_nr hS]
  · simp [fzA, nrA, n3]
theorem nrO_SS (q : Int) (cs : List (List Int)) : nrO 3 (.ins "Shortener" [("formula", fm q cs), ("steps", .ref 1), ("clauses", .ref 2)]) = true := by
  simp [nrO, nrAs, nrA]
theorem nr_tr1 : ∀ t : Tr, nr t.d = true
  | .leaf k => rfl
  | .ask v lo hi => by
    simp only [Tr.d, nr, nrs, nr_tr1 lo, nr_tr1 hi, Bool.and_self]
theorem c_steps_of_tree (m : Nat) (cs : List (List Int)) (hm : m ≤ 4) (hnd : ∀ c ∈ cs, c.Nodup) (t : Tr) (hT : TrOk m cs 5 t []) (s : Md.St) : ∃ fo fc, Γ (n + 13) ("steps_of_tree", none) [fm m cs, t.d] s = some (.tup fo, s) ∧ nrAs 0 fo = true ∧ Der m cs fo fc ∧ fc.getLast? = some [] ∧ fo.length ≤ 60 := by
  have hf := free_len m []
  have hd1 := dep_le hT
  have hz1 := sz_le hT
  have hz2 : 2 ^ ((free m []).length + 1) ≤ 2 ^ 5 := Nat.pow_le_pow_right (by omega) (by omega)
  obtain ⟨i, st, ex, c, hw, hD, hi, hg, hz⟩ := c_write_tree m 5 cs hnd (by omega) t [] (n + 4) [] [] hT (by omega) (der_nil m cs) (by simp; omega)
  have hl := hD.len
  have hil : i < st.length := by rw [hl]; exact (List.getElem?_eq_some_iff.mp hi).1
  simp only [List.nil_append, List.length_nil, Nat.zero_add] at hw hl hz hD hi
  have hc : c = [] := by
    cases c with
    | nil => rfl
    | cons l t => exact absurd (hg.2 l List.mem_cons_self) (by simp)
  subst hc
  obtain ⟨fo, fc, hp, hn0, hF, hend, hlen⟩ := c_pruned (n + 10) _ (.lst (ex.map ti)) st ex m cs i (nrO_SS m cs) (by simp [nrO]) hil hD (by omega)
  rw [hi] at hend
  have h0 := c_init (n + 11) m cs
  refine ⟨fo, fc, call_pure (d := .tup fo) (s1 := SS m cs st ex) p_steps_of_tree (by simp [nrs, nr, nr_tr1]) rfl (by decide) ?_ (by simp [fzA, nrA, hn0]), hn0, hF, hend, hlen⟩
  generalize t.d = T0 at *
  simp [h0, hw, hp]
end L34
end
section
set_option maxRecDepth 100000
set_option maxHeartbeats 1000000
namespace L34
open PySem PySem.Spec PyProof.Rows Md
variable (n : Nat) (s : Md.St)
theorem sr_up (k : Nat) (cs : List (List Int)) : ∀ (m : Nat) (cube : List Int) (r : List Int ⊕ Tr), sr k cs m cube = some r → sr k cs (m + 1) cube = some r
  | 0, _, _, h => by cases h
  | m + 1, cube, r, h => by
    unfold sr at h ⊢
    split
    · rename_i h0
      rw [if_pos h0] at h
      exact h
    · rename_i h0
      rw [if_neg h0] at h
      cases hf : free k cube with
      | nil => rw [hf] at h; exact h
      | cons v t =>
        rw [hf] at h
        dsimp only at h ⊢
        cases h1 : sr k cs m (srt (cube ++ [-v])) with
        | none => rw [h1] at h; cases h
        | some r1 =>
          rw [h1] at h
          rw [sr_up k cs m _ _ h1]
          cases r1 with
          | inl w => exact h
          | inr lo =>
            dsimp only at h ⊢
            cases h2 : sr k cs m (srt (cube ++ [v])) with
            | none => rw [h2] at h; cases h
            | some r2 =>
              rw [h2] at h
              rw [sr_up k cs m _ _ h2]
              exact h
theorem sr_ups (k : Nat) (cs : List (List Int)) (m : Nat) (cube : List Int) (r : List Int ⊕ Tr) (h : sr k cs m cube = some r) : ∀ j, sr k cs (m + j) cube = some r
  | 0 => h
  | j + 1 => sr_up k cs (m + j) cube r (sr_ups k cs m cube r h j)
theorem c_solve (m : Nat) (cs : List (List Int)) (hm : m ≤ 4) (hnd : ∀ c ∈ cs, c.Nodup) (r : List Int ⊕ Tr) (hr : sr m cs 5 [] = some r) (hn : n < 800) (hT : match r with
    | .inl _ => True
    | .inr t => TrOk m cs 5 t []) : match r with
    | .inl w => Γ (n + 14) ("solve", none) [fm m cs] s = some (.tup [.str "model", ti w], s)
    | .inr _ => ∃ fo fc, Γ (n + 14) ("solve", none) [fm m cs] s = some (.tup [.str "refutation", .tup fo], s) ∧ nrAs 0 fo = true ∧ Der m cs fo fc ∧ fc.getLast? = some [] ∧ fo.length ≤ 60 := by
  have hr := sr_ups m cs 5 [] r hr (n + 5)
  rw [show 5 + (n + 5) = n + 10 by omega] at hr
  have h0 := c_search m cs (by omega) (n + 10) [] r [] hr (by simp; omega)
  cases r with
  | inl w =>
    refine call_pure (d := .tup [.str "model", ti w]) (s1 := []) p_solve (by simp [nrs, nr]) rfl (by decide) ?_ (by simp [fzA, nrA, nrAs])
    have h0 : Γ (n + 13) ("search", none) [fm m cs, .tup []] [] = some (.tup [ti w, .non], []) := h0
    simp [h0, Md.bindG, cap]
  | inr t =>
    obtain ⟨fo, fc, ht, hz, hD, hend, hlen⟩ := c_steps_of_tree n m cs hm hnd t hT []
    have hz' : nrA 0 (.tup fo) = true := hz
    refine ⟨fo, fc, call_pure (d := .tup [.str "refutation", .tup fo]) (s1 := []) p_solve (by simp [nrs, nr]) rfl (by decide) ?_ (by simp [fzA, nrA, nrAs] at hz' ⊢; exact hz'), hz, hD, hend, hlen⟩
    have h0 : Γ (n + 13) ("search", none) [fm m cs, .tup []] [] = some (.tup [.non, t.d], []) := h0
    generalize t.d = T0 at *
    simp [h0, ht, Md.bindG, cap]
theorem c_cell (ns : List Int) (k : Nat) : Γ (n + 1) ("_law_cell", none) [.scr ns, .int (k : Int)] s = some (.int (ns.getD k 0), s) := by
  refine call_pure p__law_cell (by simp [nrs, nr]) rfl (by decide) (d := .int (ns.getD k 0)) (s1 := []) ?_ rfl
  by_cases h : k < ns.length
  · have hn := nth_nat (xs := ns.map D.int) (k := k) [] (d := .int ns[k]) (by rw [List.getElem?_map, List.getElem?_eq_getElem h]; rfl)
    simp [h, idxD, hn, List.getD]
  · simp [h, List.getD]
theorem c_true (cube c : List Int) : Γ (n + 1) ("_law_true", none) [ti cube, ti c] s = some (.bl (sats cube c), s) := by
  have hc : ev (Γ n) T.gl (.comp false [2] (.v 2) (.var 1) (.cmp .isIn (.var 2) (.var 0)) (.var 2)) [some (ti cube), some (ti c), none] [] = some (.lst ((c.filter fun l => decide (l ∈ cube)).map D.int), []) :=
    comp_p c D.int (fun l => decide (l ∈ cube)) D.int (fun a => [some (ti cube), some (ti c), some (.int a)]) rfl rfl rfl (fun _ _ => rfl) (fun a _ => by simp) (fun _ _ _ => rfl)
  refine call_pure p__law_true (by simp [nrs, nr]) rfl (by decide) (d := .bl (sats cube c)) (s1 := []) ?_ rfl
  simp [hc, ← pos_filt, sats]
theorem c_kind_int (i : Int) : Γ (n + 1) ("_law_kind", none) [.int i] s = some (.int 2, s) := by
  refine call_pure p__law_kind (by simp [nrs, nr]) rfl (by decide) (d := .int 2) (s1 := []) ?_ rfl
  simp [tyOf, instOf]
theorem c_equal (i j : Int) : Γ (n + 2) ("_law_equal", none) [.int i, .int j] s = some (.bl (decide (i = j)), s) := by
  refine call_pure p__law_equal (by simp [nrs, nr]) rfl (by decide) (d := .bl (decide (i = j))) (s1 := []) ?_ rfl
  simp [c_kind_int, tyOf, instOf]
theorem c_cubes (k : Nat) (hk : 1 ≤ k ∧ k ≤ 4) : Γ (n + 1) ("_law_cubes", none) [.int (k : Int)] s = some (.lst ((cubes k).map ti), s) := by
  obtain ⟨h1, h2⟩ := hk
  have key : k = 1 ∨ k = 2 ∨ k = 3 ∨ k = 4 := by omega
  rcases key with rfl | rfl | rfl | rfl
  · exact call_pure (d := .lst ((cubes 1).map ti)) (s1 := []) p__law_cubes (by simp [nrs, nr]) rfl (by decide) (by kernel_rfl) (by kernel_rfl)
  · exact call_pure (d := .lst ((cubes 2).map ti)) (s1 := []) p__law_cubes (by simp [nrs, nr]) rfl (by decide) (by kernel_rfl) (by kernel_rfl)
  · exact call_pure (d := .lst ((cubes 3).map ti)) (s1 := []) p__law_cubes (by simp [nrs, nr]) rfl (by decide) (by kernel_rfl) (by kernel_rfl)
  · exact call_pure (d := .lst ((cubes 4).map ti)) (s1 := []) p__law_cubes (by simp [nrs, nr]) rfl (by decide) (by kernel_rfl) (by kernel_rfl)
end L34
end
section
set_option maxRecDepth 100000
set_option maxHeartbeats 1000000
namespace L34
open PySem PySem.Spec PyProof.Rows Md
variable (n : Nat)
theorem op_mod (m : Bool) (a b : Int) (s : Md.St) (h : 0 < b) : binop .mod m (.int a) (.int b) s = some (.int (a % b), s) := by
  show (if 0 < b then some (a % b) else none).map _ = _
  rw [if_pos h]; rfl
theorem op_fdiv (m : Bool) (a b : Int) (s : Md.St) (h : 0 < b ∧ b < 1073741824) : binop .fdiv m (.int a) (.int b) s = some (.int (a / b), s) := by
  show (if 0 < b ∧ b < 1073741824 then some (a / b) else none).map _ = _
  rw [if_pos h]; rfl
theorem op_mul (m : Bool) (a b : Int) (s : Md.St) (h : (-18446744073709551616 < a ∧ a < 18446744073709551616) ∨ (-18446744073709551616 < b ∧ b < 18446744073709551616)) : binop .mul m (.int a) (.int b) s = some (.int (a * b), s) := by
  show (if (-big < a ∧ a < big) ∨ (-big < b ∧ b < big) then some (a * b) else none).map _ = _
  rw [if_pos (by unfold big; exact h)]; rfl
theorem op_pow (m : Bool) (s : Md.St) : binop .pow m (.int 10) (.int 18) s = some (.int 1000000000000000000, s) := by kernel_rfl
theorem rng_n (k : Nat) (h : k ≤ 1000) : rngOf [.int (k : Int)] = some ((List.range k).map fun (i : Nat) => D.int (i : Int)) := by
  show (if _ then some (rngI 0 (k : Int).toNat 1) else none) = _
  rw [if_pos ⟨by omega, by omega⟩, rng_map, show (k : Int).toNat = k by omega]
  refine congrArg some (List.map_congr_left fun i _ => ?_)
  congr 1
  omega
/-- small numbers -/
def Sm (rows : List Int) : Prop := ∀ r ∈ rows, 0 ≤ r ∧ r < 4099
theorem Sm.snoc {rows : List Int} {x : Int} (h : Sm rows) (hx : 0 ≤ x ∧ x < 4099) : Sm (rows ++ [x]) := fun r hr => by
  rcases List.mem_append.mp hr with hr | hr
  · exact h r hr
  · rw [List.mem_singleton.mp hr]; exact hx
theorem md_b (a b : Int) (h : 0 < b) : 0 ≤ a % b ∧ a % b < b := ⟨Int.emod_nonneg _ (by omega), Int.emod_lt_of_pos _ h⟩
def nC : E := (.and (.cmp .ge (.var 0) (.bin .pow false (.int 10) (.int 18))) (.one (.cmp .gt (.var 3) (.int 0))))
def nA : S := (.seq (.exp (.bm .append false (.var 2) (.cons (.bin .mod false (.bi .int false (.cons (.var 3) .nil)) (.int 4099)) .nil))) (.asg 3 (.bin .fdiv false (.var 3) (.int 4099))))
def nB : S := (.seq (.asg 5 (.bin .mod false (.bi .int false (.cons (.bin .add false (.bin .mul false (.var 0) (.int 69621)) (.bin .mul false (.bin .add false (.var 4) (.int 1)) (.int 48271))) .nil)) (.int 2147483647))) (.seq (.asg 5 (.bin .mod false (.bi .int false (.cons (.bin .add false (.bin .add false (.bin .mul false (.var 5) (.var 5)) (.bin .mul false (.var 5) (.int 16807))) (.bin .mul false (.var 4) (.int 7919))) .nil)) (.int 2147483629))) (.seq (.asg 5 (.bin .mod false (.bi .int false (.cons (.bin .add false (.bin .add false (.bin .mul false (.var 5) (.var 5)) (.var 0)) (.bin .mul false (.int 17) (.var 4))) .nil)) (.int 2147483587))) (.exp (.bm .append false (.var 2) (.cons (.bin .mod false (.bin .fdiv false (.var 5) (.int 5)) (.int 4099)) .nil))))))
def nS1 : S := (.asg 5 (.bin .mod false (.bi .int false (.cons (.bin .add false (.bin .mul false (.var 0) (.int 69621)) (.bin .mul false (.bin .add false (.var 4) (.int 1)) (.int 48271))) .nil)) (.int 2147483647)))
abbrev nR (cell left : Int) (many : Nat) (x y : Option D) : Md.Env := [some (.int cell), some (.int (many : Int)), some (.ref 0), some (.int left), x, y]
theorem nC_at (cell left : Int) (many : Nat) (x y : Option D) (s : Md.St) : ev (Γ n) T.gl nC (nR cell left many x y) s = some (.bl (decide (1000000000000000000 ≤ cell) && decide (0 < left)), s) := by
  unfold nC
  by_cases h : 1000000000000000000 ≤ cell
  · simp [op_pow, h]
  · simp [op_pow, h]
theorem nA_at (cell left : Int) (many : Nat) (x y : Option D) (rows : List Int) (hl : rows.length < 1000) : ex (Γ n) T.gl nA (nR cell left many x y) (so rows) = some (.nx, nR cell (left / 4099) many x y, so (rows ++ [left % 4099])) := by
  unfold nA
  simp [op_mod, op_fdiv, app_so, hl]
theorem nB_gen (c1 c2 c3 c4 c5 c6 c7 p1 p2 p3 p4 : Int) (cell left k m1 m2 m3 m4 : Int) (many : Nat) (y : Option D) (rows : List Int) (hl : rows.length < 1000)
    (o3 : ∀ a s, binop .mul false (.int a) (.int c1) s = some (.int (a * c1), s)) (o4 : ∀ a s, binop .mul false (.int a) (.int c2) s = some (.int (a * c2), s)) (o5 : ∀ a s, binop .mul false (.int a) (.int c3) s = some (.int (a * c3), s)) (o6 : ∀ a s, binop .mul false (.int a) (.int c4) s = some (.int (a * c4), s)) (o7 : ∀ a s, binop .mul false (.int c5) (.int a) s = some (.int (c5 * a), s))
    (o1 : ∀ s, binop .mul false (.int m1) (.int m1) s = some (.int (m1 * m1), s)) (o2 : ∀ s, binop .mul false (.int m2) (.int m2) s = some (.int (m2 * m2), s))
    (q1 : ∀ s, binop .mod false (.int (cell * c1 + (k + c7) * c2)) (.int p1) s = some (.int m1, s)) (q2 : ∀ s, binop .mod false (.int (m1 * m1 + m1 * c3 + k * c4)) (.int p2) s = some (.int m2, s)) (q3 : ∀ s, binop .mod false (.int (m2 * m2 + cell + c5 * k)) (.int p3) s = some (.int m3, s))
    (q4 : ∀ s, binop .fdiv false (.int m3) (.int c6) s = some (.int (m3 / c6), s)) (q5 : ∀ s, binop .mod false (.int (m3 / c6)) (.int p4) s = some (.int m4, s)) :
    ex (Γ n) T.gl ((.seq (.asg 5 (.bin .mod false (.bi .int false (.cons (.bin .add false (.bin .mul false (.var 0) (.int c1)) (.bin .mul false (.bin .add false (.var 4) (.int c7)) (.int c2))) .nil)) (.int p1))) (.seq (.asg 5 (.bin .mod false (.bi .int false (.cons (.bin .add false (.bin .add false (.bin .mul false (.var 5) (.var 5)) (.bin .mul false (.var 5) (.int c3))) (.bin .mul false (.var 4) (.int c4))) .nil)) (.int p2))) (.seq (.asg 5 (.bin .mod false (.bi .int false (.cons (.bin .add false (.bin .add false (.bin .mul false (.var 5) (.var 5)) (.var 0)) (.bin .mul false (.int c5) (.var 4))) .nil)) (.int p3))) (.exp (.bm .append false (.var 2) (.cons (.bin .mod false (.bin .fdiv false (.var 5) (.int c6)) (.int p4)) .nil))))))) (nR cell left many (some (.int k)) y) (so rows) = some (.nx, nR cell left many (some (.int k)) (some (.int m3)), so (rows ++ [m4])) := by
  have happ := app_so false rows m4 hl
  simp [o1, o2, o3, o4, o5, o6, o7, q1, q2, q3, q4, q5, happ]
theorem nB_at (cell left : Int) (many : Nat) (k : Nat) (y : Option D) (rows : List Int) (hl : rows.length < 1000) : ∃ y' v, (0 ≤ v ∧ v < 4099) ∧ ex (Γ n) T.gl nB (nR cell left many (some (.int (k : Int))) y) (so rows) = some (.nx, nR cell left many (some (.int (k : Int))) y', so (rows ++ [v])) := by
  have hm1 := md_b (cell * 69621 + ((k : Int) + 1) * 48271) 2147483647 (by omega)
  generalize hq1 : (cell * 69621 + ((k : Int) + 1) * 48271) % 2147483647 = m1 at hm1
  have hm2 := md_b (m1 * m1 + m1 * 16807 + (k : Int) * 7919) 2147483629 (by omega)
  generalize hq2 : (m1 * m1 + m1 * 16807 + (k : Int) * 7919) % 2147483629 = m2 at hm2
  have hm3 := md_b (m2 * m2 + cell + 17 * (k : Int)) 2147483587 (by omega)
  generalize hq3 : (m2 * m2 + cell + 17 * (k : Int)) % 2147483587 = m3 at hm3
  exact ⟨some (.int m3), m3 / 5 % 4099, md_b _ _ (by omega), nB_gen n 69621 48271 16807 7919 17 5 1 2147483647 2147483629 2147483587 4099 cell left k m1 m2 m3 (m3 / 5 % 4099) many y rows hl
    (fun a s => op_mul false a 69621 s (.inr ⟨by omega, by omega⟩)) (fun a s => op_mul false a 48271 s (.inr ⟨by omega, by omega⟩)) (fun a s => op_mul false a 16807 s (.inr ⟨by omega, by omega⟩)) (fun a s => op_mul false a 7919 s (.inr ⟨by omega, by omega⟩)) (fun a s => op_mul false 17 a s (.inl ⟨by omega, by omega⟩))
    (fun s => op_mul false m1 m1 s (.inl ⟨by omega, by omega⟩)) (fun s => op_mul false m2 m2 s (.inl ⟨by omega, by omega⟩))
    (fun s => by rw [op_mod _ _ _ _ (by omega), hq1]) (fun s => by rw [op_mod _ _ _ _ (by omega), hq2]) (fun s => by rw [op_mod _ _ _ _ (by omega), hq3]) (fun s => op_fdiv _ _ _ _ ⟨by omega, by omega⟩) (fun s => op_mod _ _ _ _ (by omega))⟩
theorem c_numbers (s : Md.St) (cell : Int) (many : Nat) (hmany : many ≤ 100) : ∃ rows : List Int, Γ (n + 1) ("_law_numbers", none) [.int cell, .int (many : Int)] s = some (li rows, s) ∧ rows.length = many ∧ Sm rows := by
  have hr := rng_n many (by omega)
  obtain ⟨ρ, s1, hf, rows, left, x, y, rfl, rfl, hl, hS⟩ := for_st (Γ := Γ n) (gl := T.gl) (g := .v 4) (it := .rng (.cons (.var 1) .nil)) (b := .ife nC nA nB)
    (ρ := [some (.int cell), some (.int (many : Int)), some (.ref 0), some (.int cell), none, none]) (s := so []) (s0 := so []) (List.range many) (fun (i : Nat) => D.int (i : Int))
    (fun l ρ s => ∃ (rows : List Int) (left : Int) (x y : Option D), ρ = [some (.int cell), some (.int (many : Int)), some (.ref 0), some (.int left), x, y] ∧ s = so rows ∧ rows.length + l.length = many ∧ Sm rows)
    (ev_rng (vs := [.int (many : Int)]) (by simp) hr) rfl (fun _ => rfl) ⟨[], cell, none, none, rfl, rfl, by simp, fun r h => (by cases h)⟩ (by
      rintro k t ρ s ⟨rows, left, x, y, rfl, rfl, hl, hS⟩
      rw [List.length_cons] at hl
      have hcond := nC_at n cell left many (some (.int (k : Int))) y (so rows)
      cases hb : (decide (1000000000000000000 ≤ cell) && decide (0 < left)) with
      | true =>
        rw [hb] at hcond
        refine ⟨_, nR cell (left / 4099) many (some (.int (k : Int))) y, so (rows ++ [left % 4099]), rfl, ?_, _, _, _, _, rfl, rfl, by simp; omega, hS.snoc (md_b _ _ (by omega))⟩
        rw [x_ife]
        show bnd (ev (Γ n) T.gl nC (nR cell left many (some (.int (k : Int))) y) (so rows)) _ = _
        rw [hcond, bnd_some, truth_bl]
        exact nA_at n cell left many _ y rows (by omega)
      | false =>
        rw [hb] at hcond
        obtain ⟨y', v, hv, hB⟩ := nB_at n cell left many k y rows (by omega)
        refine ⟨_, nR cell left many (some (.int (k : Int))) y', so (rows ++ [v]), rfl, ?_, _, _, _, _, rfl, rfl, by simp; omega, hS.snoc hv⟩
        rw [x_ife]
        show bnd (ev (Γ n) T.gl nC (nR cell left many (some (.int (k : Int))) y) (so rows)) _ = _
        rw [hcond, bnd_some, truth_bl]
        exact hB)
  refine ⟨rows, ?_, by simpa using hl, hS⟩
  refine call_pure p__law_numbers (by simp [nrs, nr]) rfl (by decide) (d := .ref 0) (s1 := so rows) ?_ (by simp [fzA])
  have e : so ([] : List Int) = [O.lst []] := rfl
  rw [e] at hf
  unfold nC nA nB at hf
  simp [hf]
end L34
end
section
set_option maxRecDepth 100000
set_option maxHeartbeats 1000000
namespace L34
open PySem PySem.Spec PyProof.Rows Md
variable (n : Nat)
theorem add_li (m : Bool) (s : Md.St) (a b : List Int) (h : a.length + b.length ≤ 1000) : binop .add false (li a) (li b) s = some (li (a ++ b), s) := by
  show (if (a.map D.int).length + (b.map D.int).length ≤ cap then some (mk false (a.map D.int ++ b.map D.int) s) else none) = _
  rw [if_pos (by rw [List.length_map, List.length_map]; unfold cap; omega), ← List.map_append]
  rfl
/-- the pool -/
abbrev PL (rows : List Int) : D := .lst [li rows, .ref 0]
abbrev PS (a : Nat) (X : Md.St) : Md.St := .lst [.int (a : Int)] :: X
structure PoolOk (rows : List Int) : Prop where
  pos : 0 < rows.length
  len : rows.length ≤ 144
  sm : Sm rows
theorem c_pool (ns : List Int) : ∃ rows, PoolOk rows ∧ Γ (n + 2) ("_law_pool", none) [.scr ns] [] = some (PL rows, PS 0 []) := by
  obtain ⟨J, hJ1, hJ2, hJ⟩ : ∃ J : Nat, 1 ≤ J ∧ J ≤ 6 ∧ (if (if (ns.length : Int) > 1 then (ns.length : Int) else 1) < 6 then (if (ns.length : Int) > 1 then (ns.length : Int) else 1) else 6) = (J : Int) := by
    by_cases h1 : (ns.length : Int) > 1
    · by_cases h2 : (ns.length : Int) < 6
      · exact ⟨ns.length, by omega, by omega, by rw [if_pos h1, if_pos h2]⟩
      · exact ⟨6, by omega, by omega, by rw [if_pos h1, if_neg h2]; rfl⟩
    · exact ⟨1, by omega, by omega, by rw [if_neg h1, if_pos (by omega)]; rfl⟩
  have hr := rng_n J (by omega)
  obtain ⟨ρ, s1, hf, rows, x, rfl, rfl, hl, hS⟩ := for_st (Γ := Γ (n + 1)) (gl := T.gl) (g := .v 2) (it := .rng (.cons (.bi .min2 false (.cons (.int 6) (.cons (.bi .max2 false (.cons (.int 1) (.cons (.bi .len false (.cons (.var 0) .nil)) .nil))) .nil))) .nil)) (b := .asg 1 (.bin .add false (.var 1) (.call "_law_numbers" (.cons (.bin .add false (.call "_law_cell" (.cons (.var 0) (.cons (.var 2) .nil))) (.bin .mul false (.int 11) (.var 2))) (.cons (.int 24) .nil)))))
    (ρ := [some (.scr ns), some (li []), none]) (s := []) (s0 := []) (List.range J) (fun (i : Nat) => D.int (i : Int))
    (fun l ρ s => ∃ (rows : List Int) (x : Option D), ρ = [some (.scr ns), some (li rows), x] ∧ s = [] ∧ rows.length + 24 * l.length = 24 * J ∧ Sm rows)
    (ev_rng (vs := [.int (J : Int)]) (by simp; exact hJ) hr) rfl (fun _ => rfl) ⟨[], none, rfl, rfl, by simp, fun r h => (by cases h)⟩ (by
      rintro k t ρ s ⟨rows, x, rfl, rfl, hl, hS⟩
      rw [List.length_cons] at hl
      obtain ⟨r2, hn, hl2, hS2⟩ := c_numbers n [] (ns.getD k 0 + 11 * (k : Int)) 24 (by omega)
      have hn : Γ (n + 1) ("_law_numbers", none) [.int (ns.getD k 0 + 11 * (k : Int)), .int 24] [] = some (li r2, []) := hn
      have ha := add_li false [] rows r2 (by omega)
      have hm := fun s => op_mul false 11 (k : Int) s (.inl ⟨by omega, by omega⟩)
      have hc := c_cell n [] ns k
      refine ⟨_, [some (.scr ns), some (li (rows ++ r2)), some (.int (k : Int))], [], rfl, ?_, _, _, rfl, rfl, by rw [List.length_append]; omega, fun r hr => ?_⟩
      · generalize ns.getD k 0 = cell at *
        simp [hc, hm, hn, ha, -List.map_append]
      · rcases List.mem_append.mp hr with h | h
        · exact hS r h
        · exact hS2 r h)
  rw [List.length_nil] at hl
  refine ⟨rows, ⟨by omega, by omega, hS⟩, ?_⟩
  refine call_raw p__law_pool rfl (by decide) ?_
  have e : li ([] : List Int) = .lst [] := rfl
  rw [e] at hf
  simp [hf, cap]
theorem setAt_0 (x v : D) (xs : List D) (X : Md.St) : setAt (.ref 0) (.int 0) v (.lst (x :: xs) :: X) = some (.lst (v :: xs) :: X) := by
  simp [setAt, ixOf]
theorem t1 (rows : List Int) (a m : Nat) (X : Md.St) : ev (Γ n) T.gl (.idx (.idx (.var 0) (.int 1)) (.int 0)) [some (PL rows), some (.int (m : Int)), none, none] (PS a X) = some (.int (a : Int), PS a X) := by
  simp [idxD]
theorem t2 (rows : List Int) (a m : Nat) (X : Md.St) : ex (Γ n) T.gl (.setI (.idx (.var 0) (.int 1)) (.int 0) (.bin .add false (.var 2) (.int 1))) [some (PL rows), some (.int (m : Int)), some (.int (a : Int)), none] (PS a X) = some (.nx, [some (PL rows), some (.int (m : Int)), some (.int (a : Int)), none], PS (a + 1) X) := by
  simp [setAt_0]
theorem t3 (rows : List Int) (a m : Nat) (u : Int) (X : Md.St) (o1 : ∀ s, binop .fdiv false (.int (a : Int)) (.int (rows.length : Int)) s = some (.int u, s)) : ex (Γ n) T.gl (.asg 3 (.bin .fdiv false (.var 2) (.bi .len false (.cons (.idx (.var 0) (.int 0)) .nil)))) [some (PL rows), some (.int (m : Int)), some (.int (a : Int)), none] (PS (a + 1) X) = some (.nx, [some (PL rows), some (.int (m : Int)), some (.int (a : Int)), some (.int u)], PS (a + 1) X) := by
  simp [o1]
theorem t4 (rows : List Int) (a : Nat) (m u w q z1 z2 z3 v : Int) (X : Md.St) (o0 : ∀ s, binop .mod false (.int (a : Int)) (.int (rows.length : Int)) s = some (.int w, s)) (o2 : ∀ s, binop .mul false (.int u) (.int 1013) s = some (.int z1, s)) (o3 : ∀ s, binop .mul false (.int u) (.int (a : Int)) s = some (.int z2, s)) (o4 : ∀ s, binop .mul false (.int z2) (.int 7) s = some (.int z3, s)) (o5 : ∀ s, binop .mod false (.int (q + z1 + z3)) (.int m) s = some (.int v, s)) (hn : ∀ s, nthD (rows.map D.int) w s = some (.int q, s)) :
   ex (Γ n) T.gl (.ret (.bin .mod false (.bi .int false (.cons (.bin .add false (.bin .add false (.idx (.idx (.var 0) (.int 0)) (.bin .mod false (.var 2) (.bi .len false (.cons (.idx (.var 0) (.int 0)) .nil)))) (.bin .mul false (.var 3) (.int 1013))) (.bin .mul false (.bin .mul false (.var 3) (.var 2)) (.int 7))) .nil)) (.var 1))) [some (PL rows), some (.int m), some (.int (a : Int)), some (.int u)] (PS (a + 1) X) = some (.ret (.int v), [some (PL rows), some (.int m), some (.int (a : Int)), some (.int u)], PS (a + 1) X) := by
  simp [o0, o2, o3, o4, o5, hn]
theorem c_draw {rows : List Int} (H : PoolOk rows) (a m : Nat) (ha : a < 1000000) (hm : 0 < m) (X : Md.St) : ∃ v : Nat, v < m ∧ Γ (n + 1) ("_law_draw", none) [PL rows, .int (m : Int)] (PS a X) = some (.int (v : Int), PS (a + 1) X) := by
  have hp := H.pos
  have hl := H.len
  have hlt : a % rows.length < rows.length := Nat.mod_lt _ hp
  have e1 : (a : Int) % (rows.length : Int) = ((a % rows.length : Nat) : Int) := by omega
  have e2 : (a : Int) / (rows.length : Int) = ((a / rows.length : Nat) : Int) := by omega
  have hn := fun s => nth_nat (xs := rows.map D.int) s (k := a % rows.length) (d := .int rows[a % rows.length]) (by rw [List.getElem?_map, List.getElem?_eq_getElem hlt]; rfl)
  have hdiv : a / rows.length ≤ a := Nat.div_le_self _ _
  generalize hq : rows[a % rows.length] = q at hn
  have o0 := fun s => op_mod false (a : Int) (rows.length : Int) s (by omega)
  have o1 := fun s => op_fdiv false (a : Int) (rows.length : Int) s ⟨by omega, by omega⟩
  rw [e1] at o0
  rw [e2] at o1
  generalize a / rows.length = u at *
  have o2 := fun s => op_mul false (u : Int) 1013 s (.inr ⟨by omega, by omega⟩)
  have o3 := fun s => op_mul false (u : Int) (a : Int) s (.inr ⟨by omega, by omega⟩)
  have o4 := fun s => op_mul false ((u : Int) * (a : Int)) 7 s (.inr ⟨by omega, by omega⟩)
  have hv := md_b (q + (u : Int) * 1013 + (u : Int) * (a : Int) * 7) (m : Int) (by omega)
  have o5 := fun s => op_mod false (q + (u : Int) * 1013 + (u : Int) * (a : Int) * 7) (m : Int) s (by omega)
  generalize (q + (u : Int) * 1013 + (u : Int) * (a : Int) * 7) % (m : Int) = v at hv o5
  generalize a % rows.length = w at *
  refine ⟨v.toNat, by omega, ?_⟩
  rw [show ((v.toNat : Nat) : Int) = v by omega]
  generalize hz : (u : Int) * 1013 = z1 at *
  generalize hz2 : (u : Int) * (a : Int) = z2 at *
  generalize hz3 : z2 * 7 = z3 at *
  exact call_raw p__law_draw rfl (by decide) (out_of (seq_nx (asg_nx (t1 _ rows a m X) rfl) (seq_nx (t2 _ rows a m X) (seq_nx (t3 _ rows a m u X o1) (t4 _ rows a m u w q z1 z2 z3 v X o0 o2 o3 o4 o5 hn)))))
end L34
end
section
set_option maxRecDepth 100000
set_option maxHeartbeats 1000000
namespace L34
open PySem PySem.Spec PyProof.Rows Md
variable (n : Nat)
theorem c_some {rows : List Int} (H : PoolOk rows) (a k lean : Nat) (hk : k ≤ 50) (hlean : 0 < lean) (ha : a + k < 1000000) (X : Md.St) :
    ∃ (zs : List Nat) (a' : Nat), Γ (n + 2) ("_law_some", none) [PL rows, .int (k : Int), .int (lean : Int)] (PS a X) = some (ti (zs.map fun (z : Nat) => (z : Int)), PS a' X) ∧ a' ≤ a + k ∧ zs.Nodup ∧ (∀ z ∈ zs, z < k) ∧ zs.length ≤ k := by
  have hr := rng_n k (by omega)
  obtain ⟨ys, s1, hf, zs, a', rfl, rfl, hl, h1, h2, h3⟩ := comp_st (Γ := Γ (n + 1)) (gl := T.gl) (m := false) (vs := [3]) (g := .v 3) (it := .rng (.cons (.var 1) .nil)) (c := .cmp .gt (.call "_law_draw" (.cons (.var 0) (.cons (.var 2) .nil))) (.int 0)) (elt := .var 3)
    (ρ := [some (PL rows), some (.int (k : Int)), some (.int (lean : Int)), none]) (s := PS a X) (s0 := PS a X) (List.range k) (fun (i : Nat) => D.int (i : Int))
    (fun l ys s => ∃ (zs : List Nat) (a' : Nat), ys = zs.map (fun (z : Nat) => D.int (z : Int)) ∧ s = PS a' X ∧ a' + l.length ≤ a + k ∧ (zs ++ l).Nodup ∧ (∀ z ∈ zs ++ l, z < k) ∧ zs.length + l.length ≤ k)
    (ev_rng (vs := [.int (k : Int)]) (by simp) hr) rfl (fun _ => rfl) ⟨[], a, rfl, rfl, by simp, by simpa using List.nodup_range, by simp, by simp⟩ (by
      rintro i t ys s ⟨zs, a', rfl, rfl, hl, h1, h2, h3⟩
      rw [List.length_cons] at hl h3
      obtain ⟨v, hv, hd⟩ := c_draw n H a' lean (by omega) hlean X
      refine ⟨[some (PL rows), some (.int (k : Int)), some (.int (lean : Int)), some (.int (i : Int))], decide (0 < v), .bl (decide (0 < v)), PS (a' + 1) X, rfl, ?_, rfl, fun _ => ⟨.int (i : Int), _, rfl, zs ++ [i], a' + 1, by simp, rfl, by omega, by rw [List.append_assoc]; exact h1, fun z hz => h2 z (by rw [List.append_assoc] at hz; exact hz), by simp; omega⟩, fun _ => ⟨zs, a' + 1, rfl, rfl, by omega, ?_, fun z hz => h2 z ?_, by omega⟩⟩
      · simp [hd]
      · exact h1.sublist (List.Sublist.append_left (List.sublist_cons_self i t) zs)
      · rcases List.mem_append.mp hz with h | h
        · exact List.mem_append_left _ h
        · exact List.mem_append_right _ (List.mem_cons_of_mem _ h))
  rw [List.length_nil] at hl h3
  rw [List.append_nil] at h1 h2
  refine ⟨zs, a', ?_, by omega, h1, h2, by omega⟩
  have e : (zs.map fun (z : Nat) => D.int (z : Int)) = ((zs.map fun (z : Nat) => (z : Int)).map D.int) := by rw [List.map_map]; rfl
  rw [e] at hf
  refine call_raw p__law_some rfl (by decide) ?_
  simp [hf, -List.map_map]
/-- what a drawn clause is like -/
structure Drawn (k : Nat) (c : List Int) : Prop where
  lit : ∀ l ∈ c, (0 < l ∨ l < 0) ∧ -(k : Int) ≤ l ∧ l ≤ k
  con : ∀ l ∈ c, -l ∉ c
  nod : c.Nodup
  len : c.length ≤ k
theorem drawn_of {k : Nat} {c : List Int} {zs : List Nat} (h : c.map absI = zs.map fun (z : Nat) => (z : Int) + 1) (hz : zs.Nodup) (hk : ∀ z ∈ zs, z < k) (hl : zs.length ≤ k) : Drawn k c := by
  have hnd : (c.map absI).Nodup := by
    rw [h]
    exact List.pairwise_map.mpr (hz.imp fun {a b} e h => e (by omega))
  have hin : ∀ l ∈ c, ∃ z ∈ zs, absI l = (z : Int) + 1 := fun l hl => by
    have : absI l ∈ c.map absI := List.mem_map.mpr ⟨l, hl, rfl⟩
    rw [h] at this
    obtain ⟨z, hz, e⟩ := List.mem_map.mp this
    exact ⟨z, hz, e.symm⟩
  refine ⟨fun l hl => ?_, fun l hl hn => ?_, ?_, ?_⟩
  · obtain ⟨z, hz, e⟩ := hin l hl
    have := hk z hz
    unfold absI at e
    split at e <;> omega
  · have h1 : absI l = absI (-l) := by unfold absI; split <;> split <;> omega
    have h0 : l ≠ -l := by
      obtain ⟨z, hz, e⟩ := hin l hl
      intro e2
      have : l = 0 := by omega
      subst this
      unfold absI at e
      simp at e
      omega
    have key : ∀ (c : List Int), (c.map absI).Nodup → l ∈ c → -l ∈ c → False := by
      intro c
      induction c with
      | nil => intro _ h; cases h
      | cons a t ih =>
        intro hnd h3 h4
        rw [List.map_cons, List.nodup_cons] at hnd
        rcases List.mem_cons.mp h3 with e | e
        · rcases List.mem_cons.mp h4 with e2 | e2
          · exact h0 (e.trans e2.symm)
          · exact hnd.1 (List.mem_map.mpr ⟨-l, e2, by rw [← e, h1]⟩)
        · rcases List.mem_cons.mp h4 with e2 | e2
          · exact hnd.1 (List.mem_map.mpr ⟨l, e, by rw [← e2, h1]⟩)
          · exact ih hnd.2 e e2
    exact key c hnd hl hn
  · have key : ∀ c : List Int, (c.map absI).Nodup → c.Nodup := by
      intro c
      induction c with
      | nil => intro _; exact List.nodup_nil
      | cons a t ih =>
        intro hn
        rw [List.map_cons, List.nodup_cons] at hn
        exact List.nodup_cons.mpr ⟨fun h => hn.1 (List.mem_map.mpr ⟨a, h, rfl⟩), ih hn.2⟩
    exact key c hnd
  · have := congrArg List.length h
    rw [List.length_map, List.length_map] at this
    omega
abbrev PC (a : Nat) (c : List Int) : Md.St := PS a [.lst (c.map D.int)]
theorem app_pc (a : Nat) (m : Bool) (c : List Int) (x : Int) (h : c.length < 1000) : bmop .append m (.ref 1) [.int x] (PC a c) = some (.non, PC a (c ++ [x])) := by
  have : c.length < cap := by unfold cap; omega
  simp [bmop, op1, hd, appendM, this]
theorem abs_pm (z v : Nat) (hv : v < 2) : absI (((z : Int) + 1) * (1 - 2 * (v : Int))) = (z : Int) + 1 := by
  have : v = 0 ∨ v = 1 := by omega
  unfold absI
  rcases this with rfl | rfl
  · simp; omega
  · simp
    try omega
theorem u2 (L : D) (k z a v u w : Int) (f : Str) (s s1 : Md.St) (hd : Γ (n + 1) (f, none) [L, .int 2] s = some (.int v, s1)) (o1 : ∀ s, binop .mul false (.int 2) (.int v) s = some (.int u, s)) (o2 : ∀ s, binop .mul false (.int (z + 1)) (.int (1 - u)) s = some (.int w, s)) : ev (Γ (n + 1)) T.gl (.bin .mul false (.bin .add false (.var 3) (.int 1)) (.bin .sub false (.int 1) (.bin .mul false (.int 2) (.call f (.cons (.var 0) (.cons (.int 2) .nil)))))) [some L, some (.int k), some (.ref 1), some (.int z)] s = some (.int w, s1) := by
  simp only [x_exp, e_bm, e_var, List.getElem?_cons_succ, List.getElem?_cons_zero, bnd_some, if_true, e_cons, e_nil, e_bin, e_int, op_add, o1, op_sub, e_call, hd, o2]
theorem u3 (L : D) (k w : Int) (z : D) (c : List Int) (a : Nat) (e : E) (s s1 : Md.St) (he : ev (Γ (n + 1)) T.gl e [some L, some (.int k), some (.ref 1), some z] (PC a c) = some (.int w, PC (a + 1) c)) (h : c.length < 1000) : ex (Γ (n + 1)) T.gl (.exp (.bm .append false (.var 2) (.cons e .nil))) [some L, some (.int k), some (.ref 1), some z] (PC a c) = some (.nx, [some L, some (.int k), some (.ref 1), some z], PC (a + 1) (c ++ [w])) := by
  have happ := app_pc (a + 1) false c w h
  have hrecv : bmRecv .append (.ref 1) (PC a c) = true := rfl
  simp only [x_exp, e_bm, e_var, List.getElem?_cons_succ, List.getElem?_cons_zero, bnd_some, hrecv, if_true, e_cons, e_nil, he, happ]
theorem cl_body {rows : List Int} (H : PoolOk rows) (k : Nat) (z a : Nat) (ha : a < 100000) (hz : z < 50) (c : List Int) (hc : c.length < 1000) : ∃ v : Nat, v < 2 ∧ ex (Γ (n + 1)) T.gl (.exp (.bm .append false (.var 2) (.cons (.bin .mul false (.bin .add false (.var 3) (.int 1)) (.bin .sub false (.int 1) (.bin .mul false (.int 2) (.call "_law_draw" (.cons (.var 0) (.cons (.int 2) .nil)))))) .nil))) [some (PL rows), some (.int (k : Int)), some (.ref 1), some (.int (z : Int))] (PC a c) = some (.nx, [some (PL rows), some (.int (k : Int)), some (.ref 1), some (.int (z : Int))], PC (a + 1) (c ++ [((z : Int) + 1) * (1 - 2 * (v : Int))])) := by
  obtain ⟨v, hv, hd⟩ := c_draw n H a 2 (by omega) (by omega) [.lst (c.map D.int)]
  refine ⟨v, hv, ?_⟩
  have hd : Γ (n + 1) ("_law_draw", none) [PL rows, .int 2] (PC a c) = some (.int (v : Int), PC (a + 1) c) := hd
  have o1 := fun s => op_mul false 2 (v : Int) s (.inl ⟨by omega, by omega⟩)
  have o2 := fun s => op_mul false ((z : Int) + 1) (1 - 2 * (v : Int)) s (.inl ⟨by omega, by omega⟩)
  have h2 := u2 n (PL rows) (k : Int) (z : Int) (v : Int) (v : Int) (2 * (v : Int)) (((z : Int) + 1) * (1 - 2 * (v : Int))) "_law_draw" (PC a c) (PC (a + 1) c) hd o1 o2
  exact u3 n (PL rows) (k : Int) (((z : Int) + 1) * (1 - 2 * (v : Int))) (.int (z : Int)) c a _ (PC a c) (PC (a + 1) c) h2 hc
theorem c_clause {rows : List Int} (H : PoolOk rows) (a k : Nat) (hk : k ≤ 50) (ha : a < 1000) :
    ∃ (c : List Int) (a' : Nat), Γ (n + 3) ("_law_clause", none) [PL rows, .int (k : Int)] (PS a []) = some (li c, PS a' []) ∧ a' ≤ a + 2 * k + 1 ∧ Drawn k c := by
  obtain ⟨v, hv, hd⟩ := c_draw (n + 1) H a 3 (by omega) (by omega) [.lst []]
  obtain ⟨zs, a1, hs, ha1, hz1, hz2, hz3⟩ := c_some n H (a + 1) k (1 + v) hk (by omega) (by omega) [.lst []]
  have hd : Γ (n + 2) ("_law_draw", none) [PL rows, .int 3] (PC a []) = some (.int (v : Int), PC (a + 1) []) := hd
  have hs : Γ (n + 2) ("_law_some", none) [PL rows, .int (k : Int), .int (1 + (v : Int))] (PC (a + 1) []) = some (ti (zs.map fun (z : Nat) => (z : Int)), PC a1 []) := by
    have : ((1 + v : Nat) : Int) = 1 + (v : Int) := by omega
    rw [this] at hs
    exact hs
  obtain ⟨ρ, s1, hf, c, a', x, rfl, rfl, hl, hm⟩ := for_st (Γ := Γ (n + 2)) (gl := T.gl) (g := .v 3) (it := .call "_law_some" (.cons (.var 0) (.cons (.var 1) (.cons (.bin .add false (.int 1) (.call "_law_draw" (.cons (.var 0) (.cons (.int 3) .nil)))) .nil)))) (b := .exp (.bm .append false (.var 2) (.cons (.bin .mul false (.bin .add false (.var 3) (.int 1)) (.bin .sub false (.int 1) (.bin .mul false (.int 2) (.call "_law_draw" (.cons (.var 0) (.cons (.int 2) .nil)))))) .nil)))
    (ρ := [some (PL rows), some (.int (k : Int)), some (.ref 1), none]) (s := PC a []) (s0 := PC a1 []) zs (fun (i : Nat) => D.int (i : Int))
    (fun l ρ s => ∃ (c : List Int) (a' : Nat) (x : Option D), ρ = [some (PL rows), some (.int (k : Int)), some (.ref 1), x] ∧ s = PC a' c ∧ a' + l.length ≤ a + 1 + k + zs.length ∧ c.map absI ++ (l.map fun (z : Nat) => (z : Int) + 1) = zs.map fun (z : Nat) => (z : Int) + 1)
    (x := ti (zs.map fun (z : Nat) => (z : Int)))
    (by simp only [e_call, e_cons, e_nil, e_var, e_bin, e_int, List.getElem?_cons_succ, List.getElem?_cons_zero, bnd_some, hd, op_add, hs])
    (by simp only [seqOf, List.map_map]; rfl) (fun _ => rfl) ⟨[], a1, none, rfl, rfl, by omega, by simp⟩ (by
      rintro z t ρ s ⟨c, a', x, rfl, rfl, hl, hm⟩
      have hzk : z < k := by
        have h0 : (z : Int) + 1 ∈ zs.map fun (z : Nat) => (z : Int) + 1 := by rw [← hm]; simp
        obtain ⟨z', hz', e⟩ := List.mem_map.mp h0
        have := hz2 z' hz'
        omega
      have hcl : c.length < 1000 := by
        have := congrArg List.length hm
        simp at this
        omega
      rw [List.length_cons] at hl
      obtain ⟨v, hv, hb⟩ := cl_body (n + 1) H k z a' (by omega) (by omega) c hcl
      refine ⟨_, _, _, rfl, hb, c ++ [((z : Int) + 1) * (1 - 2 * (v : Int))], a' + 1, _, rfl, rfl, by omega, ?_⟩
      rw [List.map_append, List.map_cons, List.map_nil, abs_pm z v hv, List.append_assoc]
      exact hm)
  rw [List.length_nil] at hl
  rw [List.map_nil, List.append_nil] at hm
  refine ⟨c, a', ?_, by omega, drawn_of hm hz1 hz2 hz3⟩
  have h := call_tidy (s := PS a []) (s1 := PC a' c) (d := .ref 1) (d' := li c) (args := [PL rows, .int (k : Int)]) (n := n + 2) p__law_clause rfl (by decide) (out_of (seq_nx (asg_nx (x := .ref 1) (s1 := PC a []) rfl rfl) (seq_nx hf (ret_is (x := .ref 1) rfl)))) rfl (by simp [fzA])
  exact h
end L34
end
section
set_option maxRecDepth 100000
set_option maxHeartbeats 1000000
namespace L34
open PySem PySem.Spec PyProof.Rows Md
variable (n : Nat)
theorem c_rows {rows : List Int} (H : PoolOk rows) (a k : Nat) (hk : k ≤ 4) (ha : a < 900) :
    ∃ (rs : List (List Int)) (a' : Nat), Γ (n + 4) ("_law_rows", none) [PL rows, .int (k : Int)] (PS a []) = some (.lst (rs.map li), PS a' []) ∧ a' ≤ a + 37 ∧ (∀ r ∈ rs, Drawn k r) ∧ rs.length ≤ 4 := by
  obtain ⟨v, hv, hd⟩ := c_draw (n + 2) H a 5 (by omega) (by omega) []
  have hd : Γ (n + 3) ("_law_draw", none) [PL rows, .int 5] (PS a []) = some (.int (v : Int), PS (a + 1) []) := hd
  have hr := rng_n v (by omega)
  obtain ⟨ys, s1, hf, rs, a', rfl, rfl, hl, h1, h2⟩ := comp_st (Γ := Γ (n + 3)) (gl := T.gl) (m := false) (vs := [2]) (g := .v 2) (it := .rng (.cons (.call "_law_draw" (.cons (.var 0) (.cons (.int 5) .nil))) .nil)) (c := .yes) (elt := .call "_law_clause" (.cons (.var 0) (.cons (.var 1) .nil)))
    (ρ := [some (PL rows), some (.int (k : Int)), none]) (s := PS a []) (s0 := PS (a + 1) []) (List.range v) (fun (i : Nat) => D.int (i : Int))
    (fun l ys s => ∃ (rs : List (List Int)) (a' : Nat), ys = rs.map li ∧ s = PS a' [] ∧ a' + 9 * l.length ≤ a + 37 ∧ (∀ r ∈ rs, Drawn k r) ∧ rs.length + l.length ≤ 4)
    (ev_rng (vs := [.int (v : Int)]) (by simp only [e_cons, e_nil, e_call, e_var, e_int, List.getElem?_cons_zero, bnd_some, hd]) hr) rfl (fun _ => rfl) ⟨[], a + 1, rfl, rfl, by simp; omega, fun r h => (by cases h), by simp; omega⟩ (by
      rintro i t ys s ⟨rs, a', rfl, rfl, hl, h1, h2⟩
      rw [List.length_cons] at hl h2
      obtain ⟨c, a2, hc, ha2, hD⟩ := c_clause n H a' k (by omega) (by omega)
      refine ⟨[some (PL rows), some (.int (k : Int)), some (.int (i : Int))], true, .bl true, PS a' [], rfl, rfl, rfl, fun _ => ⟨li c, PS a2 [], hc, rs ++ [c], a2, by simp, rfl, by omega, fun r hr => ?_, by simp; omega⟩, fun h => (by cases h)⟩
      rcases List.mem_append.mp hr with h | h
      · exact h1 r h
      · rw [List.mem_singleton.mp h]; exact hD)
  rw [List.length_nil] at hl h2
  refine ⟨rs, a', ?_, by omega, h1, by omega⟩
  exact call_raw p__law_rows rfl (by decide) (out_of (ret_is hf))
theorem cb_len : ∀ k : Nat, (cb k).length = 2 ^ k
  | 0 => rfl
  | k + 1 => by
    unfold cb
    rw [List.length_append, List.length_map, List.length_map, cb_len k, Nat.pow_succ]
    omega
theorem cubes_len (k : Nat) : (cubes k).length = 2 ^ k := by unfold cubes; rw [List.length_map, cb_len]
end L34
end
section
set_option maxRecDepth 100000
set_option maxHeartbeats 1000000
namespace Md
section
variable {Γ : Calls} {gl : PySem.Str → Option D} {ρ : Env} {s s1 s2 s3 : St} {a b c : E} {x y z : D}
theorem ev_t1 (h1 : ev Γ gl a ρ s = some (x, s1)) : ev Γ gl (.tup (.cons a .nil)) ρ s = some (.tup [x], s1) := by
  simp only [e_tup, e_cons, e_nil, bnd_some, h1, List.length_cons, List.length_nil, cap]
  rfl
theorem ev_t2 (h1 : ev Γ gl a ρ s = some (x, s1)) (h2 : ev Γ gl b ρ s1 = some (y, s2)) : ev Γ gl (.tup (.cons a (.cons b .nil))) ρ s = some (.tup [x, y], s2) := by
  simp only [e_tup, e_cons, e_nil, bnd_some, h1, h2, List.length_cons, List.length_nil, cap]
  rfl
theorem ev_t4 {d : E} {s4 : St} {u : D} (h1 : ev Γ gl a ρ s = some (x, s1)) (h2 : ev Γ gl b ρ s1 = some (y, s2)) (h3 : ev Γ gl c ρ s2 = some (z, s3)) (h4 : ev Γ gl d ρ s3 = some (u, s4)) : ev Γ gl (.tup (.cons a (.cons b (.cons c (.cons d .nil))))) ρ s = some (.tup [x, y, z, u], s4) := by
  simp only [e_tup, e_cons, e_nil, bnd_some, h1, h2, h3, h4, List.length_cons, List.length_nil, cap]
  rfl
theorem ev_l1 (h1 : ev Γ gl a ρ s = some (x, s1)) : ev Γ gl (.lst false (.cons a .nil)) ρ s = some (.lst [x], s1) := by
  simp only [e_lst, e_cons, e_nil, bnd_some, h1, List.length_cons, List.length_nil, cap, mk_false]
  rfl
theorem asgT_nx {g : G} {e : E} {ρ1 : Env} (h : ev Γ gl e ρ s = some (x, s1)) (hb : bindG g x ρ = some ρ1) : ex Γ gl (.asgT g e) ρ s = some (.nx, ρ1, s1) := by
  rw [x_asgT, h, bnd_some]
  simp only [hb]
theorem seq_ret {a b : S} {ρ1 : Env} {d : D} (h : ex Γ gl a ρ s = some (.ret d, ρ1, s1)) : ex Γ gl (.seq a b) ρ s = some (.ret d, ρ1, s1) := by
  rw [x_seq, h]
theorem ife_t {c : E} {a b : S} {r : Option (R × Env × St)} (h : ev Γ gl c ρ s = some (x, s1)) (ht : truth s1 x = some true) (hr : ex Γ gl a ρ s1 = r) : ex Γ gl (.ife c a b) ρ s = r := ife_is h ht hr
theorem ife_f {c : E} {a b : S} {r : Option (R × Env × St)} (h : ev Γ gl c ρ s = some (x, s1)) (ht : truth s1 x = some false) (hr : ex Γ gl b ρ s1 = r) : ex Γ gl (.ife c a b) ρ s = r := ife_is h ht hr
theorem exp_nx {e : E} (h : ev Γ gl e ρ s = some (x, s1)) : ex Γ gl (.exp e) ρ s = some (.nx, ρ, s1) := by
  rw [x_exp, h, bnd_some]
theorem ev_bm1 {q : Bm} {m : Bool} {r : Option (D × St)} (h1 : ev Γ gl a ρ s = some (x, s1)) (hr : bmRecv q x s1 = true) (h2 : ev Γ gl b ρ s1 = some (y, s2)) (h : bmop q m x [y] s2 = r) : ev Γ gl (.bm q m a (.cons b .nil)) ρ s = r := by
  simp only [e_bm, h1, bnd_some, hr, if_true, e_cons, e_nil, h2, h]
theorem ev_neg {i : Int} (h : ev Γ gl a ρ s = some (.int i, s1)) : ev Γ gl (.neg a) ρ s = some (.int (-i), s1) := by
  rw [e_neg, h, bnd_some]
theorem ev_ite {p : Bool} {r : Option (D × St)} (h : ev Γ gl c ρ s = some (x, s1)) (ht : truth s1 x = some p) (hr : (if p then ev Γ gl a ρ s1 else ev Γ gl b ρ s1) = r) : ev Γ gl (.ife c a b) ρ s = r := by
  rw [e_ife, h, bnd_some, ht]
  cases p
  · exact hr
  · exact hr
end
end Md
namespace L34
open PySem PySem.Spec PyProof.Rows Md
variable (n : Nat) (s : Md.St)
/-! few monomials -/
def subs : Nat → List (List Int)
  | 0 => [[]]
  | k + 1 => subs k ++ (subs k).map fun m => m ++ [(k : Int) + 1]
theorem subs_len : ∀ k : Nat, (subs k).length = 2 ^ k
  | 0 => rfl
  | k + 1 => by unfold subs; rw [List.length_append, List.length_map, subs_len k, Nat.pow_succ]; omega
theorem mem_subs : ∀ {k : Nat} {m : List Int}, Mo k m → m ∈ subs k
  | 0, m, h => by
    cases m with
    | nil => exact List.mem_singleton.mpr rfl
    | cons v m => have := h.rng v List.mem_cons_self; omega
  | k + 1, m, h => by
    unfold subs
    rw [List.mem_append]
    have hf : Mo k (m.filter fun v => !decide (v = (k : Int) + 1)) := ⟨h.inc.filter _, fun v hv => by
      obtain ⟨h1, h2⟩ := List.mem_filter.mp hv
      have h3 := h.rng v h1
      have h4 : ¬ v = (k : Int) + 1 := by simpa using h2
      omega⟩
    have ih := mem_subs hf
    by_cases e : (k : Int) + 1 ∈ m
    · right
      refine List.mem_map.mpr ⟨_, ih, ?_⟩
      refine inc_eq ?_ h.inc fun v => ?_
      · rw [List.pairwise_append]
        refine ⟨hf.inc, by simp, fun a ha b hb => ?_⟩
        have := hf.rng a ha
        rw [List.mem_singleton.mp hb]
        omega
      · rw [List.mem_append, List.mem_singleton, List.mem_filter]
        constructor
        · rintro (h1 | rfl)
          · exact h1.1
          · exact e
        · intro hv
          by_cases e2 : v = (k : Int) + 1
          · exact .inr e2
          · exact .inl ⟨hv, by simp [e2]⟩
    · left
      have : m.filter (fun v => !decide (v = (k : Int) + 1)) = m := List.filter_eq_self.mpr fun v hv => by
        have : v ≠ (k : Int) + 1 := fun e2 => e (e2 ▸ hv)
        simp [this]
      rw [this] at ih
      exact ih
theorem sub_lenT : ∀ {l m : List (List Int)}, l.Nodup → (∀ x ∈ l, x ∈ m) → l.length ≤ m.length
  | [], _, _, _ => Nat.zero_le _
  | a :: l, m, h, hr => by
    obtain ⟨h3, h4⟩ := List.nodup_cons.mp h
    have hl := hr a List.mem_cons_self
    have := sub_lenT (m := m.erase a) h4 fun x hx => (List.mem_erase_of_ne (fun e => h3 (by rw [← e]; exact hx))).mpr (hr x (List.mem_cons_of_mem _ hx))
    rw [List.length_erase_of_mem hl] at this
    have := List.length_pos_of_mem hl
    rw [List.length_cons]
    omega
theorem can_len {k : Nat} (hk : k ≤ 4) {p : Po} (h : Can k p) : p.length ≤ 16 := by
  have := sub_lenT h.nod fun m hm => mem_subs (h.mo m hm)
  rw [subs_len] at this
  exact Nat.le_trans this (Nat.le_trans (Nat.pow_le_pow_right (by omega) hk) (by decide))
theorem mo_len {k : Nat} {m : List Int} (h : Mo k m) : m.length ≤ k := by
  have := sub_len (m := (List.range k).map fun (i : Nat) => (i : Int) + 1) (inc_nodup h.inc) fun v hv => by
    have := h.rng v hv
    exact List.mem_map.mpr ⟨(v - 1).toNat, List.mem_range.mpr (by omega), by omega⟩
  simpa using this
/-! the polynomials' defs -/
theorem add_tts (m : Bool) (p q : Po) (h : p.length + q.length ≤ 1000) : binop .add m (tts p) (tts q) s = some (tts (p ++ q), s) := by
  show (if (p.map ti).length + (q.map ti).length ≤ cap then some (D.tup (p.map ti ++ q.map ti), s) else none) = _
  rw [if_pos (by rw [List.length_map, List.length_map]; unfold cap; omega), ← List.map_append]
theorem add_ti (m : Bool) (p q : List Int) (h : p.length + q.length ≤ 1000) : binop .add m (ti p) (ti q) s = some (ti (p ++ q), s) := by
  show (if (p.map D.int).length + (q.map D.int).length ≤ cap then some (D.tup (p.map D.int ++ q.map D.int), s) else none) = _
  rw [if_pos (by rw [List.length_map, List.length_map]; unfold cap; omega), ← List.map_append]
theorem c_plus (p q : Po) (h : p.length + q.length ≤ 1000) : Γ (n + 1) ("plus", none) [tts p, tts q] s = some (tts (pl p q), s) := by
  have hc : ev (Γ n) T.gl (.comp false [2] (.v 2) (.bin .add false (.var 0) (.var 1)) (.cmp .ne (.cmp .isIn (.var 2) (.var 0)) (.cmp .isIn (.var 2) (.var 1))) (.var 2)) [some (tts p), some (tts q), none] [] = some (lts ((p ++ q).filter fun m => decide (m ∈ p) != decide (m ∈ q)), []) := by
    refine comp_p (x := tts (p ++ q)) (p ++ q) ti (fun m => decide (m ∈ p) != decide (m ∈ q)) ti (fun m => [some (tts p), some (tts q), some (ti m)]) (ev_bin (ev_v rfl) (ev_v rfl) (add_tts _ _ _ _ h)) rfl rfl (fun _ _ => rfl) (fun m _ => ?_) (fun _ _ _ => ev_v rfl)
    rw [ev_cmp (o := .ne) (ev_cmp (o := .isIn) (p := decide (m ∈ p)) (ev_v rfl) (ev_v rfl) (by rw [cmp_in, mem_tts])) (ev_cmp (o := .isIn) (p := decide (m ∈ q)) (ev_v rfl) (ev_v rfl) (by rw [cmp_in, mem_tts])) ne_bl]
    rfl
  exact call_pure (d := tts (pl p q)) (s1 := []) p_plus (by simp [nrs, nr]) rfl (by decide) (out_of (ret_is (ev_b1 (ev_b1 hc (b_sorted_lt _ _ _)) (b_tuple_l _ _ _)))) (by simp [fzA, nrA])
theorem c_times_monomial {k : Nat} (hk : k ≤ 4) {p : Po} {m : List Int} (hp : Can k p) (hm : Mo k m) : Γ (n + 2) ("times_monomial", none) [tts p, ti m] s = some (tts (tm p m), s) := by
  obtain ⟨ρ, s1, hf, f, x, rfl, rfl, h1, h2⟩ := for_st (Γ := Γ (n + 1)) (gl := T.gl) (g := .v 3) (it := .var 0) (b := .asg 2 (.call "plus" (.cons (.var 2) (.cons (.tup (.cons (.bi .tuple false (.cons (.bi .sortSet false (.cons (.bin .add false (.var 3) (.var 1)) .nil)) .nil)) .nil)) .nil))))
    (ρ := [some (tts p), some (ti m), some (tts []), none]) (s := []) (s0 := []) (x := tts p) p ti (fun l ρ s => ∃ (f : Po) (x : Option D), ρ = [some (tts p), some (ti m), some (tts f), x] ∧ s = [] ∧ l.foldl (fun f o => pl f [mon (o ++ m)]) f = tm p m ∧ (Can k f ∧ ∀ x ∈ l, Mo k x))
    (ev_v rfl) rfl (fun _ => rfl) ⟨[], none, rfl, rfl, rfl, can_nil k, hp.mo⟩ (by
      rintro o t ρ s ⟨f, x, rfl, rfl, h1, h2, h3⟩
      have ho := h3 o List.mem_cons_self
      have l1 := mo_len ho
      have l2 := mo_len hm
      have l3 := can_len hk h2
      have hadd := add_ti [] false o m (by omega)
      have hset := b_set_ti false [] (l := o ++ m) (by rw [List.length_append]; omega)
      have hpl := c_plus n [] f [mon (o ++ m)] (by simp; omega)
      have hcan := can_pl h2 (can_one (mo_mon (k := k) (m := o ++ m) fun v hv => (List.mem_append.mp hv).elim (ho.rng v) (hm.rng v)))
      exact ⟨_, [some (tts p), some (ti m), some (tts (pl f [mon (o ++ m)])), some (ti o)], [], rfl, asg_nx (ev_c2 (ev_v rfl) (ev_t1 (ev_b1 (ev_b1 (ev_bin (ev_v rfl) (ev_v rfl) hadd) hset) (b_tuple_l _ _ _))) hpl) rfl, _, _, rfl, rfl, h1, hcan, fun x hx => h3 x (List.mem_cons_of_mem _ hx)⟩)
  have h1 : f = tm p m := h1
  subst h1
  exact call_pure (d := tts (tm p m)) (s1 := []) p_times_monomial (by simp [nrs, nr]) rfl (by decide) (out_of (seq_nx (asg_nx (x := tts []) (s1 := []) rfl rfl) (seq_nx hf (ret_is (ev_v rfl))))) (by simp [fzA, nrA])
theorem c_times {k : Nat} (hk : k ≤ 4) {p q : Po} (hp : Can k p) (hq : Can k q) : Γ (n + 3) ("times", none) [tts p, tts q] s = some (tts (tp p q), s) := by
  obtain ⟨ρ, s1, hf, f, x, rfl, rfl, h1, h2⟩ := for_st (Γ := Γ (n + 2)) (gl := T.gl) (g := .v 3) (it := .var 1) (b := .asg 2 (.call "plus" (.cons (.var 2) (.cons (.call "times_monomial" (.cons (.var 0) (.cons (.var 3) .nil))) .nil))))
    (ρ := [some (tts p), some (tts q), some (tts []), none]) (s := []) (s0 := []) (x := tts q) q ti (fun l ρ s => ∃ (f : Po) (x : Option D), ρ = [some (tts p), some (tts q), some (tts f), x] ∧ s = [] ∧ l.foldl (fun f m => pl f (tm p m)) f = tp p q ∧ (Can k f ∧ ∀ x ∈ l, Mo k x))
    (ev_v rfl) rfl (fun _ => rfl) ⟨[], none, rfl, rfl, rfl, can_nil k, hq.mo⟩ (by
      rintro o t ρ s ⟨f, x, rfl, rfl, h1, h2, h3⟩
      have ho := h3 o List.mem_cons_self
      have hct := can_tm hp ho
      have l3 := can_len hk h2
      have l4 := can_len hk hct
      have htm := c_times_monomial n [] hk hp ho
      have hpl := c_plus (n + 1) [] f (tm p o) (by omega)
      exact ⟨_, [some (tts p), some (tts q), some (tts (pl f (tm p o))), some (ti o)], [], rfl, asg_nx (ev_c2 (ev_v rfl) (ev_c2 (ev_v rfl) (ev_v rfl) htm) hpl) rfl, _, _, rfl, rfl, h1, can_pl h2 hct, fun x hx => h3 x (List.mem_cons_of_mem _ hx)⟩)
  have h1 : f = tp p q := h1
  subst h1
  exact call_pure (d := tts (tp p q)) (s1 := []) p_times (by simp [nrs, nr]) rfl (by decide) (out_of (seq_nx (asg_nx (x := tts []) (s1 := []) rfl rfl) (seq_nx hf (ret_is (ev_v rfl))))) (by simp [fzA, nrA])
theorem c_degree (p : Po) : Γ (n + 1) ("degree", none) [tts p] s = some (.int (dg p), s) := by
  have hc : ev (Γ n) T.gl (.comp false [1] (.v 1) (.var 0) .yes (.bi .len false (.cons (.var 1) .nil))) [some (tts p), none] [] = some (li (p.map fun m => (m.length : Int)), []) := by
    rw [li, List.map_map]
    refine comp_y (x := tts p) p ti (fun m => D.int (m.length : Int)) (fun m => [some (tts p), some (ti m)]) (ev_v rfl) rfl rfl (fun _ _ => rfl) (fun m _ => ev_b1 (ev_v rfl) (by rw [b_len_t, List.length_map]))
  exact call_pure (d := .int (dg p)) (s1 := []) p_degree (by simp [nrs, nr]) rfl (by decide) (out_of (ret_is (ev_b2 hc (ev_neg rfl) (b_maxD _ _ _ _)))) rfl
theorem c_value_at (p : Po) (w : List Int) : Γ (n + 1) ("value_at", none) [tts p, ti w] s = some (.int (va p w), s) := by
  have hc : ev (Γ n) T.gl (.comp false [2] (.v 2) (.var 0) (.bi .all false (.cons (.comp false [3] (.v 3) (.var 2) .yes (.cmp .isIn (.var 3) (.var 1))) .nil)) (.var 2)) [some (tts p), some (ti w), none, none] [] = some (lts (p.filter fun m => m.all fun v => decide (v ∈ w)), []) := by
    refine comp_p (x := tts p) p ti (fun m => m.all fun v => decide (v ∈ w)) ti (fun m => [some (tts p), some (ti w), some (ti m), none]) (ev_v rfl) rfl rfl (fun _ _ => rfl) (fun m _ => ?_) (fun _ _ _ => ev_v rfl)
    have hi : ev (Γ n) T.gl (.comp false [3] (.v 3) (.var 2) .yes (.cmp .isIn (.var 3) (.var 1))) [some (tts p), some (ti w), some (ti m), none] [] = some (.lst (m.map fun v => D.bl (decide (v ∈ w))), []) :=
      comp_y (x := ti m) m D.int (fun v => D.bl (decide (v ∈ w))) (fun v => [some (tts p), some (ti w), some (ti m), some (.int v)]) (ev_v rfl) rfl rfl (fun _ _ => rfl) (fun v _ => ev_cmp (ev_v rfl) (ev_v rfl) (by rw [cmp_in, mem_tup]))
    rw [ev_b1 hi (b_all _ _ _ _)]
    rfl
  have hm := op_mod false (((p.filter fun m => m.all fun v => decide (v ∈ w)).length : Nat) : Int) 2 [] (by omega)
  rw [va_count] at hm
  exact call_pure (d := .int (va p w)) (s1 := []) p_value_at (by simp [nrs, nr]) rfl (by decide) (out_of (ret_is (ev_bin (ev_b1 hc (by rw [b_len_l, List.length_map])) rfl hm))) rfl
theorem c_literal_factor (l : Int) : Γ (n + 1) ("literal_factor", none) [.int l] s = some (tts (lf l), s) := by
  refine call_pure (d := tts (lf l)) (s1 := []) p_literal_factor (by simp [nrs, nr]) rfl (by decide) (out_of (ret_is (ev_ite (p := decide (0 < l)) (ev_cmp (ev_v rfl) rfl (cmp_gt _ _ _)) rfl ?_))) (by simp [fzA, nrA])
  unfold lf
  by_cases h : 0 < l
  · rw [decide_eq_true h, if_pos h]
    exact ev_t2 (x := .tup []) (y := .tup [.int l]) rfl (ev_t1 (ev_v rfl))
  · rw [decide_eq_false h, if_neg h]
    exact ev_t1 (ev_t1 (ev_neg (ev_v rfl)))
theorem c_clause_polynomial {k : Nat} (hk : k ≤ 4) {c : List Int} (hc : Lits k c) : Γ (n + 4) ("clause_polynomial", none) [ti c] s = some (tts (cp c), s) := by
  obtain ⟨ρ, s1, hf, f, x, rfl, rfl, h1, h2⟩ := for_st (Γ := Γ (n + 3)) (gl := T.gl) (g := .v 2) (it := .var 0) (b := .asg 1 (.call "times" (.cons (.var 1) (.cons (.call "literal_factor" (.cons (.var 2) .nil)) .nil))))
    (ρ := [some (ti c), some (tts [[]]), none]) (s := []) (s0 := []) (x := ti c) c D.int (fun l ρ s => ∃ (f : Po) (x : Option D), ρ = [some (ti c), some (tts f), x] ∧ s = [] ∧ l.foldl (fun f l => tp f (lf l)) f = cp c ∧ (Can k f ∧ Lits k l))
    (ev_v rfl) rfl (fun _ => rfl) ⟨[[]], none, rfl, rfl, rfl, can_unit k, hc⟩ (by
      rintro o t ρ s ⟨f, x, rfl, rfl, h1, h2, h3⟩
      have hl := can_lf (h3.lit o List.mem_cons_self)
      have ht := c_times n [] hk h2 hl
      exact ⟨_, [some (ti c), some (tts (tp f (lf o))), some (.int o)], [], rfl, asg_nx (ev_c2 (ev_v rfl) (ev_c1 (ev_v rfl) (c_literal_factor (n + 2) [] o)) ht) rfl, _, _, rfl, rfl, h1, can_tp h2 hl, ⟨fun x hx => h3.lit x (List.mem_cons_of_mem _ hx)⟩⟩)
  have h1 : f = cp c := h1
  subst h1
  exact call_pure (d := tts (cp c)) (s1 := []) p_clause_polynomial (by simp [nrs, nr]) rfl (by decide) (out_of (seq_nx (asg_nx (x := tts [[]]) (s1 := []) rfl rfl) (seq_nx hf (ret_is (ev_v rfl))))) (by simp [fzA, nrA])
end L34
end
section
set_option maxRecDepth 100000
set_option maxHeartbeats 1000000
namespace L34
open PySem PySem.Spec PyProof.Rows Md
theorem se_leaf_ask (s : Md.St) : cmpD .eq s (.str "leaf") (.str "ask") = some false := by kernel_rfl
theorem se_ask_ask (s : Md.St) : cmpD .eq s (.str "ask") (.str "ask") = some true := by kernel_rfl
theorem se_axiom_weaken (s : Md.St) : cmpD .eq s (.str "axiom") (.str "weaken") = some false := by kernel_rfl
theorem se_resolve_weaken (s : Md.St) : cmpD .eq s (.str "resolve") (.str "weaken") = some false := by kernel_rfl
theorem se_leaf_sum (s : Md.St) : cmpD .eq s (.str "leaf") (.str "sum") = some false := by kernel_rfl
theorem se_sum_sum (s : Md.St) : cmpD .eq s (.str "sum") (.str "sum") = some true := by kernel_rfl
theorem i0 (x : D) (xs : List D) (s : Md.St) : idxD (.tup (x :: xs)) (.int 0) s = some (x, s) := by rw [idx_tup, nth_0]
theorem i1 (x y : D) (xs : List D) (s : Md.St) : idxD (.tup (x :: y :: xs)) (.int 1) s = some (y, s) := by rw [idx_tup, nth_1]
theorem i2 (x y z : D) (xs : List D) (s : Md.St) : idxD (.tup (x :: y :: z :: xs)) (.int 2) s = some (z, s) := by rw [idx_tup, nth_2]
theorem i3 (x y z u : D) (xs : List D) (s : Md.St) : idxD (.tup (x :: y :: z :: u :: xs)) (.int 3) s = some (u, s) := by rw [idx_tup, nth_3]
theorem add_lst (s : Md.St) (a b : List D) (h : a.length + b.length ≤ 1000) : binop .add false (.lst a) (.lst b) s = some (.lst (a ++ b), s) := by
  show (if a.length + b.length ≤ cap then some (mk false (a ++ b) s) else none) = _
  rw [if_pos (by unfold cap; omega)]
  rfl
abbrev pe (p : Int × List Int) : D := .tup [.int p.1, ti p.2]
theorem nrAs_pe : ∀ l : List (Int × List Int), nrAs 0 (l.map pe) = true
  | [] => rfl
  | p :: l => by rw [List.map_cons, nrAs, nrAs_pe l]; simp [nrA, nrAs]
theorem fz_pe (s : Md.St) (l : List (Int × List Int)) : fzA 0 s (.lst (l.map pe)) = some (.lst (l.map pe)) := by
  show (if nrA 0 (.lst (l.map pe)) = true then some (D.lst (l.map pe)) else none) = _
  rw [if_pos]
  simp only [nrA]
  exact nrAs_pe l
theorem lvs_len : ∀ (t : Tr) (cube : List Int), (lvs t cube).length ≤ 2 ^ t.dep
  | .leaf _, _ => by simp [lvs]; exact Nat.one_le_two_pow
  | .ask v lo hi, cube => by
    have h1 := lvs_len lo (srt (cube ++ [-v]))
    have h2 := lvs_len hi (srt (cube ++ [v]))
    have p1 : 2 ^ lo.dep ≤ 2 ^ (max lo.dep hi.dep) := Nat.pow_le_pow_right (by omega) (by omega)
    have p2 : 2 ^ hi.dep ≤ 2 ^ (max lo.dep hi.dep) := Nat.pow_le_pow_right (by omega) (by omega)
    unfold lvs Tr.dep
    rw [List.length_append, Nat.pow_succ]
    omega
theorem lvU_len : ∀ (t : Tr) (cube : List Int), (lvU t cube).length ≤ 2 ^ t.dep
  | .leaf _, _ => by simp [lvU]; exact Nat.one_le_two_pow
  | .ask v lo hi, cube => by
    have h1 := lvU_len lo (cube ++ [-v])
    have h2 := lvU_len hi (cube ++ [v])
    have p1 : 2 ^ lo.dep ≤ 2 ^ (max lo.dep hi.dep) := Nat.pow_le_pow_right (by omega) (by omega)
    have p2 : 2 ^ hi.dep ≤ 2 ^ (max lo.dep hi.dep) := Nat.pow_le_pow_right (by omega) (by omega)
    unfold lvU Tr.dep
    rw [List.length_append, Nat.pow_succ]
    omega
theorem pow5 {d : Nat} (h : d ≤ 5) : 2 ^ d ≤ 32 := Nat.le_trans (Nat.pow_le_pow_right (by omega) h) (by decide)
theorem c_leaf_cubes : ∀ (t : Tr) (cube : List Int) (N : Nat) (s : Md.St), t.dep ≤ N → t.dep ≤ 5 → cube.length + t.dep < 100 → Γ (N + 2) ("leaf_cubes", none) [t.d, ti cube] s = some (.lst ((lvs t cube).map pe), s)
  | .leaf k, cube, N, s, _, _, _ =>
    call_pure (d := .lst [pe (k, cube)]) (s1 := []) p_leaf_cubes (by simp [nrs, nr, nr_tr1]) rfl (by decide) (out_of (seq_ret (ife_t (ev_cmp (ev_idx (ev_v rfl) rfl (i0 _ _ _)) rfl (se_leaf_leaf _)) rfl (ret_is (ev_l1 (ev_t2 (ev_idx (ev_v rfl) rfl (i1 _ _ _ _)) (ev_v rfl))))))) (fz_pe _ [(k, cube)])
  | .ask v lo hi, cube, N, s, hN, h5, hc => by
    unfold Tr.dep at hN h5 hc
    obtain ⟨N, rfl⟩ : ∃ K, N = K + 1 := ⟨N - 1, by omega⟩
    have e1 : ∀ x : Int, (srt (cube ++ [x])).length = cube.length + 1 := fun x => by rw [len_srt]; simp
    have w1 := c_with_literal (N + 1) [] cube (-v) (by omega)
    have w2 := c_with_literal (N + 1) [] cube v (by omega)
    have r1 := c_leaf_cubes lo (srt (cube ++ [-v])) N [] (by omega) (by omega) (by rw [e1]; omega)
    have r2 := c_leaf_cubes hi (srt (cube ++ [v])) N [] (by omega) (by omega) (by rw [e1]; omega)
    have l1 := Nat.le_trans (lvs_len lo (srt (cube ++ [-v]))) (pow5 (by omega))
    have l2 := Nat.le_trans (lvs_len hi (srt (cube ++ [v]))) (pow5 (by omega))
    have ha := add_lst [] ((lvs lo (srt (cube ++ [-v]))).map pe) ((lvs hi (srt (cube ++ [v]))).map pe) (by rw [List.length_map, List.length_map]; omega)
    rw [← List.map_append] at ha
    refine call_pure (d := .lst ((lvs (.ask v lo hi) cube).map pe)) (s1 := []) p_leaf_cubes (by simp [nrs, nr, nr_tr1]) rfl (by decide) (out_of (ρ := [some (Tr.ask v lo hi).d, some (ti cube), some (.str "ask"), some (.int v), some lo.d, some hi.d]) ?_) (fz_pe _ _)
    refine seq_nx (ife_f (ev_cmp (ev_idx (ev_v rfl) rfl (i0 _ _ _)) rfl (se_ask_leaf _)) rfl rfl) (seq_nx (asgT_nx (ev_v rfl) rfl) (ret_is ?_))
    exact ev_bin (ev_c2 (ev_v rfl) (ev_c2 (ev_v rfl) (ev_neg (ev_v rfl)) w1) r1) (ev_c2 (ev_v rfl) (ev_c2 (ev_v rfl) (ev_v rfl) w2) r2) ha
theorem c_law_leaves : ∀ (t : Tr) (cube : List Int) (N : Nat) (s : Md.St), t.dep ≤ N → t.dep ≤ 5 → cube.length + t.dep < 100 → Γ (N + 2) ("_law_leaves", none) [t.d, ti cube] s = some (.lst ((lvU t cube).map pe), s)
  | .leaf k, cube, N, s, _, _, _ =>
    call_pure (d := .lst [pe (k, cube)]) (s1 := []) p__law_leaves (by simp [nrs, nr, nr_tr1]) rfl (by decide) (out_of (seq_ret (ife_t (ev_cmp (ev_idx (ev_v rfl) rfl (i0 _ _ _)) rfl (se_leaf_leaf _)) rfl (ret_is (ev_l1 (ev_t2 (ev_idx (ev_v rfl) rfl (i1 _ _ _ _)) (ev_v rfl))))))) (fz_pe _ [(k, cube)])
  | .ask v lo hi, cube, N, s, hN, h5, hc => by
    unfold Tr.dep at hN h5 hc
    obtain ⟨N, rfl⟩ : ∃ K, N = K + 1 := ⟨N - 1, by omega⟩
    have w1 := add_ti [] false cube [-v] (by simp; omega)
    have w2 := add_ti [] false cube [v] (by simp; omega)
    have r1 := c_law_leaves lo (cube ++ [-v]) N [] (by omega) (by omega) (by simp; omega)
    have r2 := c_law_leaves hi (cube ++ [v]) N [] (by omega) (by omega) (by simp; omega)
    have l1 := Nat.le_trans (lvU_len lo (cube ++ [-v])) (pow5 (by omega))
    have l2 := Nat.le_trans (lvU_len hi (cube ++ [v])) (pow5 (by omega))
    have ha := add_lst [] ((lvU lo (cube ++ [-v])).map pe) ((lvU hi (cube ++ [v])).map pe) (by rw [List.length_map, List.length_map]; omega)
    rw [← List.map_append] at ha
    refine call_pure (d := .lst ((lvU (.ask v lo hi) cube).map pe)) (s1 := []) p__law_leaves (by simp [nrs, nr, nr_tr1]) rfl (by decide) (out_of (ρ := [some (Tr.ask v lo hi).d, some (ti cube)]) ?_) (fz_pe _ _)
    refine seq_nx (ife_f (ev_cmp (ev_idx (ev_v rfl) rfl (i0 _ _ _)) rfl (se_ask_leaf _)) rfl rfl) (ret_is ?_)
    exact ev_bin (ev_c2 (ev_idx (ev_v rfl) rfl (i2 _ _ _ _ _)) (ev_bin (ev_v rfl) (ev_t1 (ev_neg (ev_idx (ev_v rfl) rfl (i1 _ _ _ _)))) w1) r1) (ev_c2 (ev_idx (ev_v rfl) rfl (i3 _ _ _ _ _ _)) (ev_bin (ev_v rfl) (ev_t1 (ev_idx (ev_v rfl) rfl (i1 _ _ _ _))) w2) r2) ha
theorem c_tree_depth : ∀ (t : Tr) (N : Nat) (s : Md.St), t.dep ≤ N → Γ (N + 1) ("tree_depth", none) [t.d] s = some (.int (t.dep : Int), s)
  | .leaf k, N, s, _ =>
    call_pure (d := .int 0) (s1 := []) p_tree_depth (by simp [nrs, nr, nr_tr1]) rfl (by decide) (out_of (ret_is (ev_ite (p := true) (ev_cmp (ev_idx (ev_v rfl) rfl (i0 _ _ _)) rfl (se_leaf_leaf _)) rfl rfl))) rfl
  | .ask v lo hi, N, s, hN => by
    unfold Tr.dep at hN
    obtain ⟨N, rfl⟩ : ∃ K, N = K + 1 := ⟨N - 1, by omega⟩
    have r1 := c_tree_depth lo N [] (by omega)
    have r2 := c_tree_depth hi N [] (by omega)
    have e : (1 : Int) + (if (hi.dep : Int) > (lo.dep : Int) then (hi.dep : Int) else (lo.dep : Int)) = (((Tr.ask v lo hi).dep : Nat) : Int) := by
      have e0 : (Tr.ask v lo hi).dep = max lo.dep hi.dep + 1 := rfl
      rw [e0]
      split <;> omega
    refine call_pure (d := .int (((Tr.ask v lo hi).dep : Nat) : Int)) (s1 := []) p_tree_depth (by simp [nrs, nr, nr_tr1]) rfl (by decide) (out_of (ρ := [some (Tr.ask v lo hi).d]) (ret_is (ev_ite (p := false) (ev_cmp (ev_idx (ev_v rfl) rfl (i0 _ _ _)) rfl (se_ask_leaf _)) rfl ?_))) rfl
    rw [← e]
    exact ev_bin rfl (ev_b2 (ev_c1 (ev_idx (ev_v rfl) rfl (i2 _ _ _ _ _)) r1) (ev_c1 (ev_idx (ev_v rfl) rfl (i3 _ _ _ _ _ _)) r2) (b_max2 _ _ _ _)) rfl
/-! a way down -/
theorem whl_is {Γ : Calls} {gl : Str → Option D} (c : E) (b : S) (ρ : Md.Env) (s : Md.St) : ex Γ gl (.whl c b) ρ s = whlL (fun ρ s => bnd (ev Γ gl c ρ s) fun x s => (truth s x).map fun b => (b, s)) (fun ρ s => ex Γ gl b ρ s) wfuel ρ s := rfl
theorem whl_f {c : Md.Env → Md.St → Option (Bool × Md.St)} {f : Md.Env → Md.St → Option (R × Md.Env × Md.St)} {m : Nat} {ρ : Md.Env} {s s1 : Md.St} (h : c ρ s = some (false, s1)) : whlL c f (m + 1) ρ s = some (.nx, ρ, s1) := by
  rw [whlL, h]
theorem whl_t {c : Md.Env → Md.St → Option (Bool × Md.St)} {f : Md.Env → Md.St → Option (R × Md.Env × Md.St)} {m : Nat} {ρ ρ1 : Md.Env} {s s1 s2 : Md.St} {r : Option (R × Md.Env × Md.St)} (h : c ρ s = some (true, s1)) (h2 : f ρ s1 = some (.nx, ρ1, s2)) (h3 : whlL c f m ρ1 s2 = r) : whlL c f (m + 1) ρ s = r := by
  rw [whlL, h]
  simp only [h2]
  exact h3
theorem tst {Γ : Calls} {gl : Str → Option D} {c : E} {ρ : Md.Env} {s s1 : Md.St} {p : Bool} (h : ev Γ gl c ρ s = some (.bl p, s1)) : (bnd (ev Γ gl c ρ s) fun x s => (truth s x).map fun b => (b, s)) = some (p, s1) := by
  rw [h]; rfl
section
variable (n : Nat) (w : List Int)
abbrev aw : Int → Bool := fun v => decide (v ∈ w)
theorem fl_loop : ∀ (t : Tr) (m : Nat), t.dep < m → whlL (fun ρ s => bnd (ev (Γ n) T.gl (.cmp .eq (.idx (.var 0) (.int 0)) (.str "ask")) ρ s) fun x s => (truth s x).map fun b => (b, s)) (fun ρ s => ex (Γ n) T.gl (.asg 0 (.ife (.cmp .isIn (.idx (.var 0) (.int 1)) (.var 1)) (.idx (.var 0) (.int 3)) (.idx (.var 0) (.int 2)))) ρ s) m [some t.d, some (ti w)] [] = some (.nx, [some (Tr.leaf (fl (aw w) t)).d, some (ti w)], [])
  | .leaf k, m, hm => by
    obtain ⟨m, rfl⟩ : ∃ K, m = K + 1 := ⟨m - 1, by omega⟩
    exact whl_f (tst (ev_cmp (ev_idx (ev_v rfl) rfl (i0 _ _ _)) rfl (se_leaf_ask _)))
  | .ask v lo hi, m, hm => by
    unfold Tr.dep at hm
    obtain ⟨m, rfl⟩ : ∃ K, m = K + 1 := ⟨m - 1, by omega⟩
    unfold fl
    have hc : ev (Γ n) T.gl (.cmp .isIn (.idx (.var 0) (.int 1)) (.var 1)) [some (Tr.ask v lo hi).d, some (ti w)] [] = some (.bl (decide (v ∈ w)), []) := ev_cmp (ev_idx (ev_v rfl) rfl (i1 _ _ _ _)) (ev_v rfl) (by rw [cmp_in, mem_tup])
    refine whl_t (tst (ev_cmp (ev_idx (ev_v rfl) rfl (i0 _ _ _)) rfl (se_ask_ask _))) (ρ1 := [some (if decide (v ∈ w) then hi.d else lo.d), some (ti w)]) (s2 := []) (asg_nx (ev_ite hc rfl ?_) rfl) ?_
    · cases decide (v ∈ w)
      · exact ev_idx (ev_v rfl) rfl (i2 _ _ _ _ _)
      · exact ev_idx (ev_v rfl) rfl (i3 _ _ _ _ _ _)
    · show whlL _ _ m [some (if decide (v ∈ w) then hi.d else lo.d), some (ti w)] [] = some (.nx, [some (Tr.leaf (if decide (v ∈ w) = true then fl (aw w) hi else fl (aw w) lo)).d, some (ti w)], [])
      cases decide (v ∈ w)
      · exact fl_loop lo m (by omega)
      · exact fl_loop hi m (by omega)
theorem c_find_leaf (t : Tr) (ht : t.dep < 100) (s : Md.St) : Γ (n + 1) ("find_leaf", none) [t.d, ti w] s = some (.int (fl (aw w) t), s) :=
  call_pure (d := .int (fl (aw w) t)) (s1 := []) p_find_leaf (by simp [nrs, nr, nr_tr1]) rfl (by decide) (out_of (seq_nx (by rw [whl_is]; exact fl_loop n w t wfuel (by unfold wfuel; omega)) (ret_is (ev_idx (ev_v rfl) rfl (i1 _ _ _ _))))) rfl
/-! sum trees -/
def _root_.L34.Tr.sd : Tr → D
  | .leaf k => .tup [.str "leaf", .int k]
  | .ask v lo hi => .tup [.str "sum", .tup [.int v], lo.sd, hi.sd]
theorem nr_sd : ∀ t : Tr, nr t.sd = true
  | .leaf k => rfl
  | .ask v lo hi => by
    simp only [Tr.sd, nr, nrs, nr_sd lo, nr_sd hi, Bool.and_self]
theorem nrA_sd : ∀ t : Tr, nrA 0 t.sd = true
  | .leaf k => rfl
  | .ask v lo hi => by
    simp only [Tr.sd, nrA, nrAs, nrA_sd lo, nrA_sd hi, Bool.and_self]
theorem c_sums_of_tree : ∀ (t : Tr) (N : Nat) (s : Md.St), t.dep ≤ N → Γ (N + 1) ("sums_of_tree", none) [t.d] s = some (t.sd, s)
  | .leaf k, N, s, _ =>
    call_pure (d := (Tr.leaf k).sd) (s1 := []) p_sums_of_tree (by simp [nrs, nr, nr_tr1]) rfl (by decide) (out_of (seq_ret (ife_t (ev_cmp (ev_idx (ev_v rfl) rfl (i0 _ _ _)) rfl (se_leaf_leaf _)) rfl (ret_is (ev_v rfl))))) rfl
  | .ask v lo hi, N, s, hN => by
    unfold Tr.dep at hN
    obtain ⟨N, rfl⟩ : ∃ K, N = K + 1 := ⟨N - 1, by omega⟩
    have r1 := c_sums_of_tree lo N [] (by omega)
    have r2 := c_sums_of_tree hi N [] (by omega)
    refine call_pure (d := (Tr.ask v lo hi).sd) (s1 := []) p_sums_of_tree (by simp [nrs, nr, nr_tr1]) rfl (by decide) (out_of (ρ := [some (Tr.ask v lo hi).d]) (seq_nx (ife_f (ev_cmp (ev_idx (ev_v rfl) rfl (i0 _ _ _)) rfl (se_ask_leaf _)) rfl rfl) (ret_is ?_))) (by have h := nrA_sd (.ask v lo hi); unfold Tr.sd at h ⊢; simp only [fzA, h, if_true])
    exact ev_t4 rfl (ev_t1 (ev_idx (ev_v rfl) rfl (i1 _ _ _ _))) (ev_c1 (ev_idx (ev_v rfl) rfl (i2 _ _ _ _ _)) r1) (ev_c1 (ev_idx (ev_v rfl) rfl (i3 _ _ _ _ _ _)) r2)
theorem fs_loop : ∀ (t : Tr) (m : Nat) (x y : Option D), t.dep < m → ∃ x' y', whlL (fun ρ s => bnd (ev (Γ n) T.gl (.cmp .eq (.idx (.var 0) (.int 0)) (.str "sum")) ρ s) fun x s => (truth s x).map fun b => (b, s)) (fun ρ s => ex (Γ n) T.gl (.seq (.asg 2 (.bi .len false (.cons (.comp false [3] (.v 3) (.idx (.var 0) (.int 1)) (.cmp .isIn (.var 3) (.var 1)) (.var 3)) .nil))) (.asg 0 (.ife (.cmp .eq (.bin .mod false (.var 2) (.int 2)) (.int 1)) (.idx (.var 0) (.int 3)) (.idx (.var 0) (.int 2))))) ρ s) m [some t.sd, some (ti w), x, y] [] = some (.nx, [some (Tr.leaf (fl (aw w) t)).sd, some (ti w), x', y'], [])
  | .leaf k, m, x, y, hm => by
    obtain ⟨m, rfl⟩ : ∃ K, m = K + 1 := ⟨m - 1, by omega⟩
    exact ⟨x, y, whl_f (tst (ev_cmp (ev_idx (ev_v rfl) rfl (i0 _ _ _)) rfl (se_leaf_sum _)))⟩
  | .ask v lo hi, m, x, y, hm => by
    unfold Tr.dep at hm
    obtain ⟨m, rfl⟩ : ∃ K, m = K + 1 := ⟨m - 1, by omega⟩
    have hcomp : ev (Γ n) T.gl (.comp false [3] (.v 3) (.idx (.var 0) (.int 1)) (.cmp .isIn (.var 3) (.var 1)) (.var 3)) [some (Tr.ask v lo hi).sd, some (ti w), x, y] [] = some (li ([v].filter fun u => decide (u ∈ w)), []) :=
      comp_p (x := ti [v]) [v] D.int (fun u => decide (u ∈ w)) D.int (fun u => [some (Tr.ask v lo hi).sd, some (ti w), x, some (.int u)]) (ev_idx (ev_v rfl) rfl (i1 _ _ _ _)) rfl rfl (fun _ _ => rfl) (fun u _ => by
        rw [ev_cmp (p := decide (u ∈ w)) (ev_v rfl) (ev_v rfl) (by rw [cmp_in, mem_tup])]; rfl) (fun _ _ _ => ev_v rfl)
    obtain ⟨q, hq⟩ : ∃ q : Int, q = if v ∈ w then 1 else 0 := ⟨_, rfl⟩
    have hlen : ev (Γ n) T.gl (.bi .len false (.cons (.comp false [3] (.v 3) (.idx (.var 0) (.int 1)) (.cmp .isIn (.var 3) (.var 1)) (.var 3)) .nil)) [some (Tr.ask v lo hi).sd, some (ti w), x, y] [] = some (.int q, []) := by
      refine ev_b1 hcomp ?_
      rw [b_len_l, List.length_map, hq]
      by_cases h : v ∈ w <;> simp [h]
    have hm2 := op_mod false q 2 [] (by omega)
    have hc : ev (Γ n) T.gl (.cmp .eq (.bin .mod false (.var 2) (.int 2)) (.int 1)) [some (Tr.ask v lo hi).sd, some (ti w), some (.int q), y] [] = some (.bl (decide (v ∈ w)), []) := by
      refine ev_cmp (ev_bin (ev_v rfl) rfl hm2) rfl ?_
      rw [cmp_eqI, hq]
      by_cases h : v ∈ w <;> simp [h]
    have step : ex (Γ n) T.gl (.seq (.asg 2 (.bi .len false (.cons (.comp false [3] (.v 3) (.idx (.var 0) (.int 1)) (.cmp .isIn (.var 3) (.var 1)) (.var 3)) .nil))) (.asg 0 (.ife (.cmp .eq (.bin .mod false (.var 2) (.int 2)) (.int 1)) (.idx (.var 0) (.int 3)) (.idx (.var 0) (.int 2))))) [some (Tr.ask v lo hi).sd, some (ti w), x, y] [] = some (.nx, [some (if decide (v ∈ w) then hi.sd else lo.sd), some (ti w), some (.int q), y], []) := by
      refine seq_nx (asg_nx hlen rfl) (asg_nx (ev_ite hc rfl ?_) rfl)
      cases decide (v ∈ w)
      · exact ev_idx (ev_v rfl) rfl (i2 _ _ _ _ _)
      · exact ev_idx (ev_v rfl) rfl (i3 _ _ _ _ _ _)
    have htst := tst (ev_cmp (Γ := Γ n) (gl := T.gl) (a := .idx (.var 0) (.int 0)) (b := .str "sum") (ρ := [some (Tr.ask v lo hi).sd, some (ti w), x, y]) (s := []) (ev_idx (ev_v rfl) rfl (i0 _ _ _)) rfl (se_sum_sum _))
    unfold fl
    show ∃ x' y', _ = some (R.nx, [some (Tr.leaf (if decide (v ∈ w) = true then fl (aw w) hi else fl (aw w) lo)).sd, some (ti w), x', y'], [])
    cases hb : decide (v ∈ w) with
    | false =>
      rw [hb] at step
      obtain ⟨x', y', h⟩ := fs_loop lo m (some (.int q)) y (by omega)
      exact ⟨x', y', whl_t htst step h⟩
    | true =>
      rw [hb] at step
      obtain ⟨x', y', h⟩ := fs_loop hi m (some (.int q)) y (by omega)
      exact ⟨x', y', whl_t htst step h⟩
theorem c_find_sum_leaf (t : Tr) (ht : t.dep < 100) (s : Md.St) : Γ (n + 1) ("find_sum_leaf", none) [t.sd, ti w] s = some (.int (fl (aw w) t), s) := by
  obtain ⟨x', y', h⟩ := fs_loop n w t wfuel none none (by unfold wfuel; omega)
  exact call_pure (d := .int (fl (aw w) t)) (s1 := []) p_find_sum_leaf (by simp [nrs, nr, nr_sd]) rfl (by decide) (out_of (seq_nx (by rw [whl_is]; exact h) (ret_is (ev_idx (ev_v rfl) rfl (i1 _ _ _ _))))) rfl
end
end L34
end
section
set_option maxRecDepth 100000
set_option maxHeartbeats 1000000
namespace L34
open PySem PySem.Spec PyProof.Rows Md
theorem nrs_stepsL : ∀ {st : List D}, (∀ d ∈ st, ∃ k, StOk k d) → nrs st = true
  | [], _ => rfl
  | d :: st, h => by
    rw [nrs, nrs_stepsL fun e he => h e (List.mem_cons_of_mem _ he)]
    obtain ⟨k, hk⟩ := h d List.mem_cons_self
    cases hk <;> rfl
theorem nrs_steps {st : List D} (hS : Steps st) : nrs st = true := nrs_stepsL fun d hd => by
  obtain ⟨i, hi, e⟩ := List.mem_iff_getElem.mp hd
  exact ⟨i, hS i d (List.getElem?_eq_some_iff.mpr ⟨hi, e⟩)⟩
abbrev tbRest : S := (.seq (.ife (.cmp .isIn (.var 7) (.var 2)) (.ret (.call "tree_below" (.cons (.var 0) (.cons (.var 6) (.cons (.var 2) .nil))))) .skip) (.seq (.ife (.cmp .isIn (.neg (.var 7)) (.var 2)) (.ret (.call "tree_below" (.cons (.var 0) (.cons (.var 5) (.cons (.var 2) .nil))))) .skip) (.seq (.asg 8 (.call "tree_below" (.cons (.var 0) (.cons (.var 5) (.cons (.call "with_literal" (.cons (.var 2) (.cons (.neg (.var 7)) .nil))) .nil))))) (.ret (.tup (.cons (.str "ask") (.cons (.var 7) (.cons (.var 8) (.cons (.call "tree_below" (.cons (.var 0) (.cons (.var 6) (.cons (.call "with_literal" (.cons (.var 2) (.cons (.var 7) .nil))) .nil)))) .nil)))))))))
theorem c_tree_below {m b : Nat} {cs : List (List Int)} {fo : List D} {fc : List (List Int)} (hD : Der m cs fo fc) (hfo : fo.length ≤ 100) (hb : b ≤ 100) : ∀ (K k : Nat) (cube c : List Int) (s : Md.St), k < K → fc[k]? = some c → (∀ l ∈ c, -l ∈ cube) → Cube m cube → cube.length + (free m cube).length ≤ b →
    ∃ t, Γ (K + 1) ("tree_below", none) [.tup fo, .int (k : Int), ti cube] s = some (t.d, s) ∧ TrOk m cs b t cube
  | 0, k, cube, c, s, hk, _, _, _, _ => by omega
  | K + 1, k, cube, c, s, hk, hc, hcl, hC, hlen => by
    have hkl : k < fo.length := by rw [hD.len]; exact (List.getElem?_eq_some_iff.mp hc).1
    obtain ⟨d, hd⟩ : ∃ d, fo[k]? = some d := ⟨fo[k], List.getElem?_eq_getElem hkl⟩
    have hn := fun s => nth_nat (xs := fo) s hd
    have hnr := nrs_steps hD.steps
    have hargs : nrs [.tup fo, .int (k : Int), ti cube] = true := by simp [nrs, nr, hnr]
    rcases hD.at_ k d hd with ⟨i, c', rfl, h1, h2⟩ | ⟨a, b', v, ca, cb, c', rfl, ha, hb', hca, hcb, h2, hv, hx1, hx2⟩
    · rw [hc] at h2
      cases h2
      refine ⟨.leaf (i : Int), call_pure (d := (Tr.leaf (i : Int)).d) (s1 := []) p_tree_below hargs rfl (by decide) (out_of (seq_nx (asg_nx (ev_idx (ev_v rfl) (ev_v rfl) (by rw [idx_tup, hn])) rfl) (seq_ret (ife_t (ev_cmp (ev_idx (ev_v rfl) rfl (i0 _ _ _)) rfl (se_axiom_axiom _)) rfl (ret_is (ev_t2 rfl (ev_idx (ev_v rfl) rfl (i1 _ _ _ _)))))))) rfl, by omega, hC, i, c, rfl, h1, List.all_eq_true.mpr fun l hl => decide_eq_true (hcl l hl)⟩
    · rw [hc] at h2
      cases h2
      have step : ∀ (r : Option (R × Md.Env × Md.St)), ex (Γ (K + 1)) T.gl tbRest
          [some (.tup fo), some (.int (k : Int)), some (ti cube), some (reS a b' v), some (.str "resolve"), some (.int (a : Int)), some (.int (b' : Int)), some (.int v), none] [] = r → ex (Γ (K + 1)) T.gl m_tree_below.body [some (.tup fo), some (.int (k : Int)), some (ti cube), none, none, none, none, none, none] [] = r := by
        intro r hr
        exact seq_nx (asg_nx (ev_idx (ev_v rfl) (ev_v rfl) (by rw [idx_tup, hn])) rfl) (seq_nx (ife_f (ev_cmp (ev_idx (ev_v rfl) rfl (i0 _ _ _)) rfl (se_resolve_axiom _)) rfl rfl) (seq_nx (ife_f (ev_cmp (ev_idx (ev_v rfl) rfl (i0 _ _ _)) rfl (se_resolve_weaken _)) rfl rfl) (seq_nx (asgT_nx (ev_v rfl) rfl) hr)))
      have hz : ∀ t : Tr, fzA 0 [] t.d = some t.d := fun t => by
        have := nr_tr t
        cases t <;> (unfold Tr.d at this ⊢; simp only [fzA, this, if_true])
      by_cases hvc : v ∈ cube
      · obtain ⟨t, ht, hT⟩ := c_tree_below hD hfo hb K b' cube cb [] (by omega) hcb (fun l hl => by
          rcases hx2 l hl with h | h
          · rw [h, Int.neg_neg]; exact hvc
          · exact hcl l h) hC hlen
        refine ⟨t, call_pure (d := t.d) (s1 := []) p_tree_below hargs rfl (by decide) (out_of (step _ (seq_ret (ife_t (ev_cmp (p := true) (ev_v rfl) (ev_v rfl) (by rw [cmp_in, mem_tup, decide_eq_true hvc])) rfl (ret_is (ev_c3 (ev_v rfl) (ev_v rfl) (ev_v rfl) ht)))))) (hz t), hT⟩
      · have t1 := ev_cmp (Γ := Γ (K + 1)) (gl := T.gl) (o := .isIn) (a := .var 7) (b := .var 2) (p := false) (ρ := [some (.tup fo), some (.int (k : Int)), some (ti cube), some (reS a b' v), some (.str "resolve"), some (.int (a : Int)), some (.int (b' : Int)), some (.int v), none]) (s := []) (ev_v rfl) (ev_v rfl) (by rw [cmp_in, mem_tup, decide_eq_false hvc])
        by_cases hnc : -v ∈ cube
        · obtain ⟨t, ht, hT⟩ := c_tree_below hD hfo hb K a cube ca [] (by omega) hca (fun l hl => by
            rcases hx1 l hl with h | h
            · rw [h]; exact hnc
            · exact hcl l h) hC hlen
          refine ⟨t, call_pure (d := t.d) (s1 := []) p_tree_below hargs rfl (by decide) (out_of (step _ (seq_nx (ife_f t1 rfl rfl) (seq_ret (ife_t (ev_cmp (p := true) (ev_neg (ev_v rfl)) (ev_v rfl) (by rw [cmp_in, mem_tup, decide_eq_true hnc])) rfl (ret_is (ev_c3 (ev_v rfl) (ev_v rfl) (ev_v rfl) ht))))))) (hz t), hT⟩
        · have hf : v ∈ free m cube := mem_free.mpr ⟨⟨by omega, hv.2⟩, hvc, hnc⟩
          have f1 := free_less (x := -v) hf (.inr rfl)
          have f2 := free_less (x := v) hf (.inl rfl)
          have e1 : ∀ x : Int, (srt (cube ++ [x])).length = cube.length + 1 := fun x => by rw [len_srt]; simp
          have w1 := c_with_literal K [] cube (-v) (by omega)
          have w2 := c_with_literal K [] cube v (by omega)
          obtain ⟨lo, hlo, T1⟩ := c_tree_below hD hfo hb K a (srt (cube ++ [-v])) ca [] (by omega) hca (fun l hl => by
            rw [mem_add]
            rcases hx1 l hl with h | h
            · rw [h]; exact .inr rfl
            · exact .inl (hcl l h)) (hC.add hf (.inr rfl)) (by rw [e1]; omega)
          obtain ⟨hi, hhi, T2⟩ := c_tree_below hD hfo hb K b' (srt (cube ++ [v])) cb [] (by omega) hcb (fun l hl => by
            rw [mem_add]
            rcases hx2 l hl with h | h
            · rw [h, Int.neg_neg]; exact .inr rfl
            · exact .inl (hcl l h)) (hC.add hf (.inl rfl)) (by rw [e1]; omega)
          refine ⟨.ask v lo hi, call_pure (d := (Tr.ask v lo hi).d) (s1 := []) p_tree_below hargs rfl (by decide) (out_of (step _ (seq_nx (ife_f t1 rfl rfl) (seq_nx (ife_f (ev_cmp (p := false) (ev_neg (ev_v rfl)) (ev_v rfl) (by rw [cmp_in, mem_tup, decide_eq_false hnc])) rfl rfl) (seq_nx (asg_nx (ev_c3 (ev_v rfl) (ev_v rfl) (ev_c2 (ev_v rfl) (ev_neg (ev_v rfl)) w1) hlo) rfl) (ret_is (ev_t4 rfl (ev_v rfl) (ev_v rfl) (ev_c3 (ev_v rfl) (ev_v rfl) (ev_c2 (ev_v rfl) (ev_v rfl) w2) hhi)))))))) (hz _), ?_⟩
          exact ⟨by omega, hC, hf, T1, T2⟩
theorem c_tree_of_steps {m : Nat} {cs : List (List Int)} {fo : List D} {fc : List (List Int)} (hm : m ≤ 4) (hD : Der m cs fo fc) (hlast : fc.getLast? = some []) (hfo : fo.length ≤ 60) (n : Nat) (hn : fo.length ≤ n) (s : Md.St) : ∃ t, Γ (n + 2) ("tree_of_steps", none) [fm m cs, .tup fo] s = some (t.d, s) ∧ TrOk m cs 5 t [] := by
  have hf := free_len m []
  rw [List.getLast?_eq_getElem?] at hlast
  have hpos : 0 < fc.length := by
    have := (List.getElem?_eq_some_iff.mp hlast).1
    omega
  have hl := hD.len
  obtain ⟨t, ht, hT⟩ := c_tree_below (b := 5) hD (by omega) (by omega) n (fc.length - 1) [] [] [] (by omega) hlast (fun l h => by cases h) (cube_nil m) (by simp; omega)
  have hnr := nrs_steps hD.steps
  refine ⟨t, call_pure (d := t.d) (s1 := []) p_tree_of_steps (by simp [nrs, nr, hnr]) rfl (by decide) (out_of (ret_is (ev_c3 (ev_v rfl) (ev_bin (ev_b1 (ev_v rfl) (b_len_t _ _ _)) rfl (op_sub _ _ _ _)) rfl ?_))) ?_, hT⟩
  · have : (fo.length : Int) - 1 = ((fc.length - 1 : Nat) : Int) := by omega
    rw [this]
    exact ht
  · have := nr_tr t
    cases t <;> (unfold Tr.d at this ⊢; simp only [fzA, this, if_true])
end L34
end
section
set_option maxRecDepth 100000
set_option maxHeartbeats 1000000
namespace Md
theorem setI_nx {Γ : Calls} {gl : PySem.Str → Option D} {ρ : Env} {s s1 s2 s3 s4 : St} {o i e : E} {x y v : D} (h1 : ev Γ gl e ρ s = some (v, s1)) (h2 : ev Γ gl o ρ s1 = some (x, s2)) (h3 : ev Γ gl i ρ s2 = some (y, s3)) (h : setAt x y v s3 = some s4) : ex Γ gl (.setI o i e) ρ s = some (.nx, ρ, s4) := by
  simp only [x_setI, h1, h2, h3, bnd_some, h, Option.map_some]
end Md
namespace L34
open PySem PySem.Spec PyProof.Rows Md
variable (n : Nat) (s : Md.St)
abbrev FS (F : List Po) : Md.St := [.lst (F.map tts)]
theorem idx_FS {F : List Po} {i : Nat} {p : Po} (h : F[i]? = some p) : idxD (.ref 0) (.int (i : Int)) (FS F) = some (tts p, FS F) := by
  have hn := nth_nat (xs := F.map tts) (FS F) (k := i) (d := tts p) (by rw [List.getElem?_map, h]; rfl)
  exact hn
theorem set_FS {F : List Po} {i : Nat} (p : Po) (h : i < F.length) : setAt (.ref 0) (.int (i : Int)) (tts p) (FS F) = some (FS (F.set i p)) := by
  show ((ixOf (F.map tts).length (i : Int)).map fun j => (FS F).set 0 (.lst ((F.map tts).set j (tts p)))) = _
  rw [ix_nat, List.length_map, if_pos h, Option.map_some]
  show some (FS F |>.set 0 _) = _
  have : (F.map tts).set i (tts p) = (F.set i p).map tts := List.map_set.symm
  rw [this]
  rfl
theorem c_factors {m : Nat} {cs : List (List Int)} {t : Tr} (hm : m ≤ 4) (hcs : cs.length ≤ 30) (h5 : t.dep ≤ 5) (hT : TrOk m cs 5 t []) : Γ (n + 8) ("factors_of_tree", none) [fm m cs, t.d] s = some (.tup ((fcs cs t).map tts), s) := by
  have hlc := c_leaf_cubes t [] (n + 5) (FS (List.replicate cs.length [])) (by omega) h5 (by simp; omega)
  obtain ⟨ρ, s1, hf, F, x3, x4, x5, x6, rfl, rfl, h1, _⟩ := for_st (Γ := Γ (n + 7)) (gl := T.gl) (g := .t (.cons (.v 3) (.cons (.v 4) .nil))) (it := .call "leaf_cubes" (.cons (.var 1) (.cons (.tup .nil) .nil)))
    (b := .seq (.asg 5 (.tup (.cons (.tup .nil) .nil))) (.seq (.forS (.v 6) (.var 4) (.ife (.cmp .notIn (.neg (.var 6)) (.idx (.idx (.var 0) (.int 1)) (.var 3))) (.asg 5 (.call "times" (.cons (.var 5) (.cons (.call "literal_factor" (.cons (.neg (.var 6)) .nil)) .nil)))) .skip)) (.setI (.var 2) (.var 3) (.call "plus" (.cons (.idx (.var 2) (.var 3)) (.cons (.var 5) .nil))))))
    (ρ := [some (fm m cs), some t.d, some (.ref 0), none, none, none, none]) (s := FS (List.replicate cs.length [])) (s0 := FS (List.replicate cs.length [])) (x := .lst ((lvs t []).map pe)) (lvs t []) pe
    (fun l ρ s => ∃ (F : List Po) (x3 x4 x5 x6 : Option D), ρ = [some (fm m cs), some t.d, some (.ref 0), x3, x4, x5, x6] ∧ s = FS F ∧ fct cs l F = fcs cs t ∧ F.length = cs.length ∧ (∀ p ∈ F, Can m p) ∧ ∀ p ∈ l, LvOk m cs (0 + t.dep) p)
    (ev_c2 (ev_v rfl) rfl hlc) rfl (fun _ => rfl) ⟨_, none, none, none, none, rfl, rfl, rfl, List.length_replicate, fun p hp => by rw [(List.mem_replicate.mp hp).2]; exact can_nil m, lvs_ok t [] hT⟩ (by
      rintro ⟨i, w⟩ l ρ s ⟨F, x3, x4, x5, x6, rfl, rfl, h1, hl, hF, ho⟩
      obtain ⟨⟨j, c, e1, e2, _⟩, hw, _⟩ := ho _ List.mem_cons_self
      have e1 : i = (j : Int) := e1
      subst e1
      have hw : Lits m w := hw
      have hj : j < F.length := by rw [hl]; exact (List.getElem?_eq_some_iff.mp e2).1
      obtain ⟨p, hp⟩ : ∃ p, F[j]? = some p := ⟨F[j], List.getElem?_eq_getElem hj⟩
      have hcn := fun s => nth_cl cs s e2
      obtain ⟨ρ2, s2, hi, f, y6, rfl, rfl, g1, g2⟩ := for_st (Γ := Γ (n + 7)) (gl := T.gl) (g := .v 6) (it := .var 4) (b := .ife (.cmp .notIn (.neg (.var 6)) (.idx (.idx (.var 0) (.int 1)) (.var 3))) (.asg 5 (.call "times" (.cons (.var 5) (.cons (.call "literal_factor" (.cons (.neg (.var 6)) .nil)) .nil)))) .skip)
        (ρ := [some (fm m cs), some t.d, some (.ref 0), some (.int (j : Int)), some (ti w), some (tts [[]]), x6]) (s := FS F) (s0 := FS F) (x := ti w) w D.int
        (fun l ρ s => ∃ (f : Po) (y6 : Option D), ρ = [some (fm m cs), some t.d, some (.ref 0), some (.int (j : Int)), some (ti w), some (tts f), y6] ∧ s = FS F ∧ l.foldl (fun f l => if -l ∈ c then f else tp f (lf (-l))) f = prd c w ∧ (Can m f ∧ Lits m l))
        (ev_v rfl) rfl (fun _ => rfl) ⟨[[]], x6, rfl, rfl, rfl, can_unit m, hw⟩ (by
          rintro l0 l' ρ s ⟨f, y6, rfl, rfl, g1, g2, g3⟩
          have hl0 := g3.lit l0 List.mem_cons_self
          have hlf : Can m (lf (-l0)) := can_lf ⟨by omega, by omega, by omega⟩
          have hcond := ev_cmp (Γ := Γ (n + 7)) (gl := T.gl) (o := .notIn) (a := .neg (.var 6)) (b := .idx (.idx (.var 0) (.int 1)) (.var 3)) (p := !decide (-l0 ∈ c)) (ρ := [some (fm m cs), some t.d, some (.ref 0), some (.int (j : Int)), some (ti w), some (tts f), some (.int l0)]) (s := FS F) (ev_neg (ev_v rfl)) (ev_idx (ev_idx (ev_v rfl) rfl (i1 _ _ _ _)) (ev_v rfl) (by rw [idx_tup, hcn])) (by rw [cmp_notIn, mem_tup]; rfl)
          rw [List.foldl_cons] at g1
          have g3' : Lits m l' := ⟨fun x hx => g3.lit x (List.mem_cons_of_mem _ hx)⟩
          by_cases hin : -l0 ∈ c
          · rw [decide_eq_true hin] at hcond
            rw [if_pos hin] at g1
            exact ⟨_, _, FS F, rfl, ife_f hcond rfl rfl, f, _, rfl, rfl, g1, g2, g3'⟩
          · rw [decide_eq_false hin] at hcond
            rw [if_neg hin] at g1
            have ht := c_times (n + 4) (FS F) hm g2 hlf
            exact ⟨_, _, FS F, rfl, ife_t hcond rfl (asg_nx (ev_c2 (ev_v rfl) (ev_c1 (ev_neg (ev_v rfl)) (c_literal_factor (n + 6) (FS F) (-l0))) ht) rfl), _, _, rfl, rfl, g1, can_tp g2 hlf, g3'⟩)
      have g1 : f = prd c w := g1
      subst g1
      have hpc := hF p (List.mem_of_getElem? hp)
      have hprd := can_prd (c := c) hw
      have hpl := c_plus (n + 6) (FS F) p (prd c w) (by have := can_len hm hpc; have := can_len hm hprd; omega)
      have ed : F.getD ((j : Int)).toNat [] = p := by
        rw [show ((j : Int)).toNat = j by omega, List.getD_eq_getElem?_getD, hp]; rfl
      have ec : cs.getD ((j : Int)).toNat [] = c := by
        rw [show ((j : Int)).toNat = j by omega, List.getD_eq_getElem?_getD, e2]; rfl
      unfold fct at h1
      rw [ed, ec, show ((j : Int)).toNat = j by omega] at h1
      refine ⟨_, _, FS (F.set j (pl p (prd c w))), rfl, seq_nx (asg_nx (x := tts [[]]) (s1 := FS F) rfl rfl) (seq_nx hi (setI_nx (ev_c2 (ev_idx (ev_v rfl) (ev_v rfl) (idx_FS hp)) (ev_v rfl) hpl) (ev_v rfl) (ev_v rfl) (set_FS _ hj))), _, _, _, _, _, rfl, rfl, h1, by rw [List.length_set]; exact hl, fun q hq => ?_, fun q hq => ho q (List.mem_cons_of_mem _ hq)⟩
      rcases List.mem_or_eq_of_mem_set hq with h | h
      · exact hF q h
      · rw [h]; exact can_pl hpc hprd)
  have h1 : F = fcs cs t := h1
  subst h1
  have hrep : binop .mul true (.lst [.tup []]) (.int (cs.length : Int)) [] = some (.ref 0, FS (List.replicate cs.length [])) := by
    show (if 0 ≤ (cs.length : Int) ∧ (cs.length : Int) ≤ 1000000 ∧ 1 * ((cs.length : Int)).toNat ≤ cap then some (mk true (List.replicate ((cs.length : Int)).toNat [D.tup []]).flatten []) else none) = _
    rw [if_pos ⟨by omega, by omega, by unfold cap; omega⟩, show ((cs.length : Int)).toNat = cs.length by omega]
    have : ∀ k : Nat, (List.replicate k [D.tup []]).flatten = (List.replicate k ([] : Po)).map tts := by
      intro k
      induction k with
      | zero => rfl
      | succ k ih => rw [List.replicate_succ, List.flatten_cons, ih, List.replicate_succ, List.map_cons]; rfl
    rw [this]
    rfl
  have hlen : ev (Γ (n + 7)) T.gl (.bi .len false (.cons (.idx (.var 0) (.int 1)) .nil)) [some (fm m cs), some t.d, none, none, none, none, none] [] = some (.int (cs.length : Int), []) := ev_b1 (ev_idx (ev_v rfl) rfl (i1 _ _ _ _)) (by rw [b_len_t, List.length_map])
  refine call_pure (d := .tup ((fcs cs t).map tts)) (s1 := FS (fcs cs t)) p_factors_of_tree (by simp [nrs, nr, nr_tr1]) rfl (by decide) (out_of (seq_nx (asg_nx (ev_bin (ev_l1 rfl) hlen hrep) rfl) (seq_nx hf (ret_is (ev_b1 (ev_v rfl) rfl))))) ?_
  have : ∀ F : List Po, nrAs 0 (F.map tts) = true := by
    intro F
    induction F with
    | nil => rfl
    | cons p F ih => rw [List.map_cons, nrAs, ih]; simp [nrA]
  show (if nrA 0 (.tup ((fcs cs t).map tts)) = true then some (D.tup ((fcs cs t).map tts)) else none) = _
  rw [if_pos]
  simp only [nrA]
  exact this _
end L34
end
section
set_option maxRecDepth 100000
set_option maxHeartbeats 1000000
namespace Md
section
variable {Γ : Calls} {gl : PySem.Str → Option D} {ρ : Env} {s s1 s2 s3 : St} {a b c : E} {x y z : D}
theorem ev_chainT {o p : Co} {q : Bool} (h1 : ev Γ gl a ρ s = some (x, s1)) (h2 : ev Γ gl b ρ s1 = some (y, s2)) (h : cmpD o s2 x y = some true) (h3 : ev Γ gl c ρ s2 = some (z, s3)) (h4 : cmpD p s3 y z = some q) : ev Γ gl (.chain o p a b c) ρ s = some (.bl q, s3) := by
  simp only [e_chain, bnd_some, h1, h2, h, h3, h4, Option.map_some]
theorem cut1 {α : Type} (xs : List α) : cut xs (some 1) none = xs.tail := by
  unfold cut
  cases xs with
  | nil => rfl
  | cons x xs =>
    have e : sIx (x :: xs).length 0 (some 1) = 1 := by
      show (if (1 : Int) < 0 then ((1 : Int) + ((x :: xs).length : Int)).toNat else min (1 : Int).toNat (x :: xs).length) = 1
      rw [if_neg (by omega), List.length_cons]
      show min 1 (xs.length + 1) = 1
      omega
    rw [e]
    show xs.take (xs.length + 1 - 1) = xs
    rw [Nat.add_sub_cancel, List.take_length]
theorem zipL_map {α β : Type} (e : α → D) (f : β → D) : ∀ (l : List α) (m : List β), zipL (l.map e) (m.map f) = (l.zip m).map fun p => .tup [e p.1, f p.2]
  | [], m => by cases m <;> rfl
  | x :: l, [] => rfl
  | x :: l, y :: m => by
    rw [List.map_cons, List.map_cons, zipL, zipL_map e f l m]
    rfl
end
theorem zip_tail {α : Type} {R : α → α → Prop} : ∀ {l : List α}, l.Pairwise R → ∀ p ∈ l.zip l.tail, R p.1 p.2
  | [], _, p, hp => by cases hp
  | [x], _, p, hp => by cases hp
  | x :: y :: l, h, p, hp => by
    obtain ⟨h1, h2⟩ := List.pairwise_cons.mp h
    have hp : p ∈ (x, y) :: (y :: l).zip l := hp
    rcases List.mem_cons.mp hp with rfl | hp
    · exact h1 y List.mem_cons_self
    · exact zip_tail h2 p hp
theorem lt_ti (s : St) (a b : List Int) : cmpD .lt s (ti a) (ti b) = some (HT.lexLt a b) := by
  show (if homD 1 (ti a) && homD 1 (ti b) then ltD (ti a) (ti b) else none) = _
  have h : ∀ c : List Int, homD 1 (ti c) = true := fun c => by rw [homD, hom0_ints]
  rw [h, h]
  have := Sn.ltB_tup a b
  show ltDs (a.map D.int) (b.map D.int) = _
  exact Sn.ltDs_ints a b
end Md
namespace L34
open PySem PySem.Spec PyProof.Rows Md
variable (n : Nat) (s : Md.St)
theorem c_asc {α : Type} (l : List α) (e : α → D) (R : α → α → Prop) (hn : nrs (l.map e) = true) (h : l.Pairwise R) (hl : l.length ≤ 1000) (hc : ∀ a b s, R a b → cmpD .lt s (e a) (e b) = some true) : Γ (n + 1) ("is_ascending", none) [.tup (l.map e)] s = some (.bl true, s) := by
  have hz : ev (Γ n) T.gl (.zip (.var 0) (.slc false (.var 0) (.int 1) .hole)) [some (.tup (l.map e)), none, none] [] = some (.lst ((l.zip l.tail).map fun p => .tup [e p.1, e p.2]), []) := by
    have hs : ev (Γ n) T.gl (.slc false (.var 0) (.int 1) .hole) [some (.tup (l.map e)), none, none] [] = some (.tup (l.tail.map e), []) := by
      have : (l.map e).tail = l.tail.map e := List.map_tail.symm
      rw [← this, ← cut1]
      rfl
    rw [e_zip, ev_v rfl, bnd_some, hs, bnd_some]
    show (if (l.map e).length ≤ cap then some (D.lst (zipL (l.map e) (l.tail.map e)), ([] : Md.St)) else none) = _
    rw [if_pos (by rw [List.length_map]; unfold cap; omega), zipL_map]
  have hcomp : ev (Γ n) T.gl (.comp false [1, 2] (.t (.cons (.v 1) (.cons (.v 2) .nil))) (.zip (.var 0) (.slc false (.var 0) (.int 1) .hole)) .yes (.cmp .lt (.var 1) (.var 2))) [some (.tup (l.map e)), none, none] [] = some (.lst ((l.zip l.tail).map fun p => D.bl true), []) :=
    comp_y (l.zip l.tail) (fun p => .tup [e p.1, e p.2]) (fun p => D.bl true) (fun p => [some (.tup (l.map e)), some (e p.1), some (e p.2)]) hz rfl rfl (fun _ _ => rfl) (fun p hp => ev_cmp (ev_v rfl) (ev_v rfl) (hc _ _ _ (zip_tail h p hp)))
  refine call_pure (d := .bl true) (s1 := []) p_is_ascending (by simp only [nrs, nr, hn, Bool.and_true]) rfl (by decide) (out_of (ret_is (ev_b1 hcomp ?_))) rfl
  rw [b_all false [] (fun _ : α × α => true) (l.zip l.tail), all_true]
theorem c_is_monomial {k : Nat} (hk : k ≤ 4) {m : List Int} (h : Mo k m) : Γ (n + 2) ("is_monomial", none) [.int (k : Int), ti m] s = some (.bl true, s) := by
  have hl := mo_len h
  have hcomp : ev (Γ (n + 1)) T.gl (.comp false [2] (.v 2) (.var 1) .yes (.and (.call "is_integer" (.cons (.var 2) .nil)) (.one (.chain .le .le (.int 1) (.var 2) (.var 0))))) [some (.int (k : Int)), some (ti m), none] [] = some (.lst (m.map fun _ => D.bl true), []) :=
    comp_y (x := ti m) m D.int (fun _ => D.bl true) (fun v => [some (.int (k : Int)), some (ti m), some (.int v)]) (ev_v rfl) rfl rfl (fun _ _ => rfl) (fun v hv => ev_and (ev_c1 (ev_v rfl) (c_is_integer n [] v)) (ev_one (ev_chainT rfl (ev_v rfl) (by rw [cmp_le, decide_eq_true (h.rng v hv).1]) (ev_v rfl) (by rw [cmp_le, decide_eq_true (h.rng v hv).2]))))
  have hall : ev (Γ (n + 1)) T.gl (.bi .all false (.cons (.comp false [2] (.v 2) (.var 1) .yes (.and (.call "is_integer" (.cons (.var 2) .nil)) (.one (.chain .le .le (.int 1) (.var 2) (.var 0))))) .nil)) [some (.int (k : Int)), some (ti m), none] [] = some (.bl true, []) := by
    refine ev_b1 hcomp ?_
    rw [b_all false [] (fun _ : Int => true) m, all_true]
  have hinst : ev (Γ (n + 1)) T.gl (.bi (.isInst "tuple") false (.cons (.var 1) .nil)) [some (.int (k : Int)), some (ti m), none] [] = some (.bl true, []) := ev_b1 (ev_v rfl) rfl
  exact call_pure (d := .bl true) (s1 := []) p_is_monomial (by simp [nrs, nr]) rfl (by decide) (out_of (seq_nx (ife_f (ev_or (ev_not hinst rfl) (ev_one (ev_not hall rfl))) rfl rfl) (ret_is (ev_c1 (ev_v rfl) (c_asc n [] m D.int (· < ·) (nrs_ints m) h.inc (by omega) fun a b s hab => by rw [cmp_lt, decide_eq_true hab]))))) rfl
theorem can_inc {k : Nat} {p : Po} (h : Can k p) : p.Pairwise fun a b => HT.lexLt a b = true := by
  have h1 : (srtT p).Pairwise fun a b => HT.lexLt b a = false := Sn.isort_sorted (NtL.swo_lexL id) p
  rw [h.srt] at h1
  exact (h1.and h.nod).imp fun {a b} ⟨h2, h3⟩ => by
    cases e : HT.lexLt a b with
    | true => rfl
    | false => exact absurd (Sn.lex_anti a b e h2) h3
theorem c_is_polynomial {k : Nat} (hk : k ≤ 4) {p : Po} (h : Can k p) : Γ (n + 3) ("is_polynomial", none) [.int (k : Int), tts p] s = some (.bl true, s) := by
  have hl := can_len hk h
  have hcomp : ev (Γ (n + 2)) T.gl (.comp false [2] (.v 2) (.var 1) .yes (.call "is_monomial" (.cons (.var 0) (.cons (.var 2) .nil)))) [some (.int (k : Int)), some (tts p), none] [] = some (.lst (p.map fun _ => D.bl true), []) :=
    comp_y (x := tts p) p ti (fun _ => D.bl true) (fun m => [some (.int (k : Int)), some (tts p), some (ti m)]) (ev_v rfl) rfl rfl (fun _ _ => rfl) (fun m hm => ev_c2 (ev_v rfl) (ev_v rfl) (c_is_monomial n [] hk (h.mo m hm)))
  have hall : ev (Γ (n + 2)) T.gl (.bi .all false (.cons (.comp false [2] (.v 2) (.var 1) .yes (.call "is_monomial" (.cons (.var 0) (.cons (.var 2) .nil)))) .nil)) [some (.int (k : Int)), some (tts p), none] [] = some (.bl true, []) := by
    refine ev_b1 hcomp ?_
    rw [b_all false [] (fun _ : List Int => true) p, all_true]
  have hinst : ev (Γ (n + 2)) T.gl (.bi (.isInst "tuple") false (.cons (.var 1) .nil)) [some (.int (k : Int)), some (tts p), none] [] = some (.bl true, []) := ev_b1 (ev_v rfl) rfl
  exact call_pure (d := .bl true) (s1 := []) p_is_polynomial (by simp [nrs, nr]) rfl (by decide) (out_of (ret_is (ev_and hinst (ev_and hall (ev_one (ev_c1 (ev_v rfl) (c_asc (n + 1) [] p ti (fun a b => HT.lexLt a b = true) (nrs_tis p) (can_inc h) (by omega) fun a b s hab => by rw [lt_ti, hab]))))))) rfl
/-! totals -/
abbrev TF (F : List Po) : D := .tup (F.map tts)
theorem nrs_TF : ∀ F : List Po, nrs (F.map tts) = true
  | [] => rfl
  | p :: F => by rw [List.map_cons, nrs, nrs_TF F]; simp [nr]
theorem zip_at {m : Int} {cs : List (List Int)} {F : List Po} (hcs : cs.length ≤ 100) {N : Nat} {ρ : Md.Env} {s : Md.St} (h0 : ρ[0]? = some (some (fm m cs))) (h1 : ρ[1]? = some (some (TF F))) : ev (Γ N) T.gl (.zip (.idx (.var 0) (.int 1)) (.var 1)) ρ s = some (.lst ((cs.zip F).map fun p => .tup [ti p.1, tts p.2]), s) := by
  have e1 : ev (Γ N) T.gl (.idx (.var 0) (.int 1)) ρ s = some (tts cs, s) := ev_idx (ev_v h0) rfl (i1 _ _ _ _)
  rw [e_zip, e1, bnd_some, ev_v h1, bnd_some]
  show (if (cs.map ti).length ≤ cap then some (D.lst (zipL (cs.map ti) (F.map tts)), s) else none) = _
  rw [if_pos (by rw [List.length_map]; unfold cap; omega), zipL_map]
theorem c_total {k : Nat} (hk : k ≤ 4) {cs : List (List Int)} (hcs : cs.length ≤ 30) {F : List Po} (hz : ∀ p ∈ cs.zip F, Lits k p.1 ∧ Can k p.2) : Γ (n + 5) ("total", none) [fm k cs, TF F] s = some (tts (tot (cs.zip F) []), s) := by
  obtain ⟨ρ, s1, hf, f, x3, x4, rfl, rfl, h1, h2⟩ := for_st (Γ := Γ (n + 4)) (gl := T.gl) (g := .t (.cons (.v 3) (.cons (.v 4) .nil))) (it := .zip (.idx (.var 0) (.int 1)) (.var 1)) (b := .asg 2 (.call "plus" (.cons (.var 2) (.cons (.call "times" (.cons (.call "clause_polynomial" (.cons (.var 3) .nil)) (.cons (.var 4) .nil))) .nil))))
    (ρ := [some (fm k cs), some (TF F), some (tts []), none, none]) (s := []) (s0 := []) (x := .lst ((cs.zip F).map fun p => .tup [ti p.1, tts p.2])) (cs.zip F) (fun p => .tup [ti p.1, tts p.2])
    (fun l ρ s => ∃ (f : Po) (x3 x4 : Option D), ρ = [some (fm k cs), some (TF F), some (tts f), x3, x4] ∧ s = [] ∧ tot l f = tot (cs.zip F) [] ∧ (Can k f ∧ ∀ p ∈ l, Lits k p.1 ∧ Can k p.2))
    (zip_at (by omega) rfl rfl) rfl (fun _ => rfl) ⟨[], none, none, rfl, rfl, rfl, can_nil k, hz⟩ (by
      rintro ⟨c, q⟩ l ρ s ⟨f, x3, x4, rfl, rfl, h1, h2, h3⟩
      obtain ⟨hc, hq⟩ := h3 _ List.mem_cons_self
      have hc : Lits k c := hc
      have hq : Can k q := hq
      have hcp := can_cp hc
      have ht := can_tp hcp hq
      have e1 := c_clause_polynomial n [] hk hc
      have e2 := c_times (n + 1) [] hk hcp hq
      have e3 := c_plus (n + 3) [] f (tp (cp c) q) (by have := can_len hk h2; have := can_len hk ht; omega)
      exact ⟨_, _, [], rfl, asg_nx (ev_c2 (ev_v rfl) (ev_c2 (ev_c1 (ev_v rfl) e1) (ev_v rfl) e2) e3) rfl, _, _, _, rfl, rfl, h1, can_pl h2 ht, fun p hp => h3 p (List.mem_cons_of_mem _ hp)⟩)
  have h1 : f = tot (cs.zip F) [] := h1
  subst h1
  exact call_pure (d := tts (tot (cs.zip F) [])) (s1 := []) p_total (by simp only [nrs, nr, nrs_TF, nrs_tis, Bool.and_true, Bool.and_self]) rfl (by decide) (out_of (seq_nx (asg_nx (x := tts []) (s1 := []) rfl rfl) (seq_nx hf (ret_is (ev_v rfl))))) (by simp [fzA, nrA])
theorem tts_inj {p q : Po} (h : tts p = tts q) : p = q := map_inj ti_inj (by simpa using h)
theorem ev_isG {N : Nat} {a : E} {ρ : Md.Env} {s s1 : Md.St} {p : Po} (h : ev (Γ N) T.gl a ρ s = some (tts p, s1)) : ev (Γ N) T.gl (.isG false a "ONE") ρ s = some (.bl (decide (p = [[]])), s1) := by
  have e : ev (Γ N) T.gl (.isG false a "ONE") ρ s = bnd (ev (Γ N) T.gl a ρ s) fun d s => match T.gl "ONE" with
    | some (.tup gs) => if eqOk 60 d && eqOk 60 (.tup gs) then some (.bl (eqD d (.tup gs) != false), s) else none
    | _ => none := rfl
  rw [e, h, bnd_some, gl_one]
  show (if eqOk 60 (tts p) && eqOk 60 (tts [[]]) then some (D.bl (eqD (tts p) (tts [[]]) != false), s1) else none) = _
  have hk : ∀ p : Po, eqOk 60 (tts p) = true := fun p => by rw [eqOk, eqOks_tis]
  rw [hk, hk, Bool.and_self, if_pos rfl, Bool.bne_false]
  congr 3
  rw [Bool.eq_iff_iff, eqD_iff, decide_eq_true_eq]
  exact ⟨tts_inj, fun h => by rw [h]⟩
theorem c_is_static {k : Nat} (hk : k ≤ 4) {cs : List (List Int)} (hcs : cs.length ≤ 30) {F : List Po} (hl : F.length = cs.length) (hlit : ∀ c ∈ cs, Lits k c) (hF : ∀ p ∈ F, Can k p) : Γ (n + 6) ("is_static", none) [fm k cs, TF F] s = some (.bl (decide (tot (cs.zip F) [] = [[]])), s) := by
  have hz := zip_mem hlit hF
  have hcomp : ev (Γ (n + 5)) T.gl (.comp false [4] (.v 4) (.var 1) .yes (.call "is_polynomial" (.cons (.var 2) (.cons (.var 4) .nil)))) [some (fm k cs), some (TF F), some (.int (k : Int)), some (tts cs), none] [] = some (.lst (F.map fun _ => D.bl true), []) :=
    comp_y (x := TF F) F tts (fun _ => D.bl true) (fun p => [some (fm k cs), some (TF F), some (.int (k : Int)), some (tts cs), some (tts p)]) (ev_v rfl) rfl rfl (fun _ _ => rfl) (fun p hp => ev_c2 (ev_v rfl) (ev_v rfl) (c_is_polynomial (n + 2) [] hk (hF p hp)))
  have hall : ev (Γ (n + 5)) T.gl (.bi .all false (.cons (.comp false [4] (.v 4) (.var 1) .yes (.call "is_polynomial" (.cons (.var 2) (.cons (.var 4) .nil)))) .nil)) [some (fm k cs), some (TF F), some (.int (k : Int)), some (tts cs), none] [] = some (.bl true, []) := by
    refine ev_b1 hcomp ?_
    rw [b_all false [] (fun _ : Po => true) F, all_true]
  have hinst : ev (Γ (n + 5)) T.gl (.bi (.isInst "tuple") false (.cons (.var 1) .nil)) [some (fm k cs), some (TF F), some (.int (k : Int)), some (tts cs), none] [] = some (.bl true, []) := ev_b1 (ev_v rfl) rfl
  have hne : ev (Γ (n + 5)) T.gl (.cmp .ne (.bi .len false (.cons (.var 1) .nil)) (.bi .len false (.cons (.var 3) .nil))) [some (fm k cs), some (TF F), some (.int (k : Int)), some (tts cs), none] [] = some (.bl false, []) :=
    ev_cmp (ev_b1 (ev_v rfl) (b_len_t _ _ _)) (ev_b1 (ev_v rfl) (b_len_t _ _ _)) (by rw [cmp_neI, List.length_map, List.length_map, hl, decide_eq_true rfl]; rfl)
  have ht := c_total n [] hk hcs hz
  exact call_pure (d := .bl (decide (tot (cs.zip F) [] = [[]]))) (s1 := []) p_is_static (by simp only [nrs, nr, nrs_TF, nrs_tis, Bool.and_true, Bool.and_self]) rfl (by decide) (out_of (seq_nx (asgT_nx (ρ1 := [some (fm k cs), some (TF F), some (.int (k : Int)), some (tts cs), none]) (ev_v rfl) rfl) (seq_nx (ife_f (ev_or (ev_not hinst rfl) (ev_or hne (ev_one (ev_not hall rfl)))) rfl rfl) (ret_is (ev_isG (ev_c2 (ev_v rfl) (ev_v rfl) ht)))))) rfl
end L34
end
section
set_option maxRecDepth 100000
set_option maxHeartbeats 1000000
namespace L34
open PySem PySem.Spec PyProof.Rows Md
variable (n : Nat) (s : Md.St)
theorem zip_getD {cs : List (List Int)} {F : List Po} {p : List Int × Po} (h : p ∈ cs.zip F) : ∃ j : Nat, cs[j]? = some p.1 ∧ F.getD j [] = p.2 := by
  obtain ⟨j, hj, e⟩ := List.mem_iff_getElem.mp h
  rw [List.getElem_zip] at e
  have hj := hj
  rw [List.length_zip] at hj
  refine ⟨j, ?_, ?_⟩
  · rw [← e]; exact List.getElem?_eq_getElem (by omega)
  · rw [← e, List.getD_eq_getElem?_getD, List.getElem?_eq_getElem (by omega : j < F.length)]; rfl
theorem c_static_degree {k : Nat} (hk : k ≤ 4) {cs : List (List Int)} (hcs : cs.length ≤ 30) {t : Tr} (hlit : ∀ c ∈ cs, Lits k c) (hT : TrOk k cs 5 t []) : ∃ r : Int, Γ (n + 5) ("static_degree", none) [fm k cs, TF (fcs cs t)] s = some (.int r, s) ∧ r ≤ (t.dep : Int) := by
  have hz := zip_mem hlit (fcs_can hT)
  obtain ⟨ρ, s1, hf, ds, x3, x4, x5, x6, rfl, rfl, h1, _⟩ := for_st (Γ := Γ (n + 4)) (gl := T.gl) (g := .t (.cons (.v 3) (.cons (.v 4) .nil))) (it := .zip (.idx (.var 0) (.int 1)) (.var 1)) (b := .seq (.asg 5 (.call "clause_polynomial" (.cons (.var 3) .nil))) (.exp (.bm .extend false (.var 2) (.cons (.comp false [6] (.v 6) (.var 4) .yes (.call "degree" (.cons (.call "times_monomial" (.cons (.var 5) (.cons (.var 6) .nil))) .nil))) .nil))))
    (ρ := [some (fm k cs), some (TF (fcs cs t)), some (.ref 0), none, none, none, none]) (s := so [-1]) (s0 := so [-1]) (x := .lst ((cs.zip (fcs cs t)).map fun p => .tup [ti p.1, tts p.2])) (cs.zip (fcs cs t)) (fun p => .tup [ti p.1, tts p.2])
    (fun l ρ s => ∃ (ds : List Int) (x3 x4 x5 x6 : Option D), ρ = [some (fm k cs), some (TF (fcs cs t)), some (.ref 0), x3, x4, x5, x6] ∧ s = so (-1 :: ds) ∧ (∀ d ∈ ds, d ≤ (t.dep : Int)) ∧ ds.length + 16 * l.length ≤ 500 ∧ ∀ p ∈ l, p ∈ cs.zip (fcs cs t))
    (zip_at (by omega) rfl rfl) rfl (fun _ => rfl) ⟨[], none, none, none, none, rfl, rfl, fun d h => (by cases h), by rw [List.length_zip, List.length_nil]; omega, fun p hp => hp⟩ (by
      rintro ⟨c, q⟩ l ρ s ⟨ds, x3, x4, x5, x6, rfl, rfl, h1, h2, h3⟩
      have hm := h3 _ List.mem_cons_self
      obtain ⟨hc, hq⟩ := hz _ hm
      have hc : Lits k c := hc
      have hq : Can k q := hq
      obtain ⟨j, hj, hjq⟩ := zip_getD hm
      have hjq : (fcs cs t).getD j [] = q := hjq
      have hql := can_len hk hq
      have hcp := can_cp hc
      rw [List.length_cons] at h2
      have e1 := c_clause_polynomial n (so (-1 :: ds)) hk hc
      have hcomp : ev (Γ (n + 4)) T.gl (.comp false [6] (.v 6) (.var 4) .yes (.call "degree" (.cons (.call "times_monomial" (.cons (.var 5) (.cons (.var 6) .nil))) .nil))) [some (fm k cs), some (TF (fcs cs t)), some (.ref 0), some (ti c), some (tts q), some (tts (cp c)), x6] (so (-1 :: ds)) = some (li (q.map fun m => dg (tm (cp c) m)), so (-1 :: ds)) := by
        rw [li, List.map_map]
        exact comp_y (x := tts q) q ti (fun m => D.int (dg (tm (cp c) m))) (fun m => [some (fm k cs), some (TF (fcs cs t)), some (.ref 0), some (ti c), some (tts q), some (tts (cp c)), some (ti m)]) (ev_v rfl) rfl rfl (fun _ _ => rfl) (fun m hm => ev_c1 (ev_c2 (ev_v rfl) (ev_v rfl) (c_times_monomial (n + 2) _ hk hcp (hq.mo m hm))) (c_degree (n + 3) _ _))
      have hext : bmop .extend false (.ref 0) [li (q.map fun m => dg (tm (cp c) m))] (so (-1 :: ds)) = some (.non, so (-1 :: (ds ++ q.map fun m => dg (tm (cp c) m)))) := by
        show (if ((-1 :: ds).map D.int).length + ((q.map fun m => dg (tm (cp c) m)).map D.int).length ≤ cap then some (D.non, (so (-1 :: ds)).set 0 (.lst ((-1 :: ds).map D.int ++ (q.map fun m => dg (tm (cp c) m)).map D.int))) else none) = _
        rw [if_pos (by simp only [List.length_map, List.length_cons]; unfold cap; omega), ← List.map_append]
        rfl
      have hbm : ev (Γ (n + 4)) T.gl (.bm .extend false (.var 2) (.cons (.comp false [6] (.v 6) (.var 4) .yes (.call "degree" (.cons (.call "times_monomial" (.cons (.var 5) (.cons (.var 6) .nil))) .nil))) .nil)) [some (fm k cs), some (TF (fcs cs t)), some (.ref 0), some (ti c), some (tts q), some (tts (cp c)), x6] (so (-1 :: ds)) = some (.non, so (-1 :: (ds ++ q.map fun m => dg (tm (cp c) m)))) := ev_bm1 (ev_v rfl) rfl hcomp hext
      refine ⟨_, _, _, rfl, seq_nx (asg_nx (ev_c1 (ev_v rfl) e1) rfl) (exp_nx hbm), _, _, _, _, _, rfl, rfl, fun d hd => ?_, by rw [List.length_append, List.length_map]; omega, fun p hp => h3 p (List.mem_cons_of_mem _ hp)⟩
      rcases List.mem_append.mp hd with h | h
      · exact h1 d h
      · obtain ⟨m, hm, rfl⟩ := List.mem_map.mp h
        exact dg_static hT hj m (by rw [hjq]; exact hm))
  have hmax : biop .max false [.ref 0] (so (-1 :: ds)) = some (.int (maxL (-1 :: ds) 0), so (-1 :: ds)) := by
    show (match allI ((-1 :: ds).map D.int) with
      | some (n :: ns) => some (D.int (maxL (n :: ns) 0), so (-1 :: ds))
      | _ => none) = _
    rw [allI_map]
  refine ⟨maxL (-1 :: ds) 0, call_pure (d := .int (maxL (-1 :: ds) 0)) (s1 := so (-1 :: ds)) p_static_degree (by simp only [nrs, nr, nrs_TF, nrs_tis, Bool.and_true, Bool.and_self]) rfl (by decide) (out_of (seq_nx (asg_nx (x := .ref 0) (s1 := so [-1]) rfl rfl) (seq_nx hf (ret_is (ev_b1 (ev_v rfl) hmax))))) rfl, ?_⟩
  refine maxL_leD (by omega) fun x hx => ?_
  rcases List.mem_cons.mp hx with rfl | hx
  · omega
  · exact h1 x hx
/-! graphs -/
inductive Nd where
  | leaf (k : Int) | ask (v : Int) (a b : Nat)
  deriving DecidableEq
def Nd.d : Nd → D
  | .leaf k => .tup [.str "leaf", .int k]
  | .ask v a b => .tup [.str "ask", .int v, .int (a : Int), .int (b : Int)]
def Nd.key : Nd → List KK
  | .leaf k => [.inr "leaf", .inl k]
  | .ask v a b => [.inr "ask", .inl v, .inl (a : Int), .inl (b : Int)]
theorem key_d : ∀ nd : Nd, keyT nd.d = some nd.key
  | .leaf k => rfl
  | .ask v a b => rfl
theorem key_inj : ∀ {x y : Nd}, x.key = y.key → x = y
  | .leaf k, .leaf k', h => by
    simp only [Nd.key, List.cons.injEq, Sum.inl.injEq] at h
    rw [h.2.1]
  | .leaf k, .ask v a b, h => by simp [Nd.key] at h
  | .ask v a b, .leaf k, h => by simp [Nd.key] at h
  | .ask v a b, .ask v' a' b', h => by
    simp only [Nd.key, List.cons.injEq, Sum.inl.injEq] at h
    obtain ⟨_, h1, h2, h3, _⟩ := h
    rw [h1, show a = a' by omega, show b = b' by omega]
def Rep (nds : List Nd) : Nat → Tr → Prop
  | i, .leaf k => nds[i]? = some (.leaf k)
  | i, .ask v lo hi => ∃ a b, nds[i]? = some (.ask v a b) ∧ Rep nds a lo ∧ Rep nds b hi
theorem get_app {α : Type} {l ex : List α} {i : Nat} {x : α} (h : l[i]? = some x) : (l ++ ex)[i]? = some x := by
  rw [List.getElem?_append_left (List.getElem?_eq_some_iff.mp h).1]; exact h
theorem Rep.mono {nds ex : List Nd} : ∀ {t : Tr} {i : Nat}, Rep nds i t → Rep (nds ++ ex) i t
  | .leaf k, i, h => get_app (l := nds) h
  | .ask v lo hi, i, ⟨a, b, h1, h2, h3⟩ => ⟨a, b, get_app h1, h2.mono, h3.mono⟩
structure PI (nds : List Nd) (pls : List (List KK × D)) : Prop where
  is : ∀ nd d, getK pls nd.key = some d → ∃ i : Nat, d = .int (i : Int) ∧ nds[i]? = some nd
  has : ∀ nd ∈ nds, (getK pls nd.key).isSome = true
abbrev GS (nds : List Nd) (pls : List (List KK × D)) : Md.St := [.lst (nds.map Nd.d), .dt pls]
/-- a node is found, or put behind the others -/
theorem put_node {N : Nat} {nds : List Nd} {pls : List (List KK × D)} (P : PI nds pls) (hl : nds.length < 200) (hp : pls.length < 200) (nd : Nd) (x0 x4 : Option D) : ∃ (ex : List Nd) (pls' : List (List KK × D)) (i : Nat),
    Md.ex (Γ N) T.gl (.seq (.ife (.cmp .notIn (.var 3) (.var 2)) (.seq (.setI (.var 2) (.var 3) (.bi .len false (.cons (.var 1) .nil))) (.exp (.bm .append false (.var 1) (.cons (.var 3) .nil)))) .skip) (.ret (.idx (.var 2) (.var 3)))) [x0, some (.ref 0), some (.ref 1), some nd.d, x4] (GS nds pls) = some (.ret (.int (i : Int)), [x0, some (.ref 0), some (.ref 1), some nd.d, x4], GS (nds ++ ex) pls') ∧ PI (nds ++ ex) pls' ∧ (nds ++ ex)[i]? = some nd ∧ (∀ y ∈ ex, y = nd) ∧ ex.length ≤ 1 ∧ pls'.length ≤ pls.length + 1 ∧ (nd ∉ nds → (nds ++ ex).getLast? = some nd) := by
  have hmem : memD (GS nds pls) nd.d (.ref 1) = some (getK pls nd.key).isSome := by
    show (keyT nd.d).map _ = _
    rw [key_d]; rfl
  cases hg : getK pls nd.key with
  | some d =>
    obtain ⟨i, rfl, hi⟩ := P.is nd d hg
    have hix : idxD (.ref 1) nd.d (GS nds pls) = some (.int (i : Int), GS nds pls) := by
      show ((keyT nd.d).bind fun q => getK pls q).map _ = _
      rw [key_d, Option.bind_some, hg]; rfl
    have hc := ev_cmp (Γ := Γ N) (gl := T.gl) (o := .notIn) (a := .var 3) (b := .var 2) (p := false) (ρ := [x0, some (.ref 0), some (.ref 1), some nd.d, x4]) (s := GS nds pls) (ev_v rfl) (ev_v rfl) (by rw [cmp_notIn, hmem, hg]; rfl)
    refine ⟨[], pls, i, ?_, ?_, ?_, by simp, by simp, by omega, fun h => absurd (List.mem_of_getElem? hi) h⟩
    · rw [List.append_nil]
      exact seq_nx (ife_f hc rfl rfl) (ret_is (ev_idx (ev_v rfl) (ev_v rfl) hix))
    · rw [List.append_nil]; exact P
    · rw [List.append_nil]; exact hi
  | none =>
    have hc := ev_cmp (Γ := Γ N) (gl := T.gl) (o := .notIn) (a := .var 3) (b := .var 2) (p := true) (ρ := [x0, some (.ref 0), some (.ref 1), some nd.d, x4]) (s := GS nds pls) (ev_v rfl) (ev_v rfl) (by rw [cmp_notIn, hmem, hg]; rfl)
    have hset : setAt (.ref 1) nd.d (.int (nds.length : Int)) (GS nds pls) = some (GS nds (putK pls nd.key (.int (nds.length : Int)))) := by
      show ((keyT nd.d).bind fun q => if pls.length < cap then some ((GS nds pls).set 1 (.dt (putK pls q (.int (nds.length : Int))))) else none) = _
      rw [key_d, Option.bind_some, if_pos (by unfold cap; omega)]
      rfl
    have hlen : ev (Γ N) T.gl (.bi .len false (.cons (.var 1) .nil)) [x0, some (.ref 0), some (.ref 1), some nd.d, x4] (GS nds pls) = some (.int (nds.length : Int), GS nds pls) := by
      refine ev_b1 (ev_v rfl) ?_
      show some (D.int ((nds.map Nd.d).length : Int), GS nds pls) = _
      rw [List.length_map]
    have happ : bmop .append false (.ref 0) [nd.d] (GS nds (putK pls nd.key (.int (nds.length : Int)))) = some (.non, GS (nds ++ [nd]) (putK pls nd.key (.int (nds.length : Int)))) := by
      show (if (nds.map Nd.d).length < cap then some (D.non, (GS nds (putK pls nd.key (.int (nds.length : Int)))).set 0 (.lst (nds.map Nd.d ++ [nd.d]))) else none) = _
      rw [if_pos (by rw [List.length_map]; unfold cap; omega)]
      show some (D.non, [O.lst (nds.map Nd.d ++ [nd.d]), O.dt _]) = some (D.non, [O.lst ((nds ++ [nd]).map Nd.d), O.dt _])
      rw [List.map_append]
      rfl
    have hix : idxD (.ref 1) nd.d (GS (nds ++ [nd]) (putK pls nd.key (.int (nds.length : Int)))) = some (.int (nds.length : Int), GS (nds ++ [nd]) (putK pls nd.key (.int (nds.length : Int)))) := by
      show ((keyT nd.d).bind fun q => getK (putK pls nd.key (.int (nds.length : Int))) q).map _ = _
      rw [key_d, Option.bind_some, get_put]; rfl
    refine ⟨[nd], _, nds.length, seq_nx (ife_t hc rfl (seq_nx (setI_nx hlen (ev_v rfl) (ev_v rfl) hset) (exp_nx (ev_bm1 (ev_v rfl) rfl (ev_v rfl) happ)))) (ret_is (ev_idx (ev_v rfl) (ev_v rfl) hix)), ⟨fun y d hy => ?_, fun y hy => ?_⟩, by rw [List.getElem?_append_right (Nat.le_refl _)]; simp, by simp, by simp, put_len _ _ _, fun _ => by simp⟩
    · by_cases e : y = nd
      · subst e
        rw [get_put] at hy
        cases hy
        exact ⟨nds.length, rfl, by rw [List.getElem?_append_right (Nat.le_refl _)]; simp⟩
      · rw [get_put_ne _ _ fun h => e (key_inj h)] at hy
        obtain ⟨i, h1, h2⟩ := P.is y d hy
        exact ⟨i, h1, get_app h2⟩
    · by_cases e : y = nd
      · subst e; rw [get_put]; rfl
      · rw [get_put_ne _ _ fun h => e (key_inj h)]
        rcases List.mem_append.mp hy with h | h
        · exact P.has y h
        · exact absurd (List.mem_singleton.mp h) e
def Nd.av : Nd → Option Int
  | .leaf _ => none
  | .ask v _ _ => some v
theorem c_place_tree {m b : Nat} {cs : List (List Int)} : ∀ (t : Tr) (cube : List Int) (N : Nat) (nds : List Nd) (pls : List (List KK × D)), TrOk m cs b t cube → t.dep ≤ N → PI nds pls → nds.length + t.sz < 100 → pls.length + t.sz < 100 →
    ∃ (ex : List Nd) (pls' : List (List KK × D)) (i : Nat), Γ (N + 1) ("place_tree", none) [t.d, .ref 0, .ref 1] (GS nds pls) = some (.int (i : Int), GS (nds ++ ex) pls') ∧ PI (nds ++ ex) pls' ∧ Rep (nds ++ ex) i t ∧ (∀ y ∈ ex, ∀ v, y.av = some v → v ∈ free m cube) ∧ ex.length ≤ t.sz ∧ pls'.length ≤ pls.length + t.sz ∧
      (match t with
      | .leaf _ => nds = [] → (nds ++ ex).getLast? = (nds ++ ex)[i]?
      | .ask v _ _ => (∀ y ∈ nds, y.av ≠ some v) → (nds ++ ex).getLast? = (nds ++ ex)[i]?)
  | .leaf k, cube, N, nds, pls, hT, hN, P, h1, h2 => by
    unfold Tr.sz at h1 h2
    obtain ⟨ex, pls', i, he, hP, hi, hx, hl, hpl, hlast⟩ := put_node (N := N) P (by omega) (by omega) (.leaf k) (some (Tr.leaf k).d) none
    refine ⟨ex, pls', i, call_raw p_place_tree rfl (by decide) (out_of (seq_nx (asg_nx (ev_v rfl) rfl) (seq_nx (ife_f (ev_cmp (ev_idx (ev_v rfl) rfl (i0 _ _ _)) rfl (se_leaf_ask _)) rfl rfl) he))), hP, hi, fun y hy v hv => ?_, hl, hpl, fun h => ?_⟩
    · rw [hx y hy] at hv
      cases hv
    · rw [hi]
      exact hlast (by rw [h]; exact List.not_mem_nil)
  | .ask v lo hi, cube, N, nds, pls, hT, hN, P, h1, h2 => by
    obtain ⟨_, _, hv, T1, T2⟩ := hT
    have z1 : (Tr.ask v lo hi).sz = lo.sz + hi.sz + 1 := rfl
    rw [z1] at h1 h2
    have d1 : (Tr.ask v lo hi).dep = max lo.dep hi.dep + 1 := rfl
    rw [d1] at hN
    obtain ⟨N, rfl⟩ : ∃ K, N = K + 1 := ⟨N - 1, by omega⟩
    obtain ⟨ex1, pl1, i1', r1, P1, R1, f1, l1, q1, _⟩ := c_place_tree lo _ N nds pls T1 (by omega) P (by omega) (by omega)
    obtain ⟨ex2, pl2, i2', r2, P2, R2, f2, l2, q2, _⟩ := c_place_tree hi _ N (nds ++ ex1) pl1 T2 (by omega) P1 (by rw [List.length_append]; omega) (by omega)
    obtain ⟨ex3, pl3, i, he, P3, hi3, hx, l3, q3, hlast⟩ := put_node (N := N + 1) P2 (by rw [List.length_append, List.length_append]; omega) (by omega) (.ask v i1' i2') (some (Tr.ask v lo hi).d) (some (.int (i1' : Int)))
    have low : ∀ x : Int, (x = v ∨ x = -v) → ∀ u, u ∈ free m (srt (cube ++ [x])) → u ∈ free m cube ∧ u ≠ v := fun x hx u hu => by
      obtain ⟨h3, h4, h5⟩ := mem_free.mp hu
      have h6 := (mem_free.mp hv).1
      rw [mem_add, not_or] at h4 h5
      refine ⟨mem_free.mpr ⟨h3, h4.1, h5.1⟩, fun e => ?_⟩
      rcases hx with rfl | rfl
      · exact h4.2 e
      · exact h5.2 (by rw [e])
    refine ⟨ex1 ++ ex2 ++ ex3, pl3, i, ?_, by simpa [List.append_assoc] using P3, ?_, fun y hy u hu => ?_, by rw [z1, List.length_append, List.length_append]; omega, by rw [z1]; omega, fun h => ?_⟩
    · rw [show nds ++ (ex1 ++ ex2 ++ ex3) = nds ++ ex1 ++ ex2 ++ ex3 by simp only [List.append_assoc]]
      refine call_raw p_place_tree rfl (by decide) (out_of (seq_nx (asg_nx (ev_v rfl) rfl) (seq_nx (ife_t (ev_cmp (ev_idx (ev_v rfl) rfl (i0 _ _ _)) rfl (se_ask_ask _)) rfl (seq_nx (asg_nx (ev_c3 (ev_idx (ev_v rfl) rfl (i2 _ _ _ _ _)) (ev_v rfl) (ev_v rfl) r1) rfl) (asg_nx (x := (Nd.ask v i1' i2').d) (ev_t4 rfl (ev_idx (ev_v rfl) rfl (i1 _ _ _ _)) (ev_v rfl) (ev_c3 (ev_idx (ev_v rfl) rfl (i3 _ _ _ _ _ _)) (ev_v rfl) (ev_v rfl) r2)) rfl))) he)))
    · rw [show nds ++ (ex1 ++ ex2 ++ ex3) = nds ++ ex1 ++ ex2 ++ ex3 by simp only [List.append_assoc]]
      exact ⟨i1', i2', hi3, R1.mono.mono, R2.mono⟩
    · rw [List.mem_append, List.mem_append] at hy
      rcases hy with (hy | hy) | hy
      · exact (low (-v) (.inr rfl) u (f1 y hy u hu)).1
      · exact (low v (.inl rfl) u (f2 y hy u hu)).1
      · rw [hx y hy] at hu
        cases hu
        exact hv
    · rw [show nds ++ (ex1 ++ ex2 ++ ex3) = nds ++ ex1 ++ ex2 ++ ex3 by simp only [List.append_assoc], hi3]
      refine hlast fun hm => ?_
      rw [List.mem_append, List.mem_append] at hm
      rcases hm with (hm | hm) | hm
      · exact h _ hm rfl
      · exact (low (-v) (.inr rfl) v (f1 _ hm v rfl)).2 rfl
      · exact (low v (.inl rfl) v (f2 _ hm v rfl)).2 rfl
theorem nrAs_nds : ∀ l : List Nd, nrAs 0 (l.map Nd.d) = true
  | [] => rfl
  | x :: l => by rw [List.map_cons, nrAs, nrAs_nds l]; cases x <;> rfl
theorem nrs_nds : ∀ l : List Nd, nrs (l.map Nd.d) = true
  | [] => rfl
  | x :: l => by rw [List.map_cons, nrs, nrs_nds l]; cases x <;> rfl
theorem c_graph_of_tree {m : Nat} {cs : List (List Int)} (hm : m ≤ 4) {t : Tr} (hT : TrOk m cs 5 t []) (h5 : t.dep ≤ 4) : ∃ (nds : List Nd) (i : Nat), Γ (n + 8) ("graph_of_tree", none) [t.d] s = some (.tup (nds.map Nd.d), s) ∧ Rep nds i t ∧ nds.getLast? = nds[i]? := by
  have hf := free_len m []
  have hz1 := sz_le hT
  have hz2 : 2 ^ ((free m []).length + 1) ≤ 2 ^ 5 := Nat.pow_le_pow_right (by omega) (by omega)
  have hP : PI [] [] := ⟨fun nd d h => (by cases h), fun nd h => (by cases h)⟩
  obtain ⟨ex, pls', i, hr, hP', hR, _, _, _, hlast⟩ := c_place_tree t [] (n + 6) [] [] hT (by omega) hP (by simp; omega) (by simp; omega)
  simp only [List.nil_append] at hr hR hlast
  refine ⟨ex, i, call_pure (d := .tup (ex.map Nd.d)) (s1 := GS ex pls') p_graph_of_tree (by simp [nrs, nr, nr_tr1]) rfl (by decide) (out_of (seq_nx (asg_nx (x := .ref 0) (s1 := [.lst []]) rfl rfl) (seq_nx (exp_nx (ev_c3 (s1 := [.lst []]) (s2 := [.lst []]) (s3 := GS [] []) (ev_v rfl) (ev_v rfl) rfl hr)) (ret_is (ev_b1 (ev_v rfl) rfl))))) ?_, hR, ?_⟩
  · show (if nrA 0 (.tup (ex.map Nd.d)) = true then some (D.tup (ex.map Nd.d)) else none) = _
    rw [if_pos]
    simp only [nrA]
    exact nrAs_nds ex
  · cases t with
    | leaf k => exact hlast trivial
    | ask v lo hi => exact hlast fun y hy => by cases hy
end L34
end
section
set_option maxRecDepth 100000
set_option maxHeartbeats 1000000
namespace L34
open PySem PySem.Spec PyProof.Rows Md
variable (n : Nat)
theorem nth_last {xs : List D} {d : D} (s : Md.St) (h : xs.getLast? = some d) : nthD xs (-1) s = some (d, s) := by
  rw [List.getLast?_eq_getElem?] at h
  have hl := (List.getElem?_eq_some_iff.mp h).1
  unfold nthD ixOf
  rw [if_neg (by omega), if_pos (by omega), Option.bind_some]
  have : (-1 + (xs.length : Int)).toNat = xs.length - 1 := by omega
  rw [this, h]
  rfl
theorem gl_loop (w : List Int) (nds : List Nd) : ∀ (t : Tr) (m i : Nat) (nd : Nd), t.dep < m → Rep nds i t → nds[i]? = some nd → whlL (fun ρ s => bnd (ev (Γ n) T.gl (.cmp .eq (.idx (.var 2) (.int 0)) (.str "ask")) ρ s) fun x s => (truth s x).map fun b => (b, s)) (fun ρ s => ex (Γ n) T.gl (.asg 2 (.idx (.var 0) (.ife (.cmp .isIn (.idx (.var 2) (.int 1)) (.var 1)) (.idx (.var 2) (.int 3)) (.idx (.var 2) (.int 2))))) ρ s) m [some (.tup (nds.map Nd.d)), some (ti w), some nd.d] [] = some (.nx, [some (.tup (nds.map Nd.d)), some (ti w), some (Nd.leaf (fl (aw w) t)).d], [])
  | .leaf k, m, i, nd, hm, hR, hi => by
    have hR : nds[i]? = some (.leaf k) := hR
    rw [hR] at hi
    cases hi
    obtain ⟨m, rfl⟩ : ∃ K, m = K + 1 := ⟨m - 1, by omega⟩
    exact whl_f (tst (ev_cmp (ev_idx (ev_v rfl) rfl (i0 _ _ _)) rfl (se_leaf_ask _)))
  | .ask v lo hi, m, i, nd, hm, ⟨a, b, hR, R1, R2⟩, hi' => by
    rw [hR] at hi'
    cases hi'
    have d1 : (Tr.ask v lo hi).dep = max lo.dep hi.dep + 1 := rfl
    rw [d1] at hm
    obtain ⟨m, rfl⟩ : ∃ K, m = K + 1 := ⟨m - 1, by omega⟩
    have here : ∀ (t : Tr) (j : Nat), Rep nds j t → ∃ y, nds[j]? = some y := fun t j h => by
      cases t with
      | leaf k => exact ⟨_, h⟩
      | ask v lo hi => obtain ⟨a, b, h, _⟩ := h; exact ⟨_, h⟩
    obtain ⟨ya, hya⟩ := here lo a R1
    obtain ⟨yb, hyb⟩ := here hi b R2
    have na := fun s => nth_nat (xs := nds.map Nd.d) (k := a) (d := ya.d) s (by rw [List.getElem?_map, hya]; rfl)
    have nb := fun s => nth_nat (xs := nds.map Nd.d) (k := b) (d := yb.d) s (by rw [List.getElem?_map, hyb]; rfl)
    have hc : ev (Γ n) T.gl (.cmp .isIn (.idx (.var 2) (.int 1)) (.var 1)) [some (.tup (nds.map Nd.d)), some (ti w), some (Nd.ask v a b).d] [] = some (.bl (decide (v ∈ w)), []) := ev_cmp (ev_idx (ev_v rfl) rfl (i1 _ _ _ _)) (ev_v rfl) (by rw [cmp_in, mem_tup])
    have hsel : ev (Γ n) T.gl (.ife (.cmp .isIn (.idx (.var 2) (.int 1)) (.var 1)) (.idx (.var 2) (.int 3)) (.idx (.var 2) (.int 2))) [some (.tup (nds.map Nd.d)), some (ti w), some (Nd.ask v a b).d] [] = some (.int (if decide (v ∈ w) then (b : Int) else (a : Int)), []) := by
      refine ev_ite hc rfl ?_
      cases decide (v ∈ w)
      · exact ev_idx (ev_v rfl) rfl (i2 _ _ _ _ _)
      · exact ev_idx (ev_v rfl) rfl (i3 _ _ _ _ _ _)
    have htst := tst (ev_cmp (Γ := Γ n) (gl := T.gl) (a := .idx (.var 2) (.int 0)) (b := .str "ask") (ρ := [some (.tup (nds.map Nd.d)), some (ti w), some (Nd.ask v a b).d]) (s := []) (ev_idx (ev_v rfl) rfl (i0 _ _ _)) rfl (se_ask_ask _))
    unfold fl
    show _ = some (R.nx, [some (.tup (nds.map Nd.d)), some (ti w), some (Nd.leaf (if decide (v ∈ w) = true then fl (aw w) hi else fl (aw w) lo)).d], [])
    cases hb : decide (v ∈ w) with
    | false =>
      rw [hb] at hsel
      exact whl_t htst (asg_nx (ev_idx (ev_v rfl) hsel (by rw [idx_tup]; exact na _)) rfl) (gl_loop w nds lo m a ya (by omega) R1 hya)
    | true =>
      rw [hb] at hsel
      exact whl_t htst (asg_nx (ev_idx (ev_v rfl) hsel (by rw [idx_tup]; exact nb _)) rfl) (gl_loop w nds hi m b yb (by omega) R2 hyb)
theorem c_graph_leaf (s : Md.St) (w : List Int) {nds : List Nd} {t : Tr} {i : Nat} (ht : t.dep < 100) (hR : Rep nds i t) (hlast : nds.getLast? = nds[i]?) : Γ (n + 1) ("graph_leaf", none) [.tup (nds.map Nd.d), ti w] s = some (.int (fl (aw w) t), s) := by
  obtain ⟨nd, hnd⟩ : ∃ y, nds[i]? = some y := by
    cases t with
    | leaf k => exact ⟨_, hR⟩
    | ask v lo hi => obtain ⟨a, b, h, _⟩ := hR; exact ⟨_, h⟩
  rw [hnd] at hlast
  have hl : (nds.map Nd.d).getLast? = some nd.d := by rw [List.getLast?_map, hlast]; rfl
  have h := gl_loop n w nds t wfuel i nd (by unfold wfuel; omega) hR hnd
  exact call_pure (d := .int (fl (aw w) t)) (s1 := []) p_graph_leaf (by simp only [nrs, nr, nrs_nds, nrs_ints, Bool.and_true, Bool.and_self]) rfl (by decide) (out_of (seq_nx (asg_nx (ev_idx (ev_v rfl) (ev_neg rfl) (by rw [idx_tup]; exact nth_last _ hl)) rfl) (seq_nx (by rw [whl_is]; exact h) (ret_is (ev_idx (ev_v rfl) rfl (i1 _ _ _ _)))))) rfl
/-! rows without a model -/
theorem c_trueL (s : Md.St) (cube c : List Int) : Γ (n + 1) ("_law_true", none) [ti cube, li c] s = some (.bl (sats cube c), s) := by
  have hc : ev (Γ n) T.gl (.comp false [2] (.v 2) (.var 1) (.cmp .isIn (.var 2) (.var 0)) (.var 2)) [some (ti cube), some (li c), none] [] = some (.lst ((c.filter fun l => decide (l ∈ cube)).map D.int), []) :=
    comp_p (x := li c) c D.int (fun l => decide (l ∈ cube)) D.int (fun a => [some (ti cube), some (li c), some (.int a)]) (ev_v rfl) rfl rfl (fun _ _ => rfl) (fun a _ => by
      rw [ev_cmp (p := decide (a ∈ cube)) (ev_v rfl) (ev_v rfl) (by rw [cmp_in, mem_tup])]; rfl) (fun _ _ _ => ev_v rfl)
  refine call_pure (d := .bl (sats cube c)) (s1 := []) p__law_true (by simp [nrs, nr]) rfl (by decide) (out_of (ret_is (ev_cmp (ev_b1 hc (b_len_l _ _ _)) rfl ?_))) rfl
  rw [cmp_gt, List.length_map, pos_filt]
  rfl
theorem cb_nodup : ∀ {k : Nat} {w : List Int}, w ∈ cb k → w.Nodup
  | 0, w, h => by rw [List.mem_singleton.mp h]; exact List.nodup_nil
  | k + 1, w, h => by
    have key : ∀ (u : List Int) (x : Int), u ∈ cb k → (x = (k : Int) + 1 ∨ x = -((k : Int) + 1)) → (u ++ [x]).Nodup := fun u x hu hx => by
      rw [List.nodup_append]
      refine ⟨cb_nodup hu, by simp, fun a ha b hb e => ?_⟩
      have := (cb_whole hu).lit a ha
      rw [List.mem_singleton.mp hb] at e
      omega
    unfold cb at h
    rcases List.mem_append.mp h with h | h
    · obtain ⟨u, hu, rfl⟩ := List.mem_map.mp h
      exact key u _ hu (.inl rfl)
    · obtain ⟨u, hu, rfl⟩ := List.mem_map.mp h
      exact key u _ hu (.inr rfl)
theorem cubes_nodup {k : Nat} {w : List Int} (h : w ∈ cubes k) : w.Nodup := by
  obtain ⟨u, hu, rfl⟩ := List.mem_map.mp h
  exact ((srt_perm u).nodup_iff).mpr (cb_nodup hu)
/-- literals false at a whole cube -/
theorem drawn_neg {k : Nat} {w : List Int} (hw : w ∈ cubes k) (f : Int → Bool) : Drawn k ((w.filter f).map fun l => -l) ∧ sats w ((w.filter f).map fun l => -l) = false := by
  have W := cubes_whole hw
  have key : ∀ x ∈ (w.filter f).map fun l => -l, -x ∈ w := fun x hx => by
    obtain ⟨l, hl, rfl⟩ := List.mem_map.mp hx
    rw [Int.neg_neg]
    exact (List.mem_filter.mp hl).1
  refine ⟨⟨fun x hx => ?_, fun x hx hn => ?_, ?_, ?_⟩, ?_⟩
  · have := W.lit _ (key x hx)
    omega
  · have h1 := key x hx
    have h2 := key _ hn
    rw [Int.neg_neg] at h2
    exact W.con h2 h1
  · exact List.pairwise_map.mpr (((cubes_nodup hw).filter f).imp fun {a b} e h => e (by omega))
  · rw [List.length_map]
    have := List.length_filter_le f w
    rw [W.len] at this
    exact this
  · unfold sats
    rw [List.any_eq_false]
    intro x hx
    rw [decide_eq_true_eq]
    intro h
    exact W.con h (key x hx)
abbrev PR (a : Nat) (rs : List (List Int)) : Md.St := PS a [.lst (rs.map li)]
def crBody : S := .ife (.cmp .eq (.bi .len false (.cons (.comp false [3] (.v 3) (.var 2) (.not (.call "_law_true" (.cons (.var 4) (.cons (.var 3) .nil)))) (.var 3)) .nil)) (.int 0)) (.seq (.asg 5 (.call "_law_some" (.cons (.var 0) (.cons (.var 1) (.cons (.bin .add false (.int 1) (.call "_law_draw" (.cons (.var 0) (.cons (.int 2) .nil)))) .nil))))) (.seq (.asg 6 (.comp false [7] (.v 7) (.var 4) (.cmp .isIn (.bin .sub false (.bi .abs false (.cons (.var 7) .nil)) (.int 1)) (.var 5)) (.neg (.var 7)))) (.seq (.ife (.cmp .eq (.bi .len false (.cons (.var 6) .nil)) (.int 0)) (.asg 6 (.lst false (.cons (.neg (.idx (.var 4) (.int 0))) .nil))) .skip) (.exp (.bm .append false (.var 2) (.cons (.var 6) .nil)))))) .skip
theorem app_pr (a : Nat) (m : Bool) (rs : List (List Int)) (r : List Int) (h : rs.length < 1000) : bmop .append m (.ref 1) [li r] (PR a rs) = some (.non, PR a (rs ++ [r])) := by
  show (if (rs.map li).length < cap then some (D.non, (PR a rs).set 1 (.lst (rs.map li ++ [li r]))) else none) = _
  rw [if_pos (by rw [List.length_map]; unfold cap; omega)]
  show some (D.non, [_, O.lst (rs.map li ++ [li r])]) = some (D.non, [_, O.lst ((rs ++ [r]).map li)])
  rw [List.map_append]
  rfl
theorem cr_step {rows : List Int} (H : PoolOk rows) (k : Nat) (hk : 1 ≤ k ∧ k ≤ 4) (w : List Int) (hw : w ∈ cubes k) (a : Nat) (ha : a < 900) (rs : List (List Int)) (hrs : rs.length < 100) (x3 x5 x6 x7 : Option D) : ∃ (a' : Nat) (ex : List (List Int)) (y5 y6 : Option D),
    Md.ex (Γ (n + 2)) T.gl crBody [some (PL rows), some (.int (k : Int)), some (.ref 1), x3, some (ti w), x5, x6, x7] (PR a rs) = some (.nx, [some (PL rows), some (.int (k : Int)), some (.ref 1), x3, some (ti w), y5, y6, x7], PR a' (rs ++ ex)) ∧ a' ≤ a + 5 ∧ (∀ r ∈ ex, Drawn k r) ∧ ex.length ≤ 1 ∧ ∃ r ∈ rs ++ ex, sats w r = false := by
  have hcomp : ev (Γ (n + 2)) T.gl (.comp false [3] (.v 3) (.var 2) (.not (.call "_law_true" (.cons (.var 4) (.cons (.var 3) .nil)))) (.var 3)) [some (PL rows), some (.int (k : Int)), some (.ref 1), x3, some (ti w), x5, x6, x7] (PR a rs) = some (.lst ((rs.filter fun r => !sats w r).map li), PR a rs) := by
    refine comp_p (x := .ref 1) rs li (fun r => !sats w r) li (fun r => [some (PL rows), some (.int (k : Int)), some (.ref 1), some (li r), some (ti w), x5, x6, x7]) (ev_v rfl) rfl (eqDs_self _) (fun _ _ => rfl) (fun r _ => ?_) (fun _ _ _ => ev_v rfl)
    rw [ev_not (ev_c2 (ev_v rfl) (ev_v rfl) (c_trueL (n + 1) _ w r)) rfl]
    rfl
  have hc := ev_cmp (Γ := Γ (n + 2)) (gl := T.gl) (o := .eq) (b := .int 0) (y := .int 0) (p := !(rs.any fun r => !sats w r)) (ev_b1 (m := false) hcomp (b_len_l _ _ _)) rfl (by rw [cmp_eqI, List.length_map, zero_filt])
  unfold crBody
  cases hb : (rs.any fun r => !sats w r) with
  | true =>
    rw [hb] at hc
    obtain ⟨r, h1, h2⟩ := List.any_eq_true.mp hb
    exact ⟨a, [], x5, x6, by rw [List.append_nil]; exact ife_f hc rfl rfl, by omega, by simp, by simp, r, by simpa using h1, by simpa using h2⟩
  | false =>
    rw [hb] at hc
    obtain ⟨v, hv, hd⟩ := c_draw (n + 1) H a 2 (by omega) (by omega) [.lst (rs.map li)]
    obtain ⟨zs, a1, hs, ha1, _, hz, _⟩ := c_some n H (a + 1) k (1 + v) (by omega) (by omega) (by omega) [.lst (rs.map li)]
    have hd : Γ (n + 2) ("_law_draw", none) [PL rows, .int 2] (PR a rs) = some (.int (v : Int), PR (a + 1) rs) := hd
    have hs : Γ (n + 2) ("_law_some", none) [PL rows, .int (k : Int), .int (1 + (v : Int))] (PR (a + 1) rs) = some (ti (zs.map fun (z : Nat) => (z : Int)), PR a1 rs) := by
      have : ((1 + v : Nat) : Int) = 1 + (v : Int) := by omega
      rw [this] at hs
      exact hs
    generalize hZ : (zs.map fun (z : Nat) => (z : Int)) = Z at hs
    obtain ⟨lits, hlits⟩ : ∃ lits, lits = (w.filter fun l => decide (absI l - 1 ∈ Z)).map fun l => -l := ⟨_, rfl⟩
    have hlc : ev (Γ (n + 2)) T.gl (.comp false [7] (.v 7) (.var 4) (.cmp .isIn (.bin .sub false (.bi .abs false (.cons (.var 7) .nil)) (.int 1)) (.var 5)) (.neg (.var 7))) [some (PL rows), some (.int (k : Int)), some (.ref 1), x3, some (ti w), some (ti Z), x6, x7] (PR a1 rs) = some (li lits, PR a1 rs) := by
      rw [hlits, li, List.map_map]
      refine comp_p (x := ti w) w D.int (fun l => decide (absI l - 1 ∈ Z)) (fun l => D.int (-l)) (fun l => [some (PL rows), some (.int (k : Int)), some (.ref 1), x3, some (ti w), some (ti Z), x6, some (.int l)]) (ev_v rfl) rfl rfl (fun _ _ => rfl) (fun l _ => ?_) (fun l _ _ => ev_neg (ev_v rfl))
      rw [ev_cmp (p := decide (absI l - 1 ∈ Z)) (ev_bin (ev_b1 (ev_v rfl) (b_abs _ _ _)) rfl (op_sub _ _ _ _)) (ev_v rfl) (by rw [cmp_in, mem_tup]; rfl)]
      rfl
    obtain ⟨lits2, hl2, hD, hS⟩ : ∃ lits2, Md.ex (Γ (n + 2)) T.gl (.ife (.cmp .eq (.bi .len false (.cons (.var 6) .nil)) (.int 0)) (.asg 6 (.lst false (.cons (.neg (.idx (.var 4) (.int 0))) .nil))) .skip) [some (PL rows), some (.int (k : Int)), some (.ref 1), x3, some (ti w), some (ti Z), some (li lits), x7] (PR a1 rs) = some (.nx, [some (PL rows), some (.int (k : Int)), some (.ref 1), x3, some (ti w), some (ti Z), some (li lits2), x7], PR a1 rs) ∧ Drawn k lits2 ∧ sats w lits2 = false := by
      have hc2 := ev_cmp (Γ := Γ (n + 2)) (gl := T.gl) (o := .eq) (a := .bi .len false (.cons (.var 6) .nil)) (b := .int 0) (y := .int 0) (p := decide ((lits.length : Int) = 0)) (ρ := [some (PL rows), some (.int (k : Int)), some (.ref 1), x3, some (ti w), some (ti Z), some (li lits), x7]) (s := PR a1 rs) (ev_b1 (ev_v rfl) (b_len_l _ _ _)) rfl (by rw [cmp_eqI, List.length_map])
      have hdn := drawn_neg hw (fun l => decide (absI l - 1 ∈ Z))
      rw [← hlits] at hdn
      by_cases h0 : (lits.length : Int) = 0
      · rw [decide_eq_true h0] at hc2
        cases hwe : w with
        | nil =>
          have := (cubes_whole hw).len
          rw [hwe] at this
          simp at this
          omega
        | cons l0 w' =>
          have hdn0 := drawn_neg hw (fun l => decide (l = l0))
          have e0 : (w.filter fun l => decide (l = l0)).map (fun l => -l) = [-l0] := by
            have hnd := cubes_nodup hw
            rw [hwe] at hnd ⊢
            obtain ⟨h1, _⟩ := List.nodup_cons.mp hnd
            rw [List.filter_cons, decide_eq_true rfl, if_pos rfl]
            have : w'.filter (fun l => decide (l = l0)) = [] := List.filter_eq_nil_iff.mpr fun x hx => by
              rw [decide_eq_true_eq]
              exact fun e => h1 (e ▸ hx)
            rw [this]; rfl
          rw [e0] at hdn0
          rw [hwe] at hc2 hdn0
          refine ⟨[-l0], ife_t hc2 rfl (asg_nx (ev_l1 (ev_neg (ev_idx (ev_v rfl) rfl (i0 _ _ _)))) rfl), hdn0⟩
      · rw [decide_eq_false h0] at hc2
        exact ⟨lits, ife_f hc2 rfl rfl, hdn⟩
    refine ⟨a1, [lits2], _, _, ife_t hc rfl (seq_nx (asg_nx (ev_c3 (ev_v rfl) (ev_v rfl) (ev_bin rfl (ev_c2 (ev_v rfl) rfl hd) rfl) hs) rfl) (seq_nx (asg_nx hlc rfl) (seq_nx hl2 (exp_nx (ev_bm1 (ev_v rfl) rfl (ev_v rfl) (app_pr a1 false rs lits2 (by omega))))))), by omega, fun r hr => by rw [List.mem_singleton.mp hr]; exact hD, by simp, lits2, by simp, hS⟩
theorem c_closed_rows {rows : List Int} (H : PoolOk rows) (a k : Nat) (hk : 1 ≤ k ∧ k ≤ 4) (ha : a < 500) : ∃ (rs : List (List Int)) (a' : Nat), Γ (n + 5) ("_law_closed_rows", none) [PL rows, .int (k : Int)] (PS a []) = some (.lst (rs.map li), PS a' []) ∧ a' ≤ a + 117 ∧ (∀ r ∈ rs, Drawn k r) ∧ rs.length ≤ 20 ∧ ∀ w ∈ cubes k, ∃ r ∈ rs, sats w r = false := by
  obtain ⟨r0, a0, hr0, ha0, D0, n0⟩ := c_rows n H a k hk.2 (by omega)
  have hl16 : (cubes k).length ≤ 16 := by
    rw [cubes_len]
    exact Nat.le_trans (Nat.pow_le_pow_right (by omega) hk.2) (by decide)
  obtain ⟨ys, s1, hc, r1, rfl, rfl, D1, n1⟩ := comp_st (Γ := Γ (n + 4)) (gl := T.gl) (m := true) (vs := [3]) (g := .v 3) (it := .call "_law_rows" (.cons (.var 0) (.cons (.var 1) .nil))) (c := .cmp .gt (.bi .len false (.cons (.var 3) .nil)) (.int 0)) (elt := .var 3)
    (ρ := [some (PL rows), some (.int (k : Int)), none, none, none, none, none, none]) (s := PS a []) (s0 := PS a0 []) (x := .lst (r0.map li)) r0 li (fun l ys s => ∃ rs : List (List Int), ys = rs.map li ∧ s = PS a0 [] ∧ (∀ r ∈ rs ++ l, Drawn k r) ∧ rs.length + l.length ≤ 4)
    (ev_c2 (ev_v rfl) (ev_v rfl) hr0) rfl (fun _ => rfl) ⟨[], rfl, rfl, D0, by simpa using n0⟩ (by
      rintro r l ys s ⟨rs, rfl, rfl, hD, hl⟩
      rw [List.length_cons] at hl
      refine ⟨[some (PL rows), some (.int (k : Int)), none, some (li r), none, none, none, none], decide ((0 : Int) < (r.length : Int)), .bl (decide ((0 : Int) < (r.length : Int))), PS a0 [], rfl, ev_cmp (ev_b1 (ev_v rfl) (b_len_l _ _ _)) rfl (by rw [cmp_gt, List.length_map]), rfl, fun _ => ⟨li r, _, ev_v rfl, rs ++ [r], by simp, rfl, by rw [List.append_assoc]; exact hD, by rw [List.length_append]; simp; omega⟩, fun _ => ⟨rs, rfl, rfl, fun x hx => hD x ?_, by omega⟩⟩
      rcases List.mem_append.mp hx with h | h
      · exact List.mem_append_left _ h
      · exact List.mem_append_right _ (List.mem_cons_of_mem _ h))
  rw [List.append_nil] at D1
  rw [List.length_nil] at n1
  have hcu := c_cubes (n + 3) (PR a0 r1) k hk
  obtain ⟨ρ, s1, hf, rs, a1, x3, x4, x5, x6, rfl, rfl, h1, h2, h3, h4, _⟩ := for_st (Γ := Γ (n + 4)) (gl := T.gl) (g := .v 4) (it := .call "_law_cubes" (.cons (.var 1) .nil)) (b := crBody)
    (ρ := [some (PL rows), some (.int (k : Int)), some (.ref 1), none, none, none, none, none]) (s := PR a0 r1) (s0 := PR a0 r1) (x := .lst ((cubes k).map ti)) (cubes k) ti
    (fun l ρ s => ∃ (rs : List (List Int)) (a1 : Nat) (x3 x4 x5 x6 : Option D), ρ = [some (PL rows), some (.int (k : Int)), some (.ref 1), x3, x4, x5, x6, none] ∧ s = PR a1 rs ∧ a1 + 5 * l.length ≤ a + 117 ∧ (∀ r ∈ rs, Drawn k r) ∧ rs.length + l.length ≤ 20 ∧ (∀ w ∈ cubes k, w ∈ l ∨ ∃ r ∈ rs, sats w r = false) ∧ ∀ w ∈ l, w ∈ cubes k)
    (ev_c1 (ev_v rfl) hcu) rfl (fun _ => rfl) ⟨r1, a0, none, none, none, none, rfl, rfl, by omega, D1, by omega, fun w hw => .inl hw, fun w hw => hw⟩ (by
      rintro w l ρ s ⟨rs, a1, x3, x4, x5, x6, rfl, rfl, h1, h2, h3, h4, h7⟩
      rw [List.length_cons] at h1 h3
      have hw := h7 w List.mem_cons_self
      · obtain ⟨a2, ex, y5, y6, he, g1, g2, g3, g4⟩ := cr_step (n + 2) H k hk w hw a1 (by omega) rs (by omega) x3 x5 x6 none
        refine ⟨_, _, _, rfl, he, rs ++ ex, a2, _, _, _, _, rfl, rfl, by omega, fun r hr => (List.mem_append.mp hr).elim (h2 r) (g2 r), by rw [List.length_append]; omega, fun u hu => ?_, fun u hu => h7 u (List.mem_cons_of_mem _ hu)⟩
        rcases h4 u hu with h | ⟨r, h5, h6⟩
        · rcases List.mem_cons.mp h with rfl | h
          · exact .inr g4
          · exact .inl h
        · exact .inr ⟨r, List.mem_append_left _ h5, h6⟩)
  refine ⟨rs, a1, ?_, by simpa using h1, h2, by simpa using h3, fun w hw => (h4 w hw).resolve_left (by simp)⟩
  unfold crBody at hf
  have hz : fzA 1 (PR a1 rs) (.ref 1) = some (.lst (rs.map li)) := by
    have : ∀ rs : List (List Int), nrAs 1 (rs.map li) = true := by
      intro rs
      induction rs with
      | nil => rfl
      | cons r rs ih => rw [List.map_cons, nrAs, ih]; simp [nrA]
    show (if nrAs 1 (rs.map li) = true then some (D.lst (rs.map li)) else none) = _
    rw [if_pos (this rs)]
  exact call_tidy (s := PS a []) (s1 := PR a1 rs) (d := .ref 1) (d' := .lst (rs.map li)) (args := [PL rows, .int (k : Int)]) (n := n + 4) p__law_closed_rows rfl (by decide) (out_of (seq_nx (asg_nx hc rfl) (seq_nx hf (ret_is (ev_v rfl))))) rfl hz
end L34
end
section
set_option maxRecDepth 100000
set_option maxHeartbeats 1000000
namespace L34
open PySem PySem.Spec PyProof.Rows Md
/-- the clauses' polynomials, as a list -/
abbrev LP (cs : List (List Int)) : D := .lst (cs.map fun c => tts (cp c))
abbrev lS_1 : S := (.asg 1 (.call "_law_pool" (.cons (.var 0) .nil)))
abbrev lS_2 : S := (.asg 2 (.bin .add false (.int 1) (.call "_law_draw" (.cons (.var 1) (.cons (.int 4) .nil)))))
abbrev lS_3 : S := (.asg 3 (.call "made_formula" (.cons (.var 2) (.cons (.call "_law_closed_rows" (.cons (.var 1) (.cons (.var 2) .nil))) .nil))))
abbrev lS_4 : S := (.asg 4 (.call "tree_of_steps" (.cons (.var 3) (.cons (.idx (.call "solve" (.cons (.var 3) .nil)) (.int 1)) .nil))))
abbrev lS_5 : S := (.asg 5 (.call "factors_of_tree" (.cons (.var 3) (.cons (.var 4) .nil))))
abbrev lS_6 : S := (.asg 6 (.call "graph_of_tree" (.cons (.var 4) .nil)))
abbrev lS_7 : S := (.asg 7 (.call "sums_of_tree" (.cons (.var 4) .nil)))
abbrev lS_8 : S := (.asg 8 (.comp false [9] (.v 9) (.idx (.var 3) (.int 1)) .yes (.call "clause_polynomial" (.cons (.var 9) .nil))))
abbrev lS_9 : S := (.ife (.or (.cmp .ne (.bi .len false (.cons (.var 5) .nil)) (.bi .len false (.cons (.var 8) .nil))) (.one (.cmp .gt (.bi .len false (.cons (.comp false [10] (.v 10) (.var 5) (.cmp .isNot (.call "is_polynomial" (.cons (.var 2) (.cons (.var 10) .nil))) (.bl true)) (.var 10)) .nil)) (.int 0)))) (.ret (.bl false)) .skip)
abbrev lS_10 : S := (.asg 11 (.call "_law_leaves" (.cons (.var 4) (.cons (.tup .nil) .nil))))
abbrev lS_11 : S := (.asg 12 (.tup .nil))
abbrev lS_12b : S := (.asg 12 (.call "plus" (.cons (.var 12) (.cons (.call "times" (.cons (.idx (.var 5) (.var 13)) (.cons (.idx (.var 8) (.var 13)) .nil))) .nil))))
abbrev lS_12 : S := (.forS (.v 13) (.rng (.cons (.bi .len false (.cons (.var 8) .nil)) .nil)) lS_12b)
abbrev lS_13 : S := (.ife (.or (.cmp .ne (.var 12) (.tup (.cons (.tup .nil) .nil))) (.or (.cmp .isNot (.call "is_static" (.cons (.var 3) (.cons (.var 5) .nil))) (.bl true)) (.one (.cmp .gt (.call "static_degree" (.cons (.var 3) (.cons (.var 5) .nil))) (.call "tree_depth" (.cons (.var 4) .nil)))))) (.ret (.bl false)) .skip)
abbrev lS_14b_1 : S := (.asg 15 (.call "find_leaf" (.cons (.var 4) (.cons (.var 14) .nil))))
abbrev lS_14b_2 : S := (.ife (.or (.cmp .ne (.call "graph_leaf" (.cons (.var 6) (.cons (.var 14) .nil))) (.var 15)) (.or (.cmp .ne (.call "find_sum_leaf" (.cons (.var 7) (.cons (.var 14) .nil))) (.var 15)) (.one (.cmp .isNot (.call "falsifies" (.cons (.var 14) (.cons (.idx (.idx (.var 3) (.int 1)) (.var 15)) .nil))) (.bl true))))) (.ret (.bl false)) .skip)
abbrev lS_14b_3b_1 : S := (.asg 16 (.int 0))
abbrev lS_14b_3b_2b_1 : S := (.asg 19 (.comp false [20] (.v 20) (.var 18) (.cmp .notIn (.neg (.var 20)) (.idx (.idx (.var 3) (.int 1)) (.var 13))) (.var 20)))
abbrev lS_14b_3b_2b_2 : S := (.asg 16 (.bin .add false (.var 16) (.bi .int false (.cons (.and (.cmp .eq (.var 17) (.var 13)) (.one (.cmp .eq (.bi .len false (.cons (.comp false [20] (.v 20) (.var 19) (.cmp .notIn (.var 20) (.var 14)) (.var 20)) .nil)) (.int 0)))) .nil))))
abbrev lS_14b_3b_2b : S := (.seq lS_14b_3b_2b_1 lS_14b_3b_2b_2)
abbrev lS_14b_3b_2 : S := (.forS (.t (.cons (.v 17) (.cons (.v 18) .nil))) (.var 11) lS_14b_3b_2b)
abbrev lS_14b_3b_3 : S := (.ife (.not (.call "_law_equal" (.cons (.call "value_at" (.cons (.idx (.var 5) (.var 13)) (.cons (.var 14) .nil))) (.cons (.bin .mod false (.bi .int false (.cons (.var 16) .nil)) (.int 2)) .nil)))) (.ret (.bl false)) .skip)
abbrev lS_14b_3b : S := (.seq lS_14b_3b_1 (.seq lS_14b_3b_2 lS_14b_3b_3))
abbrev lS_14b_3 : S := (.forS (.v 13) (.rng (.cons (.bi .len false (.cons (.var 8) .nil)) .nil)) lS_14b_3b)
abbrev lS_14b_4 : S := (.asg 21 (.comp false [13] (.v 13) (.rng (.cons (.bi .len false (.cons (.var 8) .nil)) .nil)) .yes (.bin .mul false (.call "value_at" (.cons (.idx (.var 5) (.var 13)) (.cons (.var 14) .nil))) (.call "value_at" (.cons (.idx (.var 8) (.var 13)) (.cons (.var 14) .nil))))))
abbrev lS_14b_5 : S := (.ife (.not (.call "_law_equal" (.cons (.var 21) (.cons (.comp false [13] (.v 13) (.rng (.cons (.bi .len false (.cons (.var 8) .nil)) .nil)) .yes (.bi .int false (.cons (.cmp .eq (.var 13) (.var 15)) .nil))) .nil)))) (.ret (.bl false)) .skip)
abbrev lS_14b_6 : S := (.ife (.not (.call "_law_equal" (.cons (.comp false [10] (.v 10) (.var 8) .yes (.call "value_at" (.cons (.var 10) (.cons (.var 14) .nil)))) (.cons (.comp false [9] (.v 9) (.idx (.var 3) (.int 1)) .yes (.bi .int false (.cons (.not (.call "_law_true" (.cons (.var 14) (.cons (.var 9) .nil)))) .nil))) .nil)))) (.ret (.bl false)) .skip)
abbrev lS_14b_7 : S := (.asg 22 (.idx (.var 8) (.call "_law_draw" (.cons (.var 1) (.cons (.bi .len false (.cons (.var 8) .nil)) .nil)))))
abbrev lS_14b_8 : S := (.asg 23 (.idx (.var 5) (.call "_law_draw" (.cons (.var 1) (.cons (.bi .len false (.cons (.var 5) .nil)) .nil)))))
abbrev lS_14b_9 : S := (.ife (.or (.cmp .ne (.call "value_at" (.cons (.call "plus" (.cons (.var 22) (.cons (.var 23) .nil))) (.cons (.var 14) .nil))) (.bi .int false (.cons (.cmp .ne (.call "value_at" (.cons (.var 22) (.cons (.var 14) .nil))) (.call "value_at" (.cons (.var 23) (.cons (.var 14) .nil)))) .nil))) (.one (.cmp .ne (.call "value_at" (.cons (.call "times" (.cons (.var 22) (.cons (.var 23) .nil))) (.cons (.var 14) .nil))) (.bin .mul false (.call "value_at" (.cons (.var 22) (.cons (.var 14) .nil))) (.call "value_at" (.cons (.var 23) (.cons (.var 14) .nil))))))) (.ret (.bl false)) .skip)
abbrev lS_14b_10 : S := (.ife (.or (.cmp .ne (.call "plus" (.cons (.var 22) (.cons (.var 22) .nil))) (.tup .nil)) (.or (.cmp .ne (.call "times" (.cons (.var 22) (.cons (.var 22) .nil))) (.var 22)) (.or (.cmp .ne (.call "plus" (.cons (.var 22) (.cons (.tup .nil) .nil))) (.var 22)) (.one (.cmp .gt (.call "degree" (.cons (.call "times" (.cons (.var 22) (.cons (.var 23) .nil))) .nil)) (.bin .add false (.call "degree" (.cons (.var 22) .nil)) (.bi .max2 false (.cons (.int 0) (.cons (.call "degree" (.cons (.var 23) .nil)) .nil))))))))) (.ret (.bl false)) .skip)
abbrev lS_14b : S := (.seq lS_14b_1 (.seq lS_14b_2 (.seq lS_14b_3 (.seq lS_14b_4 (.seq lS_14b_5 (.seq lS_14b_6 (.seq lS_14b_7 (.seq lS_14b_8 (.seq lS_14b_9 lS_14b_10)))))))))
abbrev lS_14 : S := (.forS (.v 14) (.call "_law_cubes" (.cons (.var 2) .nil)) lS_14b)
abbrev lS_15 : S := (.asg 24 (.bi .list true (.cons (.var 5) .nil)))
abbrev lS_16 : S := (.asg 25 (.call "_law_draw" (.cons (.var 1) (.cons (.bi .len false (.cons (.var 24) .nil)) .nil))))
abbrev lS_17 : S := (.setI (.var 24) (.var 25) (.call "plus" (.cons (.idx (.var 24) (.var 25)) (.cons (.tup (.cons (.tup .nil) .nil)) .nil))))
abbrev lS_18 : S := (.ret (.cmp .is (.call "is_static" (.cons (.var 3) (.cons (.bi .tuple false (.cons (.var 24) .nil)) .nil))) (.bl false)))
abbrev lS : S := (.seq lS_1 (.seq lS_2 (.seq lS_3 (.seq lS_4 (.seq lS_5 (.seq lS_6 (.seq lS_7 (.seq lS_8 (.seq lS_9 (.seq lS_10 (.seq lS_11 (.seq lS_12 (.seq lS_13 (.seq lS_14 (.seq lS_15 (.seq lS_16 (.seq lS_17 lS_18)))))))))))))))))
theorem law_body : m_law = ⟨1, 26, .raw, lS⟩ := rfl
section
variable {x0 x1 x2 x3 x4 x5 x6 x7 x8 x9 x10 x11 x12 x13 x14 x15 x16 x17 x18 x19 x20 x21 x22 x23 x24 x25 : Option D} {rows : List Int} {k : Nat} {cs : List (List Int)} {t : Tr} {nds : List Nd} {s : Md.St}
theorem isNot_true {s : Md.St} {a : Bool} : cmpD .isNot s (.bl a) (.bl true) = some (!a) := by cases a <;> rfl
theorem is_false {s : Md.St} {a : Bool} : cmpD .is s (.bl a) (.bl false) = some (!a) := by cases a <;> rfl
theorem eqOk_tts (p : Po) : eqOk 60 (tts p) = true := by rw [eqOk, eqOks_tis]
theorem b_intB (m : Bool) (s : Md.St) (b : Bool) : biop .int m [.bl b] s = some (.int (if b then 1 else 0), s) := rfl
/-- what the law knows -/
structure Lw (k : Nat) (cs : List (List Int)) (t : Tr) (nds : List Nd) (i : Nat) : Prop where
  k1 : 1 ≤ k
  k4 : k ≤ 4
  lits : ∀ c ∈ cs, Lits k c
  con : ∀ c ∈ cs, ∀ l ∈ c, -l ∉ c
  len : cs.length ≤ 30
  ok : TrOk k cs 5 t []
  dep : t.dep ≤ 4
  rep : Rep nds i t
  last : nds.getLast? = nds[i]?
theorem L1 (ns : List Int) (hp : Γ 99 ("_law_pool", none) [.scr ns] [] = some (PL rows, PS 0 [])) : ex (Γ 99) T.gl lS_1 [some (.scr ns), x1, x2, x3, x4, x5, x6, x7, x8, x9, x10, x11, x12, x13, x14, x15, x16, x17, x18, x19, x20, x21, x22, x23, x24, x25] [] = some (.nx, [some (.scr ns), some (PL rows), x2, x3, x4, x5, x6, x7, x8, x9, x10, x11, x12, x13, x14, x15, x16, x17, x18, x19, x20, x21, x22, x23, x24, x25], PS 0 []) :=
  asg_nx (ev_c1 (ev_v rfl) hp) rfl
theorem L2 (v a : Nat) (hk : (1 : Int) + (v : Int) = (k : Int)) (hd : Γ 99 ("_law_draw", none) [PL rows, .int 4] (PS a []) = some (.int (v : Int), PS (a + 1) [])) : ex (Γ 99) T.gl lS_2 [x0, some (PL rows), x2, x3, x4, x5, x6, x7, x8, x9, x10, x11, x12, x13, x14, x15, x16, x17, x18, x19, x20, x21, x22, x23, x24, x25] (PS a []) = some (.nx, [x0, some (PL rows), some (.int (k : Int)), x3, x4, x5, x6, x7, x8, x9, x10, x11, x12, x13, x14, x15, x16, x17, x18, x19, x20, x21, x22, x23, x24, x25], PS (a + 1) []) := by
  rw [← hk]
  exact asg_nx (ev_bin rfl (ev_c2 (ev_v rfl) rfl hd) rfl) rfl
theorem L3 (r1 : List (List Int)) (s1 : Md.St) (h1 : Γ 99 ("_law_closed_rows", none) [PL rows, .int (k : Int)] s = some (.lst (r1.map li), s1)) (hm : Γ 99 ("made_formula", none) [.int (k : Int), .lst (r1.map li)] s1 = some (fm k cs, s1)) : ex (Γ 99) T.gl lS_3 [x0, some (PL rows), some (.int (k : Int)), x3, x4, x5, x6, x7, x8, x9, x10, x11, x12, x13, x14, x15, x16, x17, x18, x19, x20, x21, x22, x23, x24, x25] s = some (.nx, [x0, some (PL rows), some (.int (k : Int)), some (fm k cs), x4, x5, x6, x7, x8, x9, x10, x11, x12, x13, x14, x15, x16, x17, x18, x19, x20, x21, x22, x23, x24, x25], s1) :=
  asg_nx (ev_c2 (ev_v rfl) (ev_c2 (ev_v rfl) (ev_v rfl) h1) hm) rfl
theorem L4 (fo : List D) (hs : Γ 99 ("solve", none) [fm k cs] s = some (.tup [.str "refutation", .tup fo], s)) (ht : Γ 99 ("tree_of_steps", none) [fm k cs, .tup fo] s = some (t.d, s)) : ex (Γ 99) T.gl lS_4 [x0, x1, x2, some (fm k cs), x4, x5, x6, x7, x8, x9, x10, x11, x12, x13, x14, x15, x16, x17, x18, x19, x20, x21, x22, x23, x24, x25] s = some (.nx, [x0, x1, x2, some (fm k cs), some t.d, x5, x6, x7, x8, x9, x10, x11, x12, x13, x14, x15, x16, x17, x18, x19, x20, x21, x22, x23, x24, x25], s) :=
  asg_nx (ev_c2 (ev_v rfl) (ev_idx (ev_c1 (ev_v rfl) hs) rfl (i1 _ _ _ _)) ht) rfl
theorem L5 {i : Nat} (W : Lw k cs t nds i) : ex (Γ 99) T.gl lS_5 [x0, x1, x2, some (fm k cs), some t.d, x5, x6, x7, x8, x9, x10, x11, x12, x13, x14, x15, x16, x17, x18, x19, x20, x21, x22, x23, x24, x25] s = some (.nx, [x0, x1, x2, some (fm k cs), some t.d, some (TF (fcs cs t)), x6, x7, x8, x9, x10, x11, x12, x13, x14, x15, x16, x17, x18, x19, x20, x21, x22, x23, x24, x25], s) :=
  asg_nx (ev_c2 (ev_v rfl) (ev_v rfl) (c_factors 91 s W.k4 W.len (by have := W.dep; omega) W.ok)) rfl
theorem L6 (hg : Γ 99 ("graph_of_tree", none) [t.d] s = some (.tup (nds.map Nd.d), s)) : ex (Γ 99) T.gl lS_6 [x0, x1, x2, x3, some t.d, x5, x6, x7, x8, x9, x10, x11, x12, x13, x14, x15, x16, x17, x18, x19, x20, x21, x22, x23, x24, x25] s = some (.nx, [x0, x1, x2, x3, some t.d, x5, some (.tup (nds.map Nd.d)), x7, x8, x9, x10, x11, x12, x13, x14, x15, x16, x17, x18, x19, x20, x21, x22, x23, x24, x25], s) :=
  asg_nx (ev_c1 (ev_v rfl) hg) rfl
theorem L7 (hd : t.dep ≤ 98) : ex (Γ 99) T.gl lS_7 [x0, x1, x2, x3, some t.d, x5, x6, x7, x8, x9, x10, x11, x12, x13, x14, x15, x16, x17, x18, x19, x20, x21, x22, x23, x24, x25] s = some (.nx, [x0, x1, x2, x3, some t.d, x5, x6, some t.sd, x8, x9, x10, x11, x12, x13, x14, x15, x16, x17, x18, x19, x20, x21, x22, x23, x24, x25], s) :=
  asg_nx (ev_c1 (ev_v rfl) (c_sums_of_tree t 98 s hd)) rfl
theorem L8 {i : Nat} (W : Lw k cs t nds i) : ex (Γ 99) T.gl lS_8 [x0, x1, x2, some (fm k cs), x4, x5, x6, x7, x8, x9, x10, x11, x12, x13, x14, x15, x16, x17, x18, x19, x20, x21, x22, x23, x24, x25] s = some (.nx, [x0, x1, x2, some (fm k cs), x4, x5, x6, x7, some (LP cs), x9, x10, x11, x12, x13, x14, x15, x16, x17, x18, x19, x20, x21, x22, x23, x24, x25], s) := by
  refine asg_nx (x := LP cs) (s1 := s) ?_ rfl
  exact comp_y (x := tts cs) cs ti (fun c => tts (cp c)) (fun c => [x0, x1, x2, some (fm k cs), x4, x5, x6, x7, x8, some (ti c), x10, x11, x12, x13, x14, x15, x16, x17, x18, x19, x20, x21, x22, x23, x24, x25]) (ev_idx (ev_v rfl) rfl (i1 _ _ _ _)) rfl rfl (fun _ _ => rfl) (fun c hc => ev_c1 (ev_v rfl) (c_clause_polynomial 95 s W.k4 (W.lits c hc)))
theorem L9 {i : Nat} (W : Lw k cs t nds i) : ex (Γ 99) T.gl lS_9 [x0, x1, some (.int (k : Int)), x3, x4, some (TF (fcs cs t)), x6, x7, some (LP cs), x9, x10, x11, x12, x13, x14, x15, x16, x17, x18, x19, x20, x21, x22, x23, x24, x25] s = some (.nx, [x0, x1, some (.int (k : Int)), x3, x4, some (TF (fcs cs t)), x6, x7, some (LP cs), x9, x10, x11, x12, x13, x14, x15, x16, x17, x18, x19, x20, x21, x22, x23, x24, x25], s) := by
  have h1 : ev (Γ 99) T.gl (.cmp .ne (.bi .len false (.cons (.var 5) .nil)) (.bi .len false (.cons (.var 8) .nil))) [x0, x1, some (.int (k : Int)), x3, x4, some (TF (fcs cs t)), x6, x7, some (LP cs), x9, x10, x11, x12, x13, x14, x15, x16, x17, x18, x19, x20, x21, x22, x23, x24, x25] s = some (.bl false, s) :=
    ev_cmp (ev_b1 (ev_v rfl) (b_len_t _ _ _)) (ev_b1 (ev_v rfl) (b_len_l _ _ _)) (by rw [cmp_neI, List.length_map, List.length_map, fcs_len, decide_eq_true rfl]; rfl)
  have h2 : ev (Γ 99) T.gl (.comp false [10] (.v 10) (.var 5) (.cmp .isNot (.call "is_polynomial" (.cons (.var 2) (.cons (.var 10) .nil))) (.bl true)) (.var 10)) [x0, x1, some (.int (k : Int)), x3, x4, some (TF (fcs cs t)), x6, x7, some (LP cs), x9, x10, x11, x12, x13, x14, x15, x16, x17, x18, x19, x20, x21, x22, x23, x24, x25] s = some (.lst (((fcs cs t).filter fun _ => false).map tts), s) := by
    refine comp_p (x := TF (fcs cs t)) (fcs cs t) tts (fun _ => false) tts (fun p => [x0, x1, some (.int (k : Int)), x3, x4, some (TF (fcs cs t)), x6, x7, some (LP cs), x9, some (tts p), x11, x12, x13, x14, x15, x16, x17, x18, x19, x20, x21, x22, x23, x24, x25]) (ev_v rfl) rfl rfl (fun _ _ => rfl) (fun p hp => ?_) (fun _ _ h => by cases h)
    rw [ev_cmp (ev_c2 (ev_v rfl) (ev_v rfl) (c_is_polynomial 96 s W.k4 (fcs_can W.ok p hp))) rfl isNot_true]
    rfl
  have h3 := ev_cmp (o := .gt) (b := .int 0) (y := .int 0) (p := (fcs cs t).any fun _ => false) (ev_b1 (m := false) h2 (b_len_l _ _ _)) rfl (by rw [cmp_gt, List.length_map, pos_filt])
  have h4 : ((fcs cs t).any fun _ => false) = false := List.any_eq_false.mpr fun _ _ => by simp
  rw [h4] at h3
  exact ife_f (ev_or h1 (ev_one h3)) rfl rfl
theorem L10 {i : Nat} (W : Lw k cs t nds i) : ex (Γ 99) T.gl lS_10 [x0, x1, x2, x3, some t.d, x5, x6, x7, x8, x9, x10, x11, x12, x13, x14, x15, x16, x17, x18, x19, x20, x21, x22, x23, x24, x25] s = some (.nx, [x0, x1, x2, x3, some t.d, x5, x6, x7, x8, x9, x10, some (.lst ((lvU t []).map pe)), x12, x13, x14, x15, x16, x17, x18, x19, x20, x21, x22, x23, x24, x25], s) :=
  asg_nx (ev_c2 (ev_v rfl) rfl (c_law_leaves t [] 97 s (by have := W.dep; omega) (by have := W.dep; omega) (by have := W.dep; simp; omega))) rfl
theorem L11 : ex (Γ 99) T.gl lS_11 [x0, x1, x2, x3, x4, x5, x6, x7, x8, x9, x10, x11, x12, x13, x14, x15, x16, x17, x18, x19, x20, x21, x22, x23, x24, x25] s = some (.nx, [x0, x1, x2, x3, x4, x5, x6, x7, x8, x9, x10, x11, some (tts []), x13, x14, x15, x16, x17, x18, x19, x20, x21, x22, x23, x24, x25], s) := asg_nx (x := tts []) (s1 := s) rfl rfl
theorem len_LP {N : Nat} {ρ : Md.Env} (h : ρ[8]? = some (some (LP cs))) : ev (Γ N) T.gl (.bi .len false (.cons (.var 8) .nil)) ρ s = some (.int (cs.length : Int), s) := ev_b1 (ev_v h) (by rw [b_len_l, List.length_map])
theorem rng_LP {N : Nat} {ρ : Md.Env} (h : ρ[8]? = some (some (LP cs))) (hl : cs.length ≤ 30) : ev (Γ N) T.gl (.rng (.cons (.bi .len false (.cons (.var 8) .nil)) .nil)) ρ s = some (.lst ((List.range cs.length).map fun (i : Nat) => D.int (i : Int)), s) :=
  ev_rng (vs := [.int (cs.length : Int)]) (by simp only [e_cons, e_nil, len_LP h, bnd_some]) (rng_n cs.length (by omega))
theorem at_LP {j : Nat} {c : List Int} (h : cs[j]? = some c) (s : Md.St) : idxD (LP cs) (.int (j : Int)) s = some (tts (cp c), s) := by
  rw [idx_lst]
  exact nth_nat s (by rw [List.getElem?_map, h]; rfl)
theorem at_TF {F : List Po} {j : Nat} (h : j < F.length) (s : Md.St) : idxD (TF F) (.int (j : Int)) s = some (tts (F.getD j []), s) := by
  rw [idx_tup]
  refine nth_nat s ?_
  rw [List.getElem?_map, List.getElem?_eq_getElem h, List.getD_eq_getElem?_getD, List.getElem?_eq_getElem h]
  rfl
theorem L12 {i : Nat} (W : Lw k cs t nds i) : ∃ y13, ex (Γ 99) T.gl lS_12 [x0, x1, x2, x3, x4, some (TF (fcs cs t)), x6, x7, some (LP cs), x9, x10, x11, some (tts []), x13, x14, x15, x16, x17, x18, x19, x20, x21, x22, x23, x24, x25] s = some (.nx, [x0, x1, x2, x3, x4, some (TF (fcs cs t)), x6, x7, some (LP cs), x9, x10, x11, some (tts [[]]), y13, x14, x15, x16, x17, x18, x19, x20, x21, x22, x23, x24, x25], s) := by
  have hz := zip_mem W.lits (fcs_can W.ok)
  have hone : tot2 (cs.zip (fcs cs t)) [] = [[]] := by rw [tot2_eq _ _ hz, tot_one W.lits W.ok]
  have hFl := fcs_len cs t
  obtain ⟨ρ, s1, hf, j, f, y13, e0, rfl, rfl, h1, h2, _⟩ := for_st (Γ := Γ 99) (gl := T.gl) (g := .v 13) (it := .rng (.cons (.bi .len false (.cons (.var 8) .nil)) .nil)) (b := lS_12b)
    (ρ := [x0, x1, x2, x3, x4, some (TF (fcs cs t)), x6, x7, some (LP cs), x9, x10, x11, some (tts []), x13, x14, x15, x16, x17, x18, x19, x20, x21, x22, x23, x24, x25]) (s := s) (s0 := s) (x := .lst ((List.range cs.length).map fun (i : Nat) => D.int (i : Int))) (List.range cs.length) (fun (i : Nat) => D.int (i : Int))
    (fun l ρ s' => ∃ (j : Nat) (f : Po) (y13 : Option D), l = List.range' j (cs.length - j) ∧ ρ = [x0, x1, x2, x3, x4, some (TF (fcs cs t)), x6, x7, some (LP cs), x9, x10, x11, some (tts f), y13, x14, x15, x16, x17, x18, x19, x20, x21, x22, x23, x24, x25] ∧ s' = s ∧ j ≤ cs.length ∧ tot2 ((cs.zip (fcs cs t)).drop j) f = [[]] ∧ Can k f)
    (rng_LP rfl W.len) rfl (fun _ => rfl) ⟨0, [], x13, by rw [List.range_eq_range']; rfl, rfl, rfl, by omega, hone, can_nil k⟩ (by
      rintro a l ρ s' ⟨j, f, y13, hl, rfl, rfl, h1, h2, h3⟩
      have hj : j < cs.length := by
        rcases Nat.lt_or_ge j cs.length with h | h
        · exact h
        · rw [show cs.length - j = 0 by omega] at hl
          cases hl
      rw [show cs.length - j = (cs.length - (j + 1)) + 1 by omega, List.range'_succ] at hl
      obtain ⟨rfl, rfl⟩ : a = j ∧ l = List.range' (j + 1) (cs.length - (j + 1)) := by
        rw [List.cons.injEq] at hl; exact hl
      have hzl : a < (cs.zip (fcs cs t)).length := by rw [List.length_zip]; omega
      rw [List.drop_eq_getElem_cons hzl, List.getElem_zip] at h2
      have hca := List.getElem?_eq_getElem hj
      have hc := W.lits _ (List.getElem_mem hj)
      have hFa : a < (fcs cs t).length := by omega
      have hq := fcs_can W.ok _ (List.getElem_mem hFa)
      have eF : (fcs cs t).getD a [] = (fcs cs t)[a] := by rw [List.getD_eq_getElem?_getD, List.getElem?_eq_getElem hFa]; rfl
      have ht := can_tp hq (can_cp hc)
      have hat := at_TF hFa s'
      rw [eF] at hat
      have e2 := c_times 96 s' W.k4 hq (can_cp hc)
      have e3 := c_plus 98 s' f (tp (fcs cs t)[a] (cp cs[a])) (by have := can_len W.k4 h3; have := can_len W.k4 ht; omega)
      refine ⟨_, _, s', rfl, asg_nx (ev_c2 (ev_v rfl) (ev_c2 (ev_idx (ev_v rfl) (ev_v rfl) hat) (ev_idx (ev_v rfl) (ev_v rfl) (at_LP hca s')) e2) e3) rfl, a + 1, _, _, rfl, rfl, rfl, hj, h2, can_pl h3 ht⟩)
  have hj : j = cs.length := by
    rcases Nat.lt_or_ge j cs.length with h | h
    · rw [show cs.length - j = (cs.length - (j + 1)) + 1 by omega, List.range'_succ] at e0
      cases e0
    · omega
  rw [hj, List.drop_eq_nil_of_le (by rw [List.length_zip]; omega)] at h2
  have h2 : f = [[]] := h2
  subst h2
  exact ⟨y13, hf⟩
theorem L13 {i : Nat} (W : Lw k cs t nds i) : ex (Γ 99) T.gl lS_13 [x0, x1, x2, some (fm k cs), some t.d, some (TF (fcs cs t)), x6, x7, x8, x9, x10, x11, some (tts [[]]), x13, x14, x15, x16, x17, x18, x19, x20, x21, x22, x23, x24, x25] s = some (.nx, [x0, x1, x2, some (fm k cs), some t.d, some (TF (fcs cs t)), x6, x7, x8, x9, x10, x11, some (tts [[]]), x13, x14, x15, x16, x17, x18, x19, x20, x21, x22, x23, x24, x25], s) := by
  have h1 : ev (Γ 99) T.gl (.cmp .ne (.var 12) (.tup (.cons (.tup .nil) .nil))) [x0, x1, x2, some (fm k cs), some t.d, some (TF (fcs cs t)), x6, x7, x8, x9, x10, x11, some (tts [[]]), x13, x14, x15, x16, x17, x18, x19, x20, x21, x22, x23, x24, x25] s = some (.bl false, s) := ev_cmp (y := tts [[]]) (ev_v rfl) rfl (ne_self (eqOk_tts _))
  have h2 := c_is_static 93 s W.k4 W.len (fcs_len cs t) W.lits (fcs_can W.ok)
  rw [tot_one W.lits W.ok, decide_eq_true rfl] at h2
  obtain ⟨r, h3, h4⟩ := c_static_degree 94 s W.k4 W.len W.lits W.ok
  have h5 := c_tree_depth t 98 s (by have := W.dep; omega)
  exact ife_f (ev_or h1 (ev_or (ev_cmp (ev_c2 (ev_v rfl) (ev_v rfl) h2) rfl isNot_true) (ev_one (ev_cmp (p := false) (ev_c2 (ev_v rfl) (ev_v rfl) h3) (ev_c1 (ev_v rfl) h5) (by rw [cmp_gt, decide_eq_false (by omega)]))))) rfl rfl
theorem ev_missL {Γ : Calls} {gl : Str → Option D} {ρ : Md.Env} {w fs : List Int} {i j l : Nat} (hi : ρ[i]? = some (some (li fs))) (hj : ρ[j]? = some (some (ti w))) (hl : l < ρ.length) (hil : l ≠ i) (hjl : l ≠ j) :
    ev Γ gl (.cmp .eq (.bi .len false (.cons (.comp false [l] (.v l) (.var i) (.cmp .notIn (.var l) (.var j)) (.var l)) .nil)) (.int 0)) ρ s = some (.bl (subB w fs), s) := by
  have e1 : ∀ c : D, ((ρ.set l none).set l (some c))[j]? = some (some (ti w)) := fun c => by rw [List.getElem?_set_ne hjl, List.getElem?_set_ne hjl, hj]
  have e2 : ∀ c : D, ((ρ.set l none).set l (some c))[l]? = some (some c) := fun c => by rw [List.getElem?_set_self (by rw [List.length_set]; exact hl)]
  have hc : ev Γ gl (.comp false [l] (.v l) (.var i) (.cmp .notIn (.var l) (.var j)) (.var l)) ρ s = some (li (fs.filter fun x => !decide (x ∈ w)), s) := by
    refine comp_p (x := li fs) fs D.int (fun x => !decide (x ∈ w)) D.int (fun x => (ρ.set l none).set l (some (.int x))) (ev_v hi) rfl rfl (fun c _ => ?_) (fun c _ => ?_) (fun c _ _ => ev_v (e2 _))
    · simp only [wipeE, Md.bindG, List.length_set, hl, if_true]
    · rw [ev_cmp (p := !decide (c ∈ w)) (ev_v (e2 _)) (ev_v (e1 _)) (by rw [cmp_notIn, mem_tup]; rfl)]
      rfl
  refine ev_cmp (ev_b1 hc (b_len_l _ _ _)) rfl ?_
  rw [cmp_eqI, List.length_map, zero_filt (fun x => !decide (x ∈ w)) fs, not_any_sub, Bool.not_not]
theorem c_kind_list (n : Nat) (l : List D) (hl : nrs l = true) : Γ (n + 1) ("_law_kind", none) [.lst l] s = some (.int 5, s) := by
  refine call_pure p__law_kind (by simp only [nrs, nr, hl, Bool.and_true]) rfl (by decide) (d := .int 5) (s1 := []) ?_ rfl
  simp [tyOf, instOf]
theorem c_equalL (n : Nat) (l : List Int) (hl : l.length ≤ 1000) : Γ (n + 3) ("_law_equal", none) [li l, li l] s = some (.bl true, s) := by
  have hk := fun s => c_kind_list (s := s) (n + 1) (l.map D.int) (nrs_ints l)
  have h1 : ev (Γ (n + 2)) T.gl (.or (.cmp .ne (.call "_law_kind" (.cons (.var 0) .nil)) (.call "_law_kind" (.cons (.var 1) .nil))) (.one (.cmp .eq (.call "_law_kind" (.cons (.var 0) .nil)) (.int 0)))) [some (li l), some (li l), none] [] = some (.bl false, []) :=
    ev_or (p := false) (q := false) (ev_cmp (ev_c1 (ev_v rfl) (hk _)) (ev_c1 (ev_v rfl) (hk _)) (by rw [cmp_neI]; rfl)) (ev_one (ev_cmp (ev_c1 (ev_v rfl) (hk _)) rfl (by rw [cmp_eqI]; rfl)))
  have h2 : ev (Γ (n + 2)) T.gl (.or (.bi (.isInst "tuple") false (.cons (.var 1) .nil)) (.one (.bi (.isInst "list") false (.cons (.var 1) .nil)))) [some (li l), some (li l), none] [] = some (.bl true, []) :=
    ev_or (p := false) (q := true) (ev_b1 (ev_v rfl) rfl) (ev_one (ev_b1 (ev_v rfl) rfl))
  have h3 : ev (Γ (n + 2)) T.gl (.cmp .ne (.bi .len false (.cons (.var 0) .nil)) (.bi .len false (.cons (.var 1) .nil))) [some (li l), some (li l), none] [] = some (.bl false, []) :=
    ev_cmp (ev_b1 (ev_v rfl) (b_len_l _ _ _)) (ev_b1 (ev_v rfl) (b_len_l _ _ _)) (by rw [cmp_neI, decide_eq_true rfl]; rfl)
  have hr : ev (Γ (n + 2)) T.gl (.rng (.cons (.bi .len false (.cons (.var 1) .nil)) .nil)) [some (li l), some (li l), none] [] = some (.lst ((List.range l.length).map fun (i : Nat) => D.int (i : Int)), []) := by
    have hlen : ev (Γ (n + 2)) T.gl (.bi .len false (.cons (.var 1) .nil)) [some (li l), some (li l), none] [] = some (.int (l.length : Int), []) := ev_b1 (ev_v rfl) (by rw [b_len_l, List.length_map])
    exact ev_rng (vs := [.int (l.length : Int)]) (by simp only [e_cons, e_nil, hlen, bnd_some]) (rng_n l.length (by omega))
  obtain ⟨ρ, hf, y, rfl⟩ := for_nx (Γ := Γ (n + 2)) (gl := T.gl) (g := .v 2) (it := .rng (.cons (.bi .len false (.cons (.var 1) .nil)) .nil)) (b := .ife (.not (.call "_law_equal" (.cons (.idx (.var 0) (.var 2)) (.cons (.idx (.var 1) (.var 2)) .nil)))) (.ret (.bl false)) .skip)
    (ρ := [some (li l), some (li l), none]) (s := []) (x := .lst ((List.range l.length).map fun (i : Nat) => D.int (i : Int))) (List.range l.length) (fun (i : Nat) => D.int (i : Int)) (fun ρ => ∃ y, ρ = [some (li l), some (li l), y]) hr rfl rfl ⟨none, rfl⟩ (by
      rintro j hj ρ ⟨y, rfl⟩
      have hj := List.mem_range.mp hj
      have hn := fun s => nth_nat (xs := l.map D.int) (k := j) (d := .int l[j]) s (by rw [List.getElem?_map, List.getElem?_eq_getElem hj]; rfl)
      have he := c_equal n [] l[j] l[j]
      rw [decide_eq_true rfl] at he
      exact ⟨_, [some (li l), some (li l), some (.int (j : Int))], rfl, ife_f (ev_not (ev_c2 (ev_idx (ev_v rfl) (ev_v rfl) (by rw [idx_lst, hn])) (ev_idx (ev_v rfl) (ev_v rfl) (by rw [idx_lst, hn])) he) rfl) rfl rfl, _, rfl⟩)
  exact call_pure (d := .bl true) (s1 := []) p__law_equal (by simp only [nrs, nr, nrs_ints, Bool.and_true]) rfl (by decide) (out_of (seq_nx (ife_f h1 rfl rfl) (seq_ret (ife_t h2 rfl (seq_nx (ife_f h3 rfl rfl) (seq_nx hf (ret_is rfl))))))) rfl
variable {w : List Int}
theorem C1 {i : Nat} (W : Lw k cs t nds i) : ex (Γ 99) T.gl lS_14b_1 [x0, x1, x2, x3, some t.d, x5, x6, x7, x8, x9, x10, x11, x12, x13, some (ti w), x15, x16, x17, x18, x19, x20, x21, x22, x23, x24, x25] s = some (.nx, [x0, x1, x2, x3, some t.d, x5, x6, x7, x8, x9, x10, x11, x12, x13, some (ti w), some (.int (fl (aw w) t)), x16, x17, x18, x19, x20, x21, x22, x23, x24, x25], s) :=
  asg_nx (ev_c2 (ev_v rfl) (ev_v rfl) (c_find_leaf 98 w t (by have := W.dep; omega) s)) rfl
theorem leaf_at {i : Nat} (W : Lw k cs t nds i) (hw : Whole k w) : ∃ (j : Nat) (c : List Int), fl (aw w) t = (j : Int) ∧ cs[j]? = some c ∧ fals w c = true := by
  obtain ⟨j, c, h1, h2, h3⟩ := fl_ok (aw w) t [] W.ok
  refine ⟨j, c, h1, h2, List.all_eq_true.mpr fun l hl => ?_⟩
  have := h3 (fun x hx => by cases hx) l hl
  have hlit := (W.lits c (List.mem_of_getElem? h2)).lit l hl
  rw [lv_whole hw (l := -l) ⟨by omega, by omega, by omega⟩] at this
  exact this
theorem C2 {i : Nat} (W : Lw k cs t nds i) (hw : Whole k w) : ex (Γ 99) T.gl lS_14b_2 [x0, x1, x2, some (fm k cs), x4, x5, some (.tup (nds.map Nd.d)), some t.sd, x8, x9, x10, x11, x12, x13, some (ti w), some (.int (fl (aw w) t)), x16, x17, x18, x19, x20, x21, x22, x23, x24, x25] s = some (.nx, [x0, x1, x2, some (fm k cs), x4, x5, some (.tup (nds.map Nd.d)), some t.sd, x8, x9, x10, x11, x12, x13, some (ti w), some (.int (fl (aw w) t)), x16, x17, x18, x19, x20, x21, x22, x23, x24, x25], s) := by
  obtain ⟨j, c, h1, h2, h3⟩ := leaf_at W hw
  have g1 := c_graph_leaf 98 s w (by have := W.dep; omega) W.rep W.last
  have g2 := c_find_sum_leaf 98 w t (by have := W.dep; omega) s
  have g3 := c_falsifies 98 s w c
  have e3 : (c.all fun l => decide (-l ∈ w)) = true := h3
  rw [e3] at g3
  have hix : ∀ s, idxD (tts cs) (.int (fl (aw w) t)) s = some (ti c, s) := fun s => by rw [h1, idx_tup]; exact nth_cl cs s h2
  exact ife_f (ev_or (p := false) (ev_cmp (ev_c2 (ev_v rfl) (ev_v rfl) g1) (ev_v rfl) (by rw [cmp_neI, decide_eq_true rfl]; rfl)) (ev_or (p := false) (ev_cmp (ev_c2 (ev_v rfl) (ev_v rfl) g2) (ev_v rfl) (by rw [cmp_neI, decide_eq_true rfl]; rfl)) (ev_one (ev_cmp (ev_c2 (ev_v rfl) (ev_idx (ev_idx (ev_v rfl) rfl (i1 _ _ _ _)) (ev_v rfl) (hix _)) g3) rfl isNot_true)))) rfl rfl
theorem D2 {j : Nat} {c : List Int} (hj : cs[j]? = some c) : ∃ y17 y18 y19, ex (Γ 99) T.gl lS_14b_3b_2 [x0, x1, x2, some (fm k cs), x4, x5, x6, x7, x8, x9, x10, some (.lst ((lvU t []).map pe)), x12, some (.int (j : Int)), some (ti w), x15, some (.int 0), x17, x18, x19, x20, x21, x22, x23, x24, x25] s = some (.nx, [x0, x1, x2, some (fm k cs), x4, x5, x6, x7, x8, x9, x10, some (.lst ((lvU t []).map pe)), x12, some (.int (j : Int)), some (ti w), x15, some (.int (((lvU t []).countP fun p => decide (p.1 = (j : Int)) && subB w (need c p.2) : Nat) : Int)), y17, y18, y19, x20, x21, x22, x23, x24, x25], s) := by
  obtain ⟨ρ, s1, hf, q, y17, y18, y19, rfl, rfl, h1⟩ := for_st (Γ := Γ 99) (gl := T.gl) (g := .t (.cons (.v 17) (.cons (.v 18) .nil))) (it := .var 11) (b := lS_14b_3b_2b)
    (ρ := [x0, x1, x2, some (fm k cs), x4, x5, x6, x7, x8, x9, x10, some (.lst ((lvU t []).map pe)), x12, some (.int (j : Int)), some (ti w), x15, some (.int 0), x17, x18, x19, x20, x21, x22, x23, x24, x25]) (s := s) (s0 := s) (x := .lst ((lvU t []).map pe)) (lvU t []) pe
    (fun l ρ s' => ∃ (q : Nat) (y17 y18 y19 : Option D), ρ = [x0, x1, x2, some (fm k cs), x4, x5, x6, x7, x8, x9, x10, some (.lst ((lvU t []).map pe)), x12, some (.int (j : Int)), some (ti w), x15, some (.int (q : Int)), y17, y18, y19, x20, x21, x22, x23, x24, x25] ∧ s' = s ∧ q + l.countP (fun p => decide (p.1 = (j : Int)) && subB w (need c p.2)) = (lvU t []).countP fun p => decide (p.1 = (j : Int)) && subB w (need c p.2))
    (ev_v rfl) rfl (fun _ => rfl) ⟨0, x17, x18, x19, rfl, rfl, by rw [Nat.zero_add]⟩ (by
      rintro ⟨i, p⟩ l ρ s' ⟨q, y17, y18, y19, rfl, rfl, h1⟩
      have hix : ∀ s, idxD (tts cs) (.int (j : Int)) s = some (ti c, s) := fun s => by rw [idx_tup]; exact nth_cl cs s hj
      have hneed : ev (Γ 99) T.gl (.comp false [20] (.v 20) (.var 18) (.cmp .notIn (.neg (.var 20)) (.idx (.idx (.var 3) (.int 1)) (.var 13))) (.var 20)) [x0, x1, x2, some (fm k cs), x4, x5, x6, x7, x8, x9, x10, some (.lst ((lvU t []).map pe)), x12, some (.int (j : Int)), some (ti w), x15, some (.int (q : Int)), some (.int i), some (ti p), y19, x20, x21, x22, x23, x24, x25] s' = some (li (need c p), s') := by
        refine comp_p (x := ti p) p D.int (fun l => !decide (-l ∈ c)) D.int (fun l => [x0, x1, x2, some (fm k cs), x4, x5, x6, x7, x8, x9, x10, some (.lst ((lvU t []).map pe)), x12, some (.int (j : Int)), some (ti w), x15, some (.int (q : Int)), some (.int i), some (ti p), y19, some (.int l), x21, x22, x23, x24, x25]) (ev_v rfl) rfl rfl (fun _ _ => rfl) (fun l _ => ?_) (fun _ _ _ => ev_v rfl)
        rw [ev_cmp (p := !decide (-l ∈ c)) (ev_neg (ev_v rfl)) (ev_idx (ev_idx (ev_v rfl) rfl (i1 _ _ _ _)) (ev_v rfl) (hix _)) (by rw [cmp_notIn, mem_tup]; rfl)]
        rfl
      have hm := ev_missL (Γ := Γ 99) (gl := T.gl) (ρ := [x0, x1, x2, some (fm k cs), x4, x5, x6, x7, x8, x9, x10, some (.lst ((lvU t []).map pe)), x12, some (.int (j : Int)), some (ti w), x15, some (.int (q : Int)), some (.int i), some (ti p), some (li (need c p)), x20, x21, x22, x23, x24, x25]) (s := s') (w := w) (fs := need c p) (i := 19) (j := 14) (l := 20) rfl rfl (by simp) (by omega) (by omega)
      have hb := ev_and (ev_cmp (o := .eq) (a := .var 17) (b := .var 13) (p := decide (i = (j : Int))) (ev_v rfl) (ev_v rfl) (cmp_eqI _ _ _)) (ev_one hm)
      rw [List.countP_cons] at h1
      obtain ⟨u, hu⟩ : ∃ u : Nat, u = if (decide (i = (j : Int)) && subB w (need c p)) = true then 1 else 0 := ⟨_, rfl⟩
      have hint := b_intB false s' (decide (i = (j : Int)) && subB w (need c p))
      have hui : (if (decide (i = (j : Int)) && subB w (need c p)) = true then (1 : Int) else 0) = (u : Int) := by
        rw [hu]; split <;> rfl
      rw [hui] at hint
      have hadd : binop .add false (.int (q : Int)) (.int (u : Int)) s' = some (.int ((q + u : Nat) : Int), s') := by
        rw [op_add, show ((q + u : Nat) : Int) = (q : Int) + (u : Int) by omega]
      refine ⟨_, _, s', rfl, seq_nx (asg_nx hneed rfl) (asg_nx (ev_bin (ev_v rfl) (ev_b1 hb hint) hadd) rfl), q + u, _, _, _, rfl, rfl, ?_⟩
      have h1 : q + (l.countP (fun p => decide (p.1 = (j : Int)) && subB w (need c p.2)) + if (decide (i = (j : Int)) && subB w (need c p)) = true then 1 else 0) = _ := h1
      rw [← hu] at h1
      omega)
  have h1 : q = (lvU t []).countP fun p => decide (p.1 = (j : Int)) && subB w (need c p.2) := by simpa using h1
  rw [← h1]
  exact ⟨y17, y18, y19, hf⟩
theorem C3 {i : Nat} (W : Lw k cs t nds i) (hw : Whole k w) : ∃ y13 y16 y17 y18 y19, ex (Γ 99) T.gl lS_14b_3 [x0, x1, x2, some (fm k cs), x4, some (TF (fcs cs t)), x6, x7, some (LP cs), x9, x10, some (.lst ((lvU t []).map pe)), x12, x13, some (ti w), x15, x16, x17, x18, x19, x20, x21, x22, x23, x24, x25] s = some (.nx, [x0, x1, x2, some (fm k cs), x4, some (TF (fcs cs t)), x6, x7, some (LP cs), x9, x10, some (.lst ((lvU t []).map pe)), x12, y13, some (ti w), x15, y16, y17, y18, y19, x20, x21, x22, x23, x24, x25], s) := by
  obtain ⟨ρ, hl, y13, y16, y17, y18, y19, rfl⟩ := for_nx (Γ := Γ 99) (gl := T.gl) (g := .v 13) (it := .rng (.cons (.bi .len false (.cons (.var 8) .nil)) .nil)) (b := lS_14b_3b)
    (ρ := [x0, x1, x2, some (fm k cs), x4, some (TF (fcs cs t)), x6, x7, some (LP cs), x9, x10, some (.lst ((lvU t []).map pe)), x12, x13, some (ti w), x15, x16, x17, x18, x19, x20, x21, x22, x23, x24, x25]) (s := s) (x := .lst ((List.range cs.length).map fun (i : Nat) => D.int (i : Int))) (List.range cs.length) (fun (i : Nat) => D.int (i : Int))
    (fun ρ => ∃ y13 y16 y17 y18 y19, ρ = [x0, x1, x2, some (fm k cs), x4, some (TF (fcs cs t)), x6, x7, some (LP cs), x9, x10, some (.lst ((lvU t []).map pe)), x12, y13, some (ti w), x15, y16, y17, y18, y19, x20, x21, x22, x23, x24, x25]) (rng_LP rfl W.len) rfl rfl ⟨x13, x16, x17, x18, x19, rfl⟩ (by
      rintro j hj ρ ⟨y13, y16, y17, y18, y19, rfl⟩
      have hj := List.mem_range.mp hj
      have hc := List.getElem?_eq_getElem hj
      have hown := own_ok W.ok hw hc
      obtain ⟨z17, z18, z19, h2⟩ := D2 (t := t) (w := w) (s := s) hc (x0 := x0) (x1 := x1) (x2 := x2) (x4 := x4) (x5 := some (TF (fcs cs t))) (x6 := x6) (x7 := x7) (x8 := some (LP cs)) (x9 := x9) (x10 := x10) (x12 := x12) (x15 := x15) (x17 := y17) (x18 := y18) (x19 := y19) (x20 := x20) (x21 := x21) (x22 := x22) (x23 := x23) (x24 := x24) (x25 := x25) (k := k)
      generalize hq : (((lvU t []).countP fun p => decide (p.1 = (j : Int)) && subB w (need cs[j] p.2) : Nat) : Int) = q at hown h2
      have hva := c_value_at 98 s ((fcs cs t).getD j []) w
      have hat := at_TF (F := fcs cs t) (j := j) (by rw [fcs_len]; exact hj)
      have hmod := op_mod false q 2 s (by omega)
      rw [hown] at hmod
      have heq := c_equal 97 s (va ((fcs cs t).getD j []) w) (va ((fcs cs t).getD j []) w)
      rw [decide_eq_true rfl] at heq
      exact ⟨_, _, rfl, seq_nx (asg_nx (x := .int 0) (s1 := s) rfl rfl) (seq_nx h2 (ife_f (ev_not (ev_c2 (ev_c2 (ev_idx (ev_v rfl) (ev_v rfl) (hat _)) (ev_v rfl) hva) (ev_bin (ev_b1 (ev_v rfl) (b_int _ _ _)) rfl hmod) heq) rfl) rfl rfl)), _, _, _, _, _, rfl⟩)
  exact ⟨y13, y16, y17, y18, y19, hl⟩
theorem C4 {i : Nat} (W : Lw k cs t nds i) : ex (Γ 99) T.gl lS_14b_4 [x0, x1, x2, x3, x4, some (TF (fcs cs t)), x6, x7, some (LP cs), x9, x10, x11, x12, x13, some (ti w), x15, x16, x17, x18, x19, x20, x21, x22, x23, x24, x25] s = some (.nx, [x0, x1, x2, x3, x4, some (TF (fcs cs t)), x6, x7, some (LP cs), x9, x10, x11, x12, x13, some (ti w), x15, x16, x17, x18, x19, x20, some (li ((List.range cs.length).map fun (j : Nat) => if decide ((j : Int) = fl (aw w) t) = true then (1 : Int) else 0)), x22, x23, x24, x25], s) := by
  refine asg_nx (s1 := s) ?_ rfl
  rw [li, List.map_map]
  refine comp_y (x := .lst ((List.range cs.length).map fun (i : Nat) => D.int (i : Int))) (List.range cs.length) (fun (i : Nat) => D.int (i : Int)) _ (fun j => [x0, x1, x2, x3, x4, some (TF (fcs cs t)), x6, x7, some (LP cs), x9, x10, x11, x12, some (.int (j : Int)), some (ti w), x15, x16, x17, x18, x19, x20, x21, x22, x23, x24, x25]) (rng_LP rfl W.len) rfl rfl (fun _ _ => rfl) (fun j hj => ?_)
  have hj := List.mem_range.mp hj
  have hc := List.getElem?_eq_getElem hj
  have hv := va_fcs W.lits W.ok w hc
  have hat := at_TF (F := fcs cs t) (j := j) (by rw [fcs_len]; exact hj)
  have b0 : -1 ≤ va ((fcs cs t).getD j []) w ∧ va ((fcs cs t).getD j []) w ≤ 1 := by unfold va; split <;> omega
  have hm := op_mul false (va ((fcs cs t).getD j []) w) (va (cp cs[j]) w) s (.inl ⟨by omega, by omega⟩)
  rw [hv] at hm
  rw [ev_bin (ev_c2 (ev_idx (ev_v rfl) (ev_v rfl) (hat _)) (ev_v rfl) (c_value_at 98 s _ w)) (ev_c2 (ev_idx (ev_v rfl) (ev_v rfl) (at_LP hc _)) (ev_v rfl) (c_value_at 98 s _ w)) hm]
  have e : (if fl (aw w) t = (j : Int) then (1 : Int) else 0) = if decide ((j : Int) = fl (aw w) t) = true then (1 : Int) else 0 := by
    by_cases h : fl (aw w) t = (j : Int)
    · rw [if_pos h, if_pos (by rw [h]; simp)]
    · rw [if_neg h, if_neg (by rw [decide_eq_true_eq]; exact fun e => h e.symm)]
  exact congrArg (fun z : Int => some (D.int z, s)) e
theorem C5 {i : Nat} (W : Lw k cs t nds i) : ex (Γ 99) T.gl lS_14b_5 [x0, x1, x2, x3, x4, x5, x6, x7, some (LP cs), x9, x10, x11, x12, x13, x14, some (.int (fl (aw w) t)), x16, x17, x18, x19, x20, some (li ((List.range cs.length).map fun (j : Nat) => if decide ((j : Int) = fl (aw w) t) = true then (1 : Int) else 0)), x22, x23, x24, x25] s = some (.nx, [x0, x1, x2, x3, x4, x5, x6, x7, some (LP cs), x9, x10, x11, x12, x13, x14, some (.int (fl (aw w) t)), x16, x17, x18, x19, x20, some (li ((List.range cs.length).map fun (j : Nat) => if decide ((j : Int) = fl (aw w) t) = true then (1 : Int) else 0)), x22, x23, x24, x25], s) := by
  have hc : ∀ z : D, ev (Γ 99) T.gl (.comp false [13] (.v 13) (.rng (.cons (.bi .len false (.cons (.var 8) .nil)) .nil)) .yes (.bi .int false (.cons (.cmp .eq (.var 13) (.var 15)) .nil))) [x0, x1, x2, x3, x4, x5, x6, x7, some (LP cs), x9, x10, x11, x12, x13, x14, some (.int (fl (aw w) t)), x16, x17, x18, x19, x20, some z, x22, x23, x24, x25] s = some (li ((List.range cs.length).map fun (j : Nat) => if decide ((j : Int) = fl (aw w) t) = true then (1 : Int) else 0), s) := fun z => by
    rw [li, List.map_map]
    exact comp_y (x := .lst ((List.range cs.length).map fun (i : Nat) => D.int (i : Int))) (List.range cs.length) (fun (i : Nat) => D.int (i : Int)) _ (fun j => [x0, x1, x2, x3, x4, x5, x6, x7, some (LP cs), x9, x10, x11, x12, some (.int (j : Int)), x14, some (.int (fl (aw w) t)), x16, x17, x18, x19, x20, some z, x22, x23, x24, x25]) (rng_LP rfl W.len) rfl rfl (fun _ _ => rfl) (fun j hj => ev_b1 (ev_cmp (ev_v rfl) (ev_v rfl) (cmp_eqI _ _ _)) (b_intB _ _ _))
  exact ife_f (ev_not (ev_c2 (ev_v rfl) (hc _) (c_equalL (s := s) 96 _ (by have := W.len; simp; omega))) rfl) rfl rfl
theorem C6 {i : Nat} (W : Lw k cs t nds i) (hw : Whole k w) : ex (Γ 99) T.gl lS_14b_6 [x0, x1, x2, some (fm k cs), x4, x5, x6, x7, some (LP cs), x9, x10, x11, x12, x13, some (ti w), x15, x16, x17, x18, x19, x20, x21, x22, x23, x24, x25] s = some (.nx, [x0, x1, x2, some (fm k cs), x4, x5, x6, x7, some (LP cs), x9, x10, x11, x12, x13, some (ti w), x15, x16, x17, x18, x19, x20, x21, x22, x23, x24, x25], s) := by
  have h1 : ev (Γ 99) T.gl (.comp false [10] (.v 10) (.var 8) .yes (.call "value_at" (.cons (.var 10) (.cons (.var 14) .nil)))) [x0, x1, x2, some (fm k cs), x4, x5, x6, x7, some (LP cs), x9, x10, x11, x12, x13, some (ti w), x15, x16, x17, x18, x19, x20, x21, x22, x23, x24, x25] s = some (li (cs.map fun c => va (cp c) w), s) := by
    rw [li, List.map_map]
    exact comp_y (x := LP cs) cs (fun c => tts (cp c)) _ (fun c => [x0, x1, x2, some (fm k cs), x4, x5, x6, x7, some (LP cs), x9, some (tts (cp c)), x11, x12, x13, some (ti w), x15, x16, x17, x18, x19, x20, x21, x22, x23, x24, x25]) (ev_v rfl) rfl rfl (fun _ _ => rfl) (fun c _ => ev_c2 (ev_v rfl) (ev_v rfl) (c_value_at 98 s _ w))
  have h2 : ev (Γ 99) T.gl (.comp false [9] (.v 9) (.idx (.var 3) (.int 1)) .yes (.bi .int false (.cons (.not (.call "_law_true" (.cons (.var 14) (.cons (.var 9) .nil)))) .nil))) [x0, x1, x2, some (fm k cs), x4, x5, x6, x7, some (LP cs), x9, x10, x11, x12, x13, some (ti w), x15, x16, x17, x18, x19, x20, x21, x22, x23, x24, x25] s = some (li (cs.map fun c => va (cp c) w), s) := by
    rw [li, List.map_map]
    refine comp_y (x := tts cs) cs ti _ (fun c => [x0, x1, x2, some (fm k cs), x4, x5, x6, x7, some (LP cs), some (ti c), x10, x11, x12, x13, some (ti w), x15, x16, x17, x18, x19, x20, x21, x22, x23, x24, x25]) (ev_idx (ev_v rfl) rfl (i1 _ _ _ _)) rfl rfl (fun _ _ => rfl) (fun c hc => ?_)
    rw [ev_b1 (ev_not (ev_c2 (ev_v rfl) (ev_v rfl) (c_true 98 s w c)) rfl) (b_intB _ _ _)]
    show some (D.int (if (!sats w c) = true then 1 else 0), s) = some (D.int (va (cp c) w), s)
    rw [va_cp hw (W.lits c hc)]
    cases sats w c <;> rfl
  exact ife_f (ev_not (ev_c2 h1 h2 (c_equalL (s := s) 96 _ (by have := W.len; simp; omega))) rfl) rfl rfl
theorem len_pos {i : Nat} (W : Lw k cs t nds i) (hw : Whole k w) : 0 < cs.length := by
  obtain ⟨j0, c0, _, h0, _⟩ := leaf_at W hw
  have := (List.getElem?_eq_some_iff.mp h0).1
  omega
theorem C7 {a j : Nat} (hj : j < cs.length) (hd : Γ 99 ("_law_draw", none) [PL rows, .int (cs.length : Int)] (PS a []) = some (.int (j : Int), PS (a + 1) [])) : ex (Γ 99) T.gl lS_14b_7 [x0, some (PL rows), x2, x3, x4, x5, x6, x7, some (LP cs), x9, x10, x11, x12, x13, x14, x15, x16, x17, x18, x19, x20, x21, x22, x23, x24, x25] (PS a []) = some (.nx, [x0, some (PL rows), x2, x3, x4, x5, x6, x7, some (LP cs), x9, x10, x11, x12, x13, x14, x15, x16, x17, x18, x19, x20, x21, some (tts (cp cs[j])), x23, x24, x25], PS (a + 1) []) :=
  asg_nx (ev_idx (ev_v rfl) (ev_c2 (ev_v rfl) (len_LP rfl) hd) (at_LP (List.getElem?_eq_getElem hj) _)) rfl
theorem C8 {a j : Nat} (hj : j < cs.length) (hd : Γ 99 ("_law_draw", none) [PL rows, .int (cs.length : Int)] (PS a []) = some (.int (j : Int), PS (a + 1) [])) : ex (Γ 99) T.gl lS_14b_8 [x0, some (PL rows), x2, x3, x4, some (TF (fcs cs t)), x6, x7, x8, x9, x10, x11, x12, x13, x14, x15, x16, x17, x18, x19, x20, x21, x22, x23, x24, x25] (PS a []) = some (.nx, [x0, some (PL rows), x2, x3, x4, some (TF (fcs cs t)), x6, x7, x8, x9, x10, x11, x12, x13, x14, x15, x16, x17, x18, x19, x20, x21, x22, some (tts ((fcs cs t).getD j [])), x24, x25], PS (a + 1) []) := by
  have hlen : ∀ s, biop .len false [TF (fcs cs t)] s = some (.int (cs.length : Int), s) := fun s => by rw [b_len_t, List.length_map, fcs_len]
  exact asg_nx (ev_idx (ev_v rfl) (ev_c2 (ev_v rfl) (ev_b1 (ev_v rfl) (hlen _)) hd) (at_TF (by rw [fcs_len]; exact hj) _)) rfl
theorem C9 (hk : k ≤ 4) {p q : Po} (hp : Can k p) (hq : Can k q) : ex (Γ 99) T.gl lS_14b_9 [x0, x1, x2, x3, x4, x5, x6, x7, x8, x9, x10, x11, x12, x13, some (ti w), x15, x16, x17, x18, x19, x20, x21, some (tts p), some (tts q), x24, x25] s = some (.nx, [x0, x1, x2, x3, x4, x5, x6, x7, x8, x9, x10, x11, x12, x13, some (ti w), x15, x16, x17, x18, x19, x20, x21, some (tts p), some (tts q), x24, x25], s) := by
  have lp := can_len hk hp
  have lq := can_len hk hq
  have hpl := c_plus 98 s p q (by omega)
  have htp := c_times 96 s hk hp hq
  have v1 := c_value_at 98 s p w
  have v2 := c_value_at 98 s q w
  have v3 := c_value_at 98 s (pl p q) w
  have v4 := c_value_at 98 s (tp p q) w
  have b0 : -1 ≤ va p w ∧ va p w ≤ 1 := by unfold va; split <;> omega
  have hm := op_mul false (va p w) (va q w) s (.inl ⟨by omega, by omega⟩)
  have h1 : ev (Γ 99) T.gl (.cmp .ne (.call "value_at" (.cons (.call "plus" (.cons (.var 22) (.cons (.var 23) .nil))) (.cons (.var 14) .nil))) (.bi .int false (.cons (.cmp .ne (.call "value_at" (.cons (.var 22) (.cons (.var 14) .nil))) (.call "value_at" (.cons (.var 23) (.cons (.var 14) .nil)))) .nil))) [x0, x1, x2, x3, x4, x5, x6, x7, x8, x9, x10, x11, x12, x13, some (ti w), x15, x16, x17, x18, x19, x20, x21, some (tts p), some (tts q), x24, x25] s = some (.bl false, s) := by
    refine ev_cmp (ev_c2 (ev_c2 (ev_v rfl) (ev_v rfl) hpl) (ev_v rfl) v3) (ev_b1 (ev_cmp (ev_c2 (ev_v rfl) (ev_v rfl) v1) (ev_c2 (ev_v rfl) (ev_v rfl) v2) (cmp_neI _ _ _)) (b_intB _ _ _)) ?_
    rw [cmp_neI, va_add hp hq]
    by_cases h : va p w = va q w
    · rw [if_pos h, decide_eq_true h]; rfl
    · rw [if_neg h, decide_eq_false h]; rfl
  have h2 : ev (Γ 99) T.gl (.cmp .ne (.call "value_at" (.cons (.call "times" (.cons (.var 22) (.cons (.var 23) .nil))) (.cons (.var 14) .nil))) (.bin .mul false (.call "value_at" (.cons (.var 22) (.cons (.var 14) .nil))) (.call "value_at" (.cons (.var 23) (.cons (.var 14) .nil))))) [x0, x1, x2, x3, x4, x5, x6, x7, x8, x9, x10, x11, x12, x13, some (ti w), x15, x16, x17, x18, x19, x20, x21, some (tts p), some (tts q), x24, x25] s = some (.bl false, s) := by
    refine ev_cmp (ev_c2 (ev_c2 (ev_v rfl) (ev_v rfl) htp) (ev_v rfl) v4) (ev_bin (ev_c2 (ev_v rfl) (ev_v rfl) v1) (ev_c2 (ev_v rfl) (ev_v rfl) v2) hm) ?_
    rw [cmp_neI, va_mul, decide_eq_true rfl]; rfl
  exact ife_f (ev_or h1 (ev_one h2)) rfl rfl
theorem C10 (hk : k ≤ 4) {p q : Po} (hp : Can k p) (hq : Can k q) : ex (Γ 99) T.gl lS_14b_10 [x0, x1, x2, x3, x4, x5, x6, x7, x8, x9, x10, x11, x12, x13, x14, x15, x16, x17, x18, x19, x20, x21, some (tts p), some (tts q), x24, x25] s = some (.nx, [x0, x1, x2, x3, x4, x5, x6, x7, x8, x9, x10, x11, x12, x13, x14, x15, x16, x17, x18, x19, x20, x21, some (tts p), some (tts q), x24, x25], s) := by
  have lp := can_len hk hp
  have h1 := c_plus 98 s p p (by omega)
  rw [pl_self hp] at h1
  have h2 := c_times 96 s hk hp hp
  rw [tp_self hp] at h2
  have h3 := c_plus 98 s p [] (by simp; omega)
  rw [pl_nil hp] at h3
  have h4 := c_times 96 s hk hp hq
  have hd := dg_tp p q
  exact ife_f (ev_or (p := false) (ev_cmp (y := tts []) (ev_c2 (ev_v rfl) (ev_v rfl) h1) rfl (ne_self (eqOk_tts _))) (ev_or (p := false) (ev_cmp (ev_c2 (ev_v rfl) (ev_v rfl) h2) (ev_v rfl) (ne_self (eqOk_tts _))) (ev_or (p := false) (ev_cmp (ev_c2 (y := tts []) (ev_v rfl) rfl h3) (ev_v rfl) (ne_self (eqOk_tts _))) (ev_one (ev_cmp (p := false) (ev_c1 (ev_c2 (ev_v rfl) (ev_v rfl) h4) (c_degree 98 s _)) (ev_bin (ev_c1 (ev_v rfl) (c_degree 98 s p)) (ev_b2 rfl (ev_c1 (ev_v rfl) (c_degree 98 s q)) (b_max2 _ _ _ _)) (op_add _ _ _ _)) (by rw [cmp_gt, decide_eq_false (by omega)])))))) rfl rfl
theorem seq_goI {Γ : Calls} {gl : Str → Option D} {a b : S} {ρ ρ1 : Md.Env} {s s1 : Md.St} {P : Md.Env → Md.St → Prop} (h : ex Γ gl a ρ s = some (.nx, ρ1, s1)) (h2 : ∃ ρ2 s2, ex Γ gl b ρ1 s1 = some (.nx, ρ2, s2) ∧ P ρ2 s2) : ∃ ρ2 s2, ex Γ gl (.seq a b) ρ s = some (.nx, ρ2, s2) ∧ P ρ2 s2 := by
  obtain ⟨ρ2, s2, h2, h3⟩ := h2
  exact ⟨ρ2, s2, seq_nx h h2, h3⟩
theorem seq_goI5 {Γ : Calls} {gl : Str → Option D} {a b : S} {ρ : Md.Env} {s s1 : Md.St} {F : Option D → Option D → Option D → Option D → Option D → Md.Env} {P : Md.Env → Md.St → Prop} (h : ∃ y1 y2 y3 y4 y5, ex Γ gl a ρ s = some (.nx, F y1 y2 y3 y4 y5, s1)) (h2 : ∀ y1 y2 y3 y4 y5, ∃ ρ2 s2, ex Γ gl b (F y1 y2 y3 y4 y5) s1 = some (.nx, ρ2, s2) ∧ P ρ2 s2) : ∃ ρ2 s2, ex Γ gl (.seq a b) ρ s = some (.nx, ρ2, s2) ∧ P ρ2 s2 := by
  obtain ⟨y1, y2, y3, y4, y5, h⟩ := h
  obtain ⟨ρ2, s2, h2, h3⟩ := h2 y1 y2 y3 y4 y5
  exact ⟨ρ2, s2, seq_nx h h2, h3⟩
theorem L14 {i : Nat} (W : Lw k cs t nds i) (H : PoolOk rows) (a : Nat) (ha : a < 800) : ∃ (a' : Nat) (y13 y14 y15 y16 y17 y18 y19 y21 y22 y23 : Option D), ex (Γ 99) T.gl lS_14 [x0, some (PL rows), some (.int (k : Int)), some (fm k cs), some t.d, some (TF (fcs cs t)), some (.tup (nds.map Nd.d)), some t.sd, some (LP cs), x9, x10, some (.lst ((lvU t []).map pe)), x12, x13, x14, x15, x16, x17, x18, x19, x20, x21, x22, x23, x24, x25] (PS a []) = some (.nx, [x0, some (PL rows), some (.int (k : Int)), some (fm k cs), some t.d, some (TF (fcs cs t)), some (.tup (nds.map Nd.d)), some t.sd, some (LP cs), x9, x10, some (.lst ((lvU t []).map pe)), x12, y13, y14, y15, y16, y17, y18, y19, x20, y21, y22, y23, x24, x25], PS a' []) ∧ a' ≤ a + 32 := by
  have hl16 : (cubes k).length ≤ 16 := by
    rw [cubes_len]
    exact Nat.le_trans (Nat.pow_le_pow_right (by omega) W.k4) (by decide)
  obtain ⟨ρ, s1, hf, a', y13, y14, y15, y16, y17, y18, y19, y21, y22, y23, rfl, rfl, h1, _⟩ := for_st (Γ := Γ 99) (gl := T.gl) (g := .v 14) (it := .call "_law_cubes" (.cons (.var 2) .nil)) (b := lS_14b)
    (ρ := [x0, some (PL rows), some (.int (k : Int)), some (fm k cs), some t.d, some (TF (fcs cs t)), some (.tup (nds.map Nd.d)), some t.sd, some (LP cs), x9, x10, some (.lst ((lvU t []).map pe)), x12, x13, x14, x15, x16, x17, x18, x19, x20, x21, x22, x23, x24, x25]) (s := PS a []) (s0 := PS a []) (x := .lst ((cubes k).map ti)) (cubes k) ti
    (fun l ρ s => ∃ (a' : Nat) (y13 y14 y15 y16 y17 y18 y19 y21 y22 y23 : Option D), ρ = [x0, some (PL rows), some (.int (k : Int)), some (fm k cs), some t.d, some (TF (fcs cs t)), some (.tup (nds.map Nd.d)), some t.sd, some (LP cs), x9, x10, some (.lst ((lvU t []).map pe)), x12, y13, y14, y15, y16, y17, y18, y19, x20, y21, y22, y23, x24, x25] ∧ s = PS a' [] ∧ a' + 2 * l.length ≤ a + 32 ∧ ∀ w ∈ l, w ∈ cubes k)
    (ev_c1 (ev_v rfl) (c_cubes 98 _ k ⟨W.k1, W.k4⟩)) rfl (fun _ => rfl) ⟨a, x13, x14, x15, x16, x17, x18, x19, x21, x22, x23, rfl, rfl, by omega, fun w hw => hw⟩ (by
      rintro w l ρ s ⟨a', y13, y14, y15, y16, y17, y18, y19, y21, y22, y23, rfl, rfl, h1, h2⟩
      rw [List.length_cons] at h1
      have hw := cubes_whole (h2 w List.mem_cons_self)
      have hpos := len_pos W hw
      obtain ⟨j1, hj1, hd1⟩ := c_draw 98 H a' cs.length (by omega) hpos []
      obtain ⟨j2, hj2, hd2⟩ := c_draw 98 H (a' + 1) cs.length (by omega) hpos []
      have hp : Can k (cp cs[j1]) := can_cp (W.lits _ (List.getElem_mem hj1))
      have hj2' : j2 < (fcs cs t).length := by rw [fcs_len]; exact hj2
      have hq : Can k ((fcs cs t).getD j2 []) := by
        rw [List.getD_eq_getElem?_getD, List.getElem?_eq_getElem hj2']
        exact fcs_can W.ok _ (List.getElem_mem hj2')
      obtain ⟨ρ2, s2, he, hI⟩ : ∃ ρ2 s2, ex (Γ 99) T.gl lS_14b [x0, some (PL rows), some (.int (k : Int)), some (fm k cs), some t.d, some (TF (fcs cs t)), some (.tup (nds.map Nd.d)), some t.sd, some (LP cs), x9, x10, some (.lst ((lvU t []).map pe)), x12, y13, some (ti w), y15, y16, y17, y18, y19, x20, y21, y22, y23, x24, x25] (PS a' []) = some (.nx, ρ2, s2) ∧ ∃ (a'' : Nat) (y13 y14 y15 y16 y17 y18 y19 y21 y22 y23 : Option D), ρ2 = [x0, some (PL rows), some (.int (k : Int)), some (fm k cs), some t.d, some (TF (fcs cs t)), some (.tup (nds.map Nd.d)), some t.sd, some (LP cs), x9, x10, some (.lst ((lvU t []).map pe)), x12, y13, y14, y15, y16, y17, y18, y19, x20, y21, y22, y23, x24, x25] ∧ s2 = PS a'' [] ∧ a'' + 2 * l.length ≤ a + 32 ∧ ∀ w ∈ l, w ∈ cubes k := by
        refine seq_goI (C1 W) ?_
        refine seq_goI (C2 W hw) ?_
        refine seq_goI5 (C3 W hw) fun y13 y16 y17 y18 y19 => ?_
        refine seq_goI (C4 W) ?_
        refine seq_goI (C5 W) ?_
        refine seq_goI (C6 W hw) ?_
        refine seq_goI (C7 hj1 hd1) ?_
        refine seq_goI (C8 hj2 hd2) ?_
        refine seq_goI (C9 W.k4 hp hq) ?_
        exact ⟨_, _, C10 W.k4 hp hq, a' + 2, _, _, _, _, _, _, _, _, _, _, rfl, rfl, by omega, fun u hu => h2 u (List.mem_cons_of_mem _ hu)⟩
      exact ⟨_, ρ2, s2, rfl, he, hI⟩)
  exact ⟨a', y13, y14, y15, y16, y17, y18, y19, y21, y22, y23, hf, by simpa using h1⟩
theorem L15 (a : Nat) : ex (Γ 99) T.gl lS_15 [x0, x1, x2, x3, x4, some (TF (fcs cs t)), x6, x7, x8, x9, x10, x11, x12, x13, x14, x15, x16, x17, x18, x19, x20, x21, x22, x23, x24, x25] (PS a []) = some (.nx, [x0, x1, x2, x3, x4, some (TF (fcs cs t)), x6, x7, x8, x9, x10, x11, x12, x13, x14, x15, x16, x17, x18, x19, x20, x21, x22, x23, some (.ref 1), x25], PS a [.lst ((fcs cs t).map tts)]) :=
  asg_nx (ev_b1 (ev_v rfl) (b_list_t _ _ _)) rfl
theorem L16 {i : Nat} (W : Lw k cs t nds i) (a j : Nat) (hd : Γ 99 ("_law_draw", none) [PL rows, .int (cs.length : Int)] (PS a [.lst ((fcs cs t).map tts)]) = some (.int (j : Int), PS (a + 1) [.lst ((fcs cs t).map tts)])) : ex (Γ 99) T.gl lS_16 [x0, some (PL rows), x2, x3, x4, x5, x6, x7, x8, x9, x10, x11, x12, x13, x14, x15, x16, x17, x18, x19, x20, x21, x22, x23, some (.ref 1), x25] (PS a [.lst ((fcs cs t).map tts)]) = some (.nx, [x0, some (PL rows), x2, x3, x4, x5, x6, x7, x8, x9, x10, x11, x12, x13, x14, x15, x16, x17, x18, x19, x20, x21, x22, x23, some (.ref 1), some (.int (j : Int))], PS (a + 1) [.lst ((fcs cs t).map tts)]) := by
  have hlen : biop .len false [.ref 1] (PS a [.lst ((fcs cs t).map tts)]) = some (.int (cs.length : Int), PS a [.lst ((fcs cs t).map tts)]) := by
    show some (D.int (((fcs cs t).map tts).length : Int), _) = _
    rw [List.length_map, fcs_len]
  exact asg_nx (ev_c2 (ev_v rfl) (ev_b1 (ev_v rfl) hlen) hd) rfl
theorem L17 {i : Nat} (W : Lw k cs t nds i) (a j : Nat) (hj : j < cs.length) : ex (Γ 99) T.gl lS_17 [x0, x1, x2, x3, x4, x5, x6, x7, x8, x9, x10, x11, x12, x13, x14, x15, x16, x17, x18, x19, x20, x21, x22, x23, some (.ref 1), some (.int (j : Int))] (PS a [.lst ((fcs cs t).map tts)]) = some (.nx, [x0, x1, x2, x3, x4, x5, x6, x7, x8, x9, x10, x11, x12, x13, x14, x15, x16, x17, x18, x19, x20, x21, x22, x23, some (.ref 1), some (.int (j : Int))], PS a [.lst (((fcs cs t).set j (pl ((fcs cs t).getD j []) [[]])).map tts)]) := by
  have hj' : j < (fcs cs t).length := by rw [fcs_len]; exact hj
  have eF : (fcs cs t).getD j [] = (fcs cs t)[j] := by rw [List.getD_eq_getElem?_getD, List.getElem?_eq_getElem hj']; rfl
  have hcan := fcs_can W.ok _ (List.getElem_mem hj')
  have hix : idxD (.ref 1) (.int (j : Int)) (PS a [.lst ((fcs cs t).map tts)]) = some (tts ((fcs cs t).getD j []), PS a [.lst ((fcs cs t).map tts)]) := by
    have hn := nth_nat (xs := (fcs cs t).map tts) (PS a [.lst ((fcs cs t).map tts)]) (k := j) (d := tts ((fcs cs t).getD j [])) (by rw [List.getElem?_map, List.getElem?_eq_getElem hj', eF]; rfl)
    exact hn
  have hpl := c_plus 98 (PS a [.lst ((fcs cs t).map tts)]) ((fcs cs t).getD j []) [[]] (by rw [eF]; have := can_len W.k4 hcan; simp; omega)
  have hset : setAt (.ref 1) (.int (j : Int)) (tts (pl ((fcs cs t).getD j []) [[]])) (PS a [.lst ((fcs cs t).map tts)]) = some (PS a [.lst (((fcs cs t).set j (pl ((fcs cs t).getD j []) [[]])).map tts)]) := by
    show ((ixOf ((fcs cs t).map tts).length (j : Int)).map fun z => (PS a [.lst ((fcs cs t).map tts)]).set 1 (.lst (((fcs cs t).map tts).set z (tts (pl ((fcs cs t).getD j []) [[]]))))) = _
    rw [ix_nat, List.length_map, if_pos hj', Option.map_some]
    have : ((fcs cs t).map tts).set j (tts (pl ((fcs cs t).getD j []) [[]])) = ((fcs cs t).set j (pl ((fcs cs t).getD j []) [[]])).map tts := List.map_set.symm
    rw [this]
    rfl
  exact setI_nx (ev_c2 (y := tts [[]]) (ev_idx (ev_v rfl) (ev_v rfl) hix) rfl hpl) (ev_v rfl) (ev_v rfl) hset
theorem L18 {i : Nat} (W : Lw k cs t nds i) (a j : Nat) (hj : j < cs.length) : ex (Γ 99) T.gl lS_18 [x0, x1, x2, some (fm k cs), x4, x5, x6, x7, x8, x9, x10, x11, x12, x13, x14, x15, x16, x17, x18, x19, x20, x21, x22, x23, some (.ref 1), x25] (PS a [.lst (((fcs cs t).set j (pl ((fcs cs t).getD j []) [[]])).map tts)]) = some (.ret (.bl true), [x0, x1, x2, some (fm k cs), x4, x5, x6, x7, x8, x9, x10, x11, x12, x13, x14, x15, x16, x17, x18, x19, x20, x21, x22, x23, some (.ref 1), x25], PS a [.lst (((fcs cs t).set j (pl ((fcs cs t).getD j []) [[]])).map tts)]) := by
  have hj' : j < (fcs cs t).length := by rw [fcs_len]; exact hj
  have eF : (fcs cs t).getD j [] = (fcs cs t)[j] := by rw [List.getD_eq_getElem?_getD, List.getElem?_eq_getElem hj']; rfl
  have hcan := fcs_can W.ok _ (List.getElem_mem hj')
  have hS := c_is_static 93 (PS a [.lst (((fcs cs t).set j (pl ((fcs cs t).getD j []) [[]])).map tts)]) W.k4 W.len (F := (fcs cs t).set j (pl ((fcs cs t).getD j []) [[]])) (by rw [List.length_set, fcs_len]) W.lits (fun p hp => by
    rcases List.mem_or_eq_of_mem_set hp with h | h
    · exact fcs_can W.ok p h
    · rw [h, eF]; exact can_pl hcan (can_unit k))
  rw [decide_eq_false (tot_bent W.lits W.con W.ok (List.getElem?_eq_getElem hj))] at hS
  exact ret_is (ev_cmp (p := true) (ev_c2 (ev_v rfl) (ev_b1 (x := .ref 1) (ev_v rfl) rfl) hS) rfl is_false)
end
end L34
end
section
set_option maxRecDepth 100000
set_option maxHeartbeats 1000000
namespace L34
open PySem PySem.Spec PyProof.Rows Md
section
variable {Γ : Calls} {gl : Str → Option D} {a b : S} {ρ : Md.Env} {s : Md.St} {d : D}
theorem seq_go {ρ1 : Md.Env} {s1 : Md.St} (h : ex Γ gl a ρ s = some (.nx, ρ1, s1)) (h2 : ∃ ρ' s', ex Γ gl b ρ1 s1 = some (.ret d, ρ', s')) : ∃ ρ' s', ex Γ gl (.seq a b) ρ s = some (.ret d, ρ', s') := by
  obtain ⟨ρ', s', h2⟩ := h2
  exact ⟨ρ', s', seq_nx h h2⟩
theorem seq_goE {F : Option D → Md.Env} {s1 : Md.St} (h : ∃ y, ex Γ gl a ρ s = some (.nx, F y, s1)) (h2 : ∀ y, ∃ ρ' s', ex Γ gl b (F y) s1 = some (.ret d, ρ', s')) : ∃ ρ' s', ex Γ gl (.seq a b) ρ s = some (.ret d, ρ', s') := by
  obtain ⟨y, h⟩ := h
  obtain ⟨ρ', s', h2⟩ := h2 y
  exact ⟨ρ', s', seq_nx h h2⟩
theorem seq_goX {m : Nat} {F : Option D → Option D → Option D → Option D → Option D → Option D → Option D → Option D → Option D → Option D → Md.Env}
    (h : ∃ (a' : Nat) (y1 y2 y3 y4 y5 y6 y7 y8 y9 y10 : Option D), ex Γ gl a ρ s = some (.nx, F y1 y2 y3 y4 y5 y6 y7 y8 y9 y10, PS a' []) ∧ a' ≤ m)
    (h2 : ∀ (a' : Nat), a' ≤ m → ∀ (y1 y2 y3 y4 y5 y6 y7 y8 y9 y10 : Option D), ∃ ρ' s', ex Γ gl b (F y1 y2 y3 y4 y5 y6 y7 y8 y9 y10) (PS a' []) = some (.ret d, ρ', s')) : ∃ ρ' s', ex Γ gl (.seq a b) ρ s = some (.ret d, ρ', s') := by
  obtain ⟨a', y1, y2, y3, y4, y5, y6, y7, y8, y9, y10, h, hm⟩ := h
  obtain ⟨ρ', s', h2⟩ := h2 a' hm y1 y2 y3 y4 y5 y6 y7 y8 y9 y10
  exact ⟨ρ', s', seq_nx h h2⟩
end
theorem rowOk_of {k : Nat} (hk : k ≤ 4) {r : List Int} (h : Drawn k r) : RowOk k r := ⟨h.lit, h.con, by have := h.len; omega⟩
theorem mem_cls {rs : List (List Int)} {c : List Int} (hc : c ∈ cls rs) : ∃ r ∈ rs, c = cl r := by
  unfold cls at hc
  rw [mem_canon] at hc
  obtain ⟨r, hr, rfl⟩ := List.mem_map.mp hc
  exact ⟨r, hr, rfl⟩
theorem mem_cl {r : List Int} {l : Int} : l ∈ cl r ↔ l ∈ r := by unfold cl; rw [mem_srt, mem_dedup]
theorem law_true (ns : List Int) : ∃ s, callN T.Φ T.gl 100 ("law", none) [.scr ns] [] = some (.bl true, s) := by
  obtain ⟨rows, H, hpool⟩ := c_pool 97 ns
  obtain ⟨v, hv, hd1⟩ := c_draw 98 H 0 4 (by omega) (by omega) []
  obtain ⟨k, hk⟩ : ∃ k : Nat, k = 1 + v := ⟨_, rfl⟩
  have hk1 : 1 ≤ k ∧ k ≤ 4 := by omega
  obtain ⟨r1, a1, hr1, ha1, D1, n1, U1⟩ := c_closed_rows 94 H 1 k hk1 (by omega)
  have hm := c_made_formula 97 (PS a1 []) k r1 (by omega) (by omega) (fun r hr => rowOk_of hk1.2 (D1 r hr)) (by omega)
  have lits : ∀ c ∈ cls r1, Lits k c := fun c hc => by
    obtain ⟨r, hr, rfl⟩ := mem_cls hc
    exact ⟨fun l hl => (D1 r hr).lit l (mem_cl.mp hl)⟩
  have con : ∀ c ∈ cls r1, ∀ l ∈ c, -l ∉ c := fun c hc l hl hn => by
    obtain ⟨r, hr, rfl⟩ := mem_cls hc
    exact (D1 r hr).con l (mem_cl.mp hl) (mem_cl.mp hn)
  have nod : ∀ c ∈ cls r1, c.Nodup := fun c hc => by
    obtain ⟨r, hr, rfl⟩ := mem_cls hc
    exact ((srt_perm _).nodup_iff).mpr (nodup_dedup r)
  have len : (cls r1).length ≤ 30 := by
    unfold cls
    have := canon_len (r1.map cl)
    rw [List.length_map] at this
    omega
  have U : ∀ w ∈ cubes k, ∃ c ∈ cls r1, sats w c = false := fun w hw => by
    obtain ⟨r, hr, h⟩ := U1 w hw
    refine ⟨cl r, ?_, ?_⟩
    · unfold cls
      rw [mem_canon]
      exact List.mem_map.mpr ⟨r, hr, rfl⟩
    · rw [sats_ext (d := r) fun l => mem_cl]
      exact h
  generalize cls r1 = cs at *
  obtain ⟨sr0, hsr, hsr2⟩ := sr_start (n := k) (cs := cs) hk1.2
  have hsolve := c_solve 85 (PS a1 []) k cs hk1.2 nod sr0 hsr (by omega) (by cases sr0 with | inl _ => trivial | inr t => exact hsr2)
  cases sr0 with
  | inl w0 =>
    exfalso
    obtain ⟨h1, h2, h3⟩ := hsr2
    obtain ⟨w, hw, hwv⟩ := cubes_all (fun v => decide (v ∈ w0)) k
    have W := cubes_whole hw
    obtain ⟨c, hc, hs⟩ := U w hw
    have h4 := sats_of h1 (lits c hc) (h3 c hc)
    unfold sats at h4
    obtain ⟨l, hl, hl2⟩ := List.any_eq_true.mp h4
    have hl2 := of_decide_eq_true hl2
    have hlit := (lits c hc).lit l hl
    have hlw : l ∈ w := by
      rcases hlit.1 with h | h
      · exact (hwv l (by omega) (by omega)).mpr (decide_eq_true hl2)
      · refine Decidable.byContradiction fun hn => ?_
        have := (W.neg hlit).mpr hn
        have := (hwv (-l) (by omega) (by omega)).mp this
        exact h2 l hl2 (of_decide_eq_true this)
    have : sats w c = true := List.any_eq_true.mpr ⟨l, hl, decide_eq_true hlw⟩
    rw [this] at hs
    cases hs
  | inr t0 =>
    obtain ⟨fo, fc, hso, hn0, hD, hlast, hfl⟩ := hsolve
    obtain ⟨t, htr, hT⟩ := c_tree_of_steps hk1.2 hD hlast hfl 97 (by omega) (PS a1 [])
    have hdep : t.dep ≤ 4 := by
      have := dep_le hT
      have := free_len k []
      omega
    obtain ⟨nds, i, hgr, hR, hgl⟩ := c_graph_of_tree 91 (PS a1 []) hk1.2 hT hdep
    have W : Lw k cs t nds i := ⟨hk1.1, hk1.2, lits, con, len, hT, hdep, hR, hgl⟩
    obtain ⟨ρ, s', hrun⟩ : ∃ ρ s', ex (Γ 99) T.gl lS [some (.scr ns), none, none, none, none, none, none, none, none, none, none, none, none, none, none, none, none, none, none, none, none, none, none, none, none, none] [] = some (.ret (.bl true), ρ, s') := by
      refine seq_go (L1 ns hpool) ?_
      refine seq_go (L2 (k := k) v 0 (by omega) hd1) ?_
      refine seq_go (L3 (cs := cs) r1 _ hr1 hm) ?_
      refine seq_go (L4 fo hso htr) ?_
      refine seq_go (L5 W) ?_
      refine seq_go (L6 hgr) ?_
      refine seq_go (L7 (by omega)) ?_
      refine seq_go (L8 W) ?_
      refine seq_go (L9 W) ?_
      refine seq_go (L10 W) ?_
      refine seq_go L11 ?_
      refine seq_goE (L12 W) fun y13 => ?_
      refine seq_go (L13 W) ?_
      refine seq_goX (L14 W H a1 (by omega)) fun a2 ha2 y1 y2 y3 y4 y5 y6 y7 y8 y9 y10 => ?_
      have hw0 : ∃ w, w ∈ cubes k := by
        obtain ⟨w, hw, _⟩ := cubes_all (fun _ => true) k
        exact ⟨w, hw⟩
      obtain ⟨w, hw⟩ := hw0
      obtain ⟨j, hj, hd⟩ := c_draw 98 H a2 cs.length (by omega) (len_pos W (cubes_whole hw)) [.lst ((fcs cs t).map tts)]
      refine seq_go (L15 a2) ?_
      refine seq_go (L16 W a2 j hd) ?_
      refine seq_go (L17 W (a2 + 1) j hj) ?_
      exact ⟨_, _, L18 W (a2 + 1) j hj⟩
    exact ⟨s', call_raw p_law rfl (by decide) (out_of hrun)⟩
end L34
end
section
set_option maxRecDepth 100000
set_option maxHeartbeats 0
namespace L34
open PySem PySem.Spec PyProof.Rows L2
abbrev R : PySem.W.OpenRow := PySem.W.OpenLaw.row PySem.Challenge.rw_rebut_k34_whole_static_sums_at_assignmen
abbrev hk : PySem.W.Hook := Sn.hookE 5 T.fa T.fn T.exB
def ob (s : PySem.W.SharedT) : He.AlD × Bool := Sn.obsE 5 T.fa T.fn T.exB (HandSHeadRun.getT s)
theorem ob_eq (s : PySem.W.SharedT) : ob s = hk.obs s.abs := Sn.obsE_eq (HandSHeadRun.getT_eq s)
def loose : List PySem.Str := ([("BadFormula" : PySem.Str), ("MOST_VARIABLES" : PySem.Str), ("ONE" : PySem.Str), ("RebutError" : PySem.Str), ("Shortener" : PySem.Str), ("__name__" : PySem.Str), ("_law_cell" : PySem.Str), ("_law_clause" : PySem.Str), ("_law_closed_rows" : PySem.Str), ("_law_cubes" : PySem.Str), ("_law_draw" : PySem.Str), ("_law_equal" : PySem.Str), ("_law_kind" : PySem.Str), ("_law_leaves" : PySem.Str), ("_law_numbers" : PySem.Str), ("_law_pool" : PySem.Str), ("_law_rows" : PySem.Str), ("_law_some" : PySem.Str), ("_law_true" : PySem.Str), ("axiom_clause" : PySem.Str)] : List PySem.Str) ++ ([("check_count" : PySem.Str), ("clause_polynomial" : PySem.Str), ("degree" : PySem.Str), ("factors_of_tree" : PySem.Str), ("falsified" : PySem.Str), ("falsifies" : PySem.Str), ("find_leaf" : PySem.Str), ("find_sum_leaf" : PySem.Str), ("free_variables" : PySem.Str), ("graph_leaf" : PySem.Str), ("graph_of_tree" : PySem.Str), ("is_ascending" : PySem.Str), ("is_clause" : PySem.Str), ("is_earlier" : PySem.Str), ("is_integer" : PySem.Str), ("is_monomial" : PySem.Str), ("is_number" : PySem.Str), ("is_polynomial" : PySem.Str), ("is_static" : PySem.Str), ("leaf_cubes" : PySem.Str)] : List PySem.Str) ++ ([("literal_factor" : PySem.Str), ("made_clause" : PySem.Str), ("made_formula" : PySem.Str), ("moved" : PySem.Str), ("next_clause" : PySem.Str), ("place_tree" : PySem.Str), ("plus" : PySem.Str), ("pruned_to" : PySem.Str), ("resolved_clause" : PySem.Str), ("resolvent" : PySem.Str), ("search" : PySem.Str), ("solve" : PySem.Str), ("sources" : PySem.Str), ("static_degree" : PySem.Str), ("steps_of_tree" : PySem.Str), ("sums_of_tree" : PySem.Str), ("times" : PySem.Str), ("times_monomial" : PySem.Str), ("total" : PySem.Str), ("tree_below" : PySem.Str)] : List PySem.Str) ++ ([("tree_depth" : PySem.Str), ("tree_of_steps" : PySem.Str), ("value_at" : PySem.Str), ("weakened_clause" : PySem.Str), ("with_literal" : PySem.Str), ("write_tree" : PySem.Str)] : List PySem.Str)
theorem run (w : World) : HandSHeadRun.RunEq R (PySem.W.view R.prog [76]) hk ob 4000 loose w := by
  intro os
  kernel_rfl
end L34
open PySem PySem.W PySem.Calls PyProof.Rows
theorem holds34 (tok : L34.T.ok = true) (hv : ∀ ns : List Int, ns.length ≤ 63 → ∃ s, Md.callN L34.T.Φ L34.T.gl 100 Sn.lawK [.scr ns] [] = some (.bl true, s)) : PySem.Challenge.rw_rebut_k34_whole_static_sums_at_assignmen.Holds := by
  w_on; o_law
  refine HandSHeadRun.head_any (r := OpenLaw.row PySem.Challenge.rw_rebut_k34_whole_static_sums_at_assignmen) (q := view (OpenLaw.row PySem.Challenge.rw_rebut_k34_whole_static_sums_at_assignmen).prog [76]) (H := L34.hk) (ob := L34.ob) (M := 4000) (loose := L34.loose) (d := HandSHeadRun.topDef (OpenLaw.row PySem.Challenge.rw_rebut_k34_whole_static_sums_at_assignmen).prog 76) (kwd := []) L34.ob_eq
    (by kernel_rfl) (fun s => by kernel_rfl) L34.run (by kernel_rfl) (by kernel_rfl) (by kernel_rfl) (by rfl) (by first | assumption | decide +kernel) (by decide +kernel) ⟨rfl, rfl, rfl, rfl, rfl, by decide +kernel⟩ ?hw ?hc
  case hw => w_witness2
  case hc =>
    refine L2.walk_ofE (l := PySem.Challenge.rw_rebut_k34_whole_static_sums_at_assignmen) (n := 63) (k := 2 * 100) (x := "script") (CX := L2.CX0) rfl (by decide) (by kernel_rfl) ⟨rfl, by decide, by decide⟩ ?F (fun _ _ _ _ z => z)
    intro w mg fa h Y G hmg0
    obtain ⟨K, KX, c, cx⟩ := Y
    have hmg : mg ("law" : PySem.Str) = some (.ref fa) := by
      have e : (HandSHeadRun.topDef (OpenLaw.row PySem.Challenge.rw_rebut_k34_whole_static_sums_at_assignmen).prog 76).name = ("law" : PySem.Str) := by kernel_rfl
      rw [← e]
      exact hmg0
    obtain ⟨e, he, hp⟩ : ∃ e, L34.T.tab.lookup Sn.lawK = some e ∧ e.ps = (["script"] : List Str) := ⟨_, by rfl, by rfl⟩
    obtain ⟨fd, sp, hb, hs, hF⟩ := Sn.law_fn (T := L34.T) (P := (PySem.Challenge.rw_rebut_k34_whole_static_sums_at_assignmen).prog) (w := w) (n := 100) (m := 63) KX G hmg c cx tok he hp hv
    exact ⟨K, fd, sp, KX, hb, hs, fun base _ _ => hF base⟩
end
theorem PySem.Challenge.cw_rebut_k34_whole_static_sums_at_assignmen_holds : PySem.Challenge.rw_rebut_k34_whole_static_sums_at_assignmen.Holds := by
  exact holds34 L34.tok fun ns _ => L34.law_true ns
