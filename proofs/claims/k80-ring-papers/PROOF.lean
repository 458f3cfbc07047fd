import PyProof.Rows.All
import Wide.All
import OpenK.AllK
import Wide.FinOn
import HandS.ForMost
import HandS.ForExc
import HandS.SortKw
import HandS.SortInts
import HandS.TupMul
import HandS.TupAny
import HandS.SetFor
import HandS.Deep
import HandS.Style
import HandS.Conv
import HandS.IsInst
import KE.SortData
import PyProof.ReprRoads
import KE.DataCmp
import PyProof.NeKinds
import HandS.More
import HandS.Rev
import HandS.NoneIn
import HandS.Zip
import KE.GoesMore
import HandS.Small
import HandS.Remove
import HandS.Ends
import HandS.Words
import PySem.Challenge.RW_lacednets_k80_ring_papers_judged
/-! ## Mini -/
set_option autoImplicit false
set_option linter.all false
/-! Mini: a small language of values without a heap, and its evaluator. Plain Lean. -/
namespace Mini

/-- data: numbers, texts, lists, tuples, dicts; rep d: the text that repr gives of d -/
inductive D where
  | non | bl (b : Bool) | int (i : Int) | str (s : String)
  | lst (xs : List D) | tup (xs : List D) | dic (kvs : List (D × D)) | rep (d : D)

instance : Inhabited D := ⟨.non⟩

/-- no longer than this: lists, tuples, texts that the evaluator makes -/
abbrev LIM : Nat := 1000000

/-! ### sameness -/
mutual
def same : D → D → Bool
  | .non, .non => true
  | .bl a, .bl b => a == b
  | .int a, .int b => a == b
  | .str a, .str b => a == b
  | .lst a, .lst b => sameL a b
  | .tup a, .tup b => sameL a b
  | .dic a, .dic b => sameK a b
  | .rep a, .rep b => same a b
  | _, _ => false
def sameL : List D → List D → Bool
  | [], [] => true
  | a :: as, b :: bs => same a b && sameL as bs
  | _, _ => false
def sameK : List (D × D) → List (D × D) → Bool
  | [], [] => true
  | (a, c) :: as, (b, d) :: bs => same a b && same c d && sameK as bs
  | _, _ => false
end
mutual
theorem same_refl : ∀ d : D, same d d = true
  | .non => rfl
  | .bl _ => by simp [same]
  | .int _ => by simp [same]
  | .str _ => by simp [same]
  | .lst xs => by rw [same]; exact sameL_refl xs
  | .tup xs => by rw [same]; exact sameL_refl xs
  | .dic xs => by rw [same]; exact sameK_refl xs
  | .rep d => by rw [same]; exact same_refl d
theorem sameL_refl : ∀ xs : List D, sameL xs xs = true
  | [] => rfl
  | x :: xs => by rw [sameL, same_refl x, sameL_refl xs]; rfl
theorem sameK_refl : ∀ xs : List (D × D), sameK xs xs = true
  | [] => rfl
  | (x, y) :: xs => by rw [sameK, same_refl x, same_refl y, sameK_refl xs]; rfl
end
mutual
theorem same_eq : ∀ (d e : D), same d e = true → d = e
  | .non, e, h => by cases e <;> simp_all [same]
  | .bl _, e, h => by cases e <;> simp_all [same]
  | .int _, e, h => by cases e <;> simp_all [same]
  | .str _, e, h => by cases e <;> simp_all [same]
  | .lst xs, e, h => by
    cases e with
    | lst ys => rw [same] at h; rw [sameL_eq xs ys h]
    | _ => simp [same] at h
  | .tup xs, e, h => by
    cases e with
    | tup ys => rw [same] at h; rw [sameL_eq xs ys h]
    | _ => simp [same] at h
  | .dic xs, e, h => by
    cases e with
    | dic ys => rw [same] at h; rw [sameK_eq xs ys h]
    | _ => simp [same] at h
  | .rep d, e, h => by
    cases e with
    | rep y => rw [same] at h; rw [same_eq d y h]
    | _ => simp [same] at h
theorem sameL_eq : ∀ (xs ys : List D), sameL xs ys = true → xs = ys
  | [], ys, h => by cases ys <;> simp_all [sameL]
  | x :: xs, ys, h => by
    cases ys with
    | nil => simp [sameL] at h
    | cons y ys =>
      rw [sameL, Bool.and_eq_true] at h
      rw [same_eq x y h.1, sameL_eq xs ys h.2]
theorem sameK_eq : ∀ (xs ys : List (D × D)), sameK xs ys = true → xs = ys
  | [], ys, h => by cases ys <;> simp_all [sameK]
  | (x, u) :: xs, ys, h => by
    cases ys with
    | nil => simp [sameK] at h
    | cons y ys =>
      obtain ⟨y, v⟩ := y
      rw [sameK, Bool.and_eq_true, Bool.and_eq_true] at h
      rw [same_eq x y h.1.1, same_eq u v h.1.2, sameK_eq xs ys h.2]
end
theorem same_iff {d e : D} : same d e = true ↔ d = e := ⟨same_eq d e, fun h => h ▸ same_refl d⟩
instance : DecidableEq D := fun d e => decidable_of_iff _ same_iff

/-! ### == of data -/
def b2i (b : Bool) : Int := if b then 1 else 0
mutual
/-- None: not told -/
def eqD : D → D → Option Bool
  | .non, .non => some true
  | .bl a, .bl b => some (a == b)
  | .bl a, .int j => some (b2i a == j)
  | .int i, .bl b => some (i == b2i b)
  | .int i, .int j => some (i == j)
  | .str a, .str b => some (a == b)
  | .rep _, _ => none
  | _, .rep _ => none
  | .tup xs, .tup ys => eqL xs ys
  | .lst xs, .lst ys => eqL xs ys
  | .dic _, _ => none
  | _, .dic _ => none
  | _, _ => some false
def eqL : List D → List D → Option Bool
  | [], [] => some true
  | x :: xs, y :: ys => match eqD x y, eqL xs ys with
    | some a, some b => some (a && b)
    | _, _ => none
  | _, _ => some false
end
mutual
def hasDic : D → Bool
  | .lst xs => hasDicL xs
  | .tup xs => hasDicL xs
  | .dic _ => true
  | .rep _ => true
  | _ => false
def hasDicL : List D → Bool
  | [] => false
  | x :: xs => hasDic x || hasDicL xs
end
mutual
/-- how deep -/
def dep : D → Nat
  | .lst xs => depL xs + 1
  | .tup xs => depL xs + 1
  | .dic kvs => depK kvs + 1
  | _ => 0
def depL : List D → Nat
  | [] => 0
  | x :: xs => max (dep x) (depL xs)
def depK : List (D × D) → Nat
  | [] => 0
  | (k, x) :: xs => max (max (dep k) (dep x)) (depK xs)
end
mutual
/-- how great, when written -/
def wt : D → Nat
  | .int i => i.natAbs.log2 + 1
  | .str s => s.length
  | .lst xs => wtL xs
  | .tup xs => wtL xs
  | .dic kvs => wtK kvs
  | _ => 0
def wtL : List D → Nat
  | [] => 0
  | x :: xs => wt x + 1 + wtL xs
def wtK : List (D × D) → Nat
  | [] => 0
  | (k, x) :: xs => wt k + wt x + 2 + wtK xs
end
mutual
/-- its integers are small enough to be written -/
def smallI : D → Bool
  | .int i => decide (i.natAbs < 2 ^ 200)
  | .lst xs => smallL xs
  | .tup xs => smallL xs
  | .dic kvs => smallK kvs
  | .rep _ => false
  | _ => true
def smallL : List D → Bool
  | [] => true
  | x :: xs => smallI x && smallL xs
def smallK : List (D × D) → Bool
  | [] => true
  | (k, x) :: xs => smallI k && smallI x && smallK xs
end
mutual
/-- no list and no dict in it -/
def still : D → Bool
  | .lst _ => false
  | .tup xs => stillL xs
  | .dic _ => false
  | _ => true
def stillL : List D → Bool
  | [] => true
  | x :: xs => still x && stillL xs
end

/-! ### operations on data -/
inductive BO where
  | add | sub | mul | fdiv | mod | pow | shl | bxor | band
  deriving DecidableEq, Repr
inductive CO where
  | eq | ne | lt | le | gt | ge | is_ | isnot | in_ | notin
  deriving DecidableEq, Repr
inductive Ty where
  | int | bool | str | tuple | list
  deriving DecidableEq, Repr

/-- f on lists of at most LIM -/
def capL (xs : List D) (r : D) : Option D := if xs.length ≤ LIM then some r else none
def rpt (k : Nat) (xs : List D) : List D := (List.replicate k xs).flatten
def bit (f : Nat → Nat → Nat) (i j : Int) : Option D := if 0 ≤ i ∧ 0 ≤ j then some (.int (f i.toNat j.toNat)) else none
def binD : BO → D → D → Option D
  | .add, .int i, .int j => some (.int (i + j))
  | .add, .lst xs, .lst ys => capL (xs ++ ys) (.lst (xs ++ ys))
  | .add, .tup xs, .tup ys => capL (xs ++ ys) (.tup (xs ++ ys))
  | .sub, .int i, .int j => some (.int (i - j))
  | .mul, .int i, .int j => if (-(2 ^ 64) < i ∧ i < 2 ^ 64) ∨ (-(2 ^ 64) < j ∧ j < 2 ^ 64) then some (.int (i * j)) else none
  | .mul, .lst xs, .int j => if 0 ≤ j ∧ j < 2 ^ 20 ∧ xs.length * j.toNat ≤ LIM then some (.lst (rpt j.toNat xs)) else none
  | .mul, .tup xs, .int j => if xs ≠ [] ∧ 2 ≤ j ∧ j ≤ 1000 ∧ xs.length ≤ 1000 then some (.tup (rpt j.toNat xs)) else none
  | .fdiv, .int i, .int j => if 0 < j ∧ j < 1073741824 then some (.int (i / j)) else none
  | .mod, .int i, .int j => if 0 < j then some (.int (i % j)) else none
  | .pow, .int i, .int j => if 0 ≤ j ∧ j ≤ 1000 ∧ i.natAbs < 2 ^ 64 then some (.int (i ^ j.toNat)) else none
  | .shl, .int i, .int j => if 0 ≤ j ∧ j ≤ 1000 ∧ i.natAbs < 2 ^ 64 then some (.int (i * 2 ^ j.toNat)) else none
  | _, _, _ => none

def intsOf : List D → Option (List Int)
  | [] => some []
  | .int i :: r => (intsOf r).map (i :: ·)
  | _ => none
def lexLt : List Int → List Int → Bool
  | [], [] => false
  | [], _ :: _ => true
  | _ :: _, [] => false
  | x :: xs, y :: ys => if x = y then lexLt xs ys else decide (x < y)
def ltD : D → D → Option Bool
  | .int i, .int j => some (decide (i < j))
  | .tup xs, .tup ys => (intsOf xs).bind fun a => (intsOf ys).bind fun b => some (lexLt a b)
  | _, _ => none
def leD : D → D → Option Bool
  | .int i, .int j => some (decide (i ≤ j))
  | .tup xs, .tup ys => (intsOf xs).bind fun a => (intsOf ys).bind fun b => some (!lexLt b a)
  | _, _ => none
def flat : D → Bool
  | .non => true
  | .bl _ => true
  | .int _ => true
  | .str _ => true
  | _ => false
/-- x in xs -/
def inL (x : D) : List D → Option Bool
  | [] => some false
  | y :: ys => match eqD y x, inL x ys with
    | some a, some b => some (a || b)
    | _, _ => none
/-- where all is flat, or (lists alone) plain data -/
def inD (x : D) (ys : List D) : Option Bool := if flat x && ys.all flat then inL x ys else none
def look (k : D) : List (D × D) → Option D
  | [] => none
  | (a, v) :: r => if a = k then some v else look k r
def keyD : D → Bool
  | .int _ => true
  | .str _ => true
  | _ => false
/-- a ! = .. is told by a == .. -/
def notO (x : Option Bool) : Option Bool := x.map (!·)
def cmpD : CO → D → D → Option Bool
  | .eq, .tup xs, .tup [] => some xs.isEmpty
  | .eq, .lst xs, .lst [] => some xs.isEmpty
  | .eq, .rep a, .rep b => if same a b then some true else none
  | .ne, .rep a, .rep b => if same a b then some false else none
  | .eq, a, b => if hasDic a || hasDic b || decide (60 < dep a) || decide (60 < dep b) then none else eqD a b
  | .ne, .tup xs, .tup [] => some (!xs.isEmpty)
  | .ne, .lst xs, .lst [] => some (!xs.isEmpty)
  | .ne, a, b => if hasDic a || hasDic b || decide (60 < dep a) || decide (60 < dep b) then none else notO (eqD a b)
  | .lt, a, b => ltD a b
  | .gt, .int i, .int j => some (decide (j < i))
  | .ge, .int i, .int j => some (decide (j ≤ i))
  | .le, a, b => leD a b
  | .is_, a, .non => some (match a with | .non => true | _ => false)
  | .is_, .bl a, .bl b => some (a == b)
  | .isnot, a, .non => some (match a with | .non => false | _ => true)
  | .isnot, .bl a, .bl b => some (a != b)
  | .in_, x, .tup ys => inD x ys
  | .in_, x, .lst ys => inD x ys
  | .in_, k, .dic kvs => if keyD k then some (look k kvs).isSome else none
  | .notin, x, .tup ys => notO (inD x ys)
  | .notin, x, .lst ys => notO (inD x ys)
  | .notin, k, .dic kvs => if keyD k then some (!(look k kvs).isSome) else none
  | _, _, _ => none

/-- the place i of n, from the end below 0 -/
def ixN (n : Nat) (i : Int) : Option Nat :=
  if 0 ≤ i then (if i < n then some i.toNat else none) else if 0 ≤ i + n then some (i + n).toNat else none
def idxD : D → D → Option D
  | .lst xs, .int i => (ixN xs.length i).bind fun k => xs[k]?
  | .tup xs, .int i => (ixN xs.length i).bind fun k => xs[k]?
  | .dic kvs, k => if keyD k then look k kvs else none
  | _, _ => none
/-- a bound as a place among n -/
def clamp (n : Nat) (i : Int) : Nat := if i < 0 then (i + n).toNat else min i.toNat n
def bnd (n d : Nat) : Option Int → Nat
  | none => d
  | some i => clamp n i
def cut (xs : List D) (lo hi : Option Int) : List D := (xs.take (bnd xs.length xs.length hi)).drop (bnd xs.length 0 lo)
def sliceD (d : D) (lo hi : Option D) : Option D :=
  match (match lo with | none => some none | some (.int i) => if -(2 ^ 62) < i ∧ i < 2 ^ 62 then some (some i) else none | _ => none),
        (match hi with | none => some none | some (.int i) => if -(2 ^ 62) < i ∧ i < 2 ^ 62 then some (some i) else none | _ => none) with
  | some l, some h => match d with
    | .lst xs => some (.lst (cut xs l h))
    | .tup xs => some (.tup (cut xs l h))
    | _ => none
  | _, _ => none
def revD : D → Option D
  | .lst xs => some (.lst xs.reverse)
  | .tup xs => some (.tup xs.reverse)
  | _ => none
def bls : List D → Option (List Bool)
  | [] => some []
  | .bl b :: r => (bls r).map (b :: ·)
  | _ => none
def itemsOf : D → Option (List D)
  | .lst xs => some xs
  | .tup xs => some xs
  | _ => none
/-- sorted by insertion: a stable order by ltD -/
def insD (lt : D → D → Bool) (x : D) : List D → List D
  | [] => [x]
  | y :: ys => if lt x y then x :: y :: ys else y :: insD lt x ys
/-- all of them intsOf, or all of them tuples of intsOf -/
def lotsD : List D → Option (List (List Int))
  | [] => some []
  | .tup xs :: r => match intsOf xs, lotsD r with
    | some is, some l => if is = [] then none else some (is :: l)
    | _, _ => none
  | _ => none
def sortI (l : List Int) : List Int := l.mergeSort fun a b => decide (a ≤ b)
def sortT (l : List (List Int)) : List (List Int) := l.mergeSort fun a b => !lexLt b a
def sortRT (l : List (List Int)) : List (List Int) := l.mergeSort fun a b => !lexLt a b
def intsD (l : List Int) : D := .lst (l.map .int)
def lotD (l : List Int) : D := .tup (l.map .int)
def sortD (rev : Bool) (d : D) : Option D :=
  match d with
  | .lst xs =>
    if xs.length ≤ LIM then
      match intsOf xs with
      | some is => if rev then none else some (intsD (sortI is))
      | none => match lotsD xs with
        | some l => some (.lst ((if rev then sortRT l else sortT l).map lotD))
        | none => none
    else none
  | .dic kvs => match intsOf (kvs.map (·.1)) with
    | some is => if rev || decide (63 < is.length) then none else some (intsD (sortI is))
    | none => none
  | _ => none
def isTy : Ty → D → Option Bool
  | _, .rep _ => none
  | .int, .int _ => some true
  | .int, .bl _ => some true
  | .int, _ => some false
  | .bool, .bl _ => some true
  | .bool, _ => some false
  | .str, .str _ => some true
  | .str, _ => some false
  | .tuple, .tup _ => some true
  | .tuple, _ => some false
  | .list, .lst _ => some true
  | .list, _ => some false
/-- repr -/
def reprD (d : D) : Option D := if smallI d && decide (wt d ≤ 50000) && decide (dep d ≤ 60) then some (.rep d) else none
def putK (k v : D) (kvs : List (D × D)) : List (D × D) :=
  if (kvs.any fun p => decide (p.1 = k)) = true then kvs.map (fun p => if p.1 = k then (p.1, v) else p) else kvs ++ [(k, v)]
def mergeD (kvs : List (D × D)) : List (D × D) → List (D × D)
  | [] => kvs
  | (k, v) :: r => mergeD (putK k v kvs) r
/-- the pairs of a list of pairs -/
def pairsD : List D → Option (List (D × D))
  | [] => some []
  | .tup [k, v] :: r => if keyD k then (pairsD r).map ((k, v) :: ·) else none
  | _ => none
inductive F1 where
  | len | tuple | list | sorted | sortedRev | sum | max | min | abs | int | repr | all | dict
  deriving DecidableEq, Repr
inductive F2 where
  | max | min | index | count
  deriving DecidableEq, Repr
def maxL : List Int → Option Int
  | [] => none
  | x :: xs => some (xs.foldl (fun a b => if b > a then b else a) x)
def minL : List Int → Option Int
  | [] => none
  | x :: xs => some (xs.foldl (fun a b => if b < a then b else a) x)
/-- the first place of x -/
def indexL (x : D) : List D → Option Nat
  | [] => none
  | y :: ys => match eqD y x with
    | some true => some 0
    | some false => (indexL x ys).map (· + 1)
    | none => none
def f1D : F1 → D → Option D
  | .len, .lst xs => some (.int xs.length)
  | .len, .tup xs => some (.int xs.length)
  | .len, .dic xs => some (.int xs.length)
  | .tuple, .lst xs => some (.tup xs)
  | .tuple, .tup xs => some (.tup xs)
  | .list, .lst xs => some (.lst xs)
  | .list, .tup xs => some (.lst xs)
  | .list, .dic kvs => some (.lst (kvs.map (·.1)))
  | .sorted, d => sortD false d
  | .sortedRev, d => sortD true d
  | .sum, .lst xs => (intsOf xs).map fun l => .int l.sum
  | .sum, .tup xs => (intsOf xs).map fun l => .int l.sum
  | .max, .lst xs => ((intsOf xs).bind maxL).map .int
  | .max, .tup xs => ((intsOf xs).bind maxL).map .int
  | .min, .lst xs => ((intsOf xs).bind minL).map .int
  | .abs, .int i => some (.int (if i < 0 then -i else i))
  | .int, .int i => some (.int i)
  | .int, .bl b => some (.int (b2i b))
  | .repr, d => reprD d
  | .all, .lst xs => (bls xs).map fun l => .bl (l.all id)
  | .dict, .lst xs => (pairsD xs).bind fun kvs => if xs.length ≤ LIM then some (.dic (mergeD [] kvs)) else none
  | _, _ => none
def f2D : F2 → D → D → Option D
  | .max, .int i, .int j => some (.int (if j > i then j else i))
  | .min, .int i, .int j => some (.int (if j < i then j else i))
  | .index, .lst xs, y => if flat y && xs.all flat then (indexL y xs).map fun (k : Nat) => .int (k : Int) else none
  | .count, .lst xs, .int i => (intsOf xs).map fun l => .int ((l.count i : Nat) : Int)
  | _, _, _ => none

/-! ### the language -/
inductive T where
  | var (i : Nat) | tup (ts : List T)
mutual
inductive E where
  | non | bl (b : Bool) | int (i : Int) | str (s : String)
  | var (i : Nat)
  /-- a list or dict of one's own, read at once -/
  | own (i : Nat)
  | bin (o : BO) (a b : E) | neg (a : E) | not (a : E)
  | and (a b : E) | or (a b : E)
  | cmp (o : CO) (a b : E) | cmp2 (o p : CO) (a b c : E)
  | ite (c a b : E)
  | tup (es : List E) | lst (es : List E)
  /-- list(range(..)), tuple(range(..)) -/
  | rng (tu : Bool) (lo : Option E) (hi : E)
  /-- {}, {**a, k: v} -/
  | dic0 | dicPut (a k v : E)
  | idx (a i : E) | slice (a : E) (lo hi : Option E) | rev (a : E)
  | comp (elt : E) (tg : T) (it : It) (vs : List Nat) (ifs : List E)
  | f1 (f : F1) (a : E) | f2 (f : F2) (a b : E)
  | isi (a : E) (t : Ty)
  /-- a def that draws nothing; one that draws -/
  | call (k : Nat) (args : List E) | callS (k : Nat) (args : List E)
  /-- the draws' own numbers (left, mixed, turn); how many cells are left -/
  | srcI (k : Nat) | srcN
inductive It where
  | seq (a : E) | range (a : E) | range2 (a b : E) | enum (a : E) | zip (a b : E) | zipS (a b : E) | items (a : E)
end
/-- the state of the draws -/
structure Src where
  cells : List Int
  left : Int
  mixed : Int
  turn : Int
abbrev S := Option Src
/-- a slot: a value; a list, a dict of one's own -/
inductive Slot where
  | val (d : D) | own (xs : List D) | ownd (kvs : List (D × D))
abbrev Env := List (Option Slot)
abbrev Fn := List D → Option D
abbrev Gn := Src → List D → Option (D × Src)

/-! ### the evaluator of expressions -/
/-- a target takes a value -/
def bindT : Nat → T → D → Env → Option Env
  | 0, _, _, _ => none
  | _ + 1, .var i, d, ρ => if i < ρ.length then some (ρ.set i (some (.val d))) else none
  | n + 1, .tup ts, d, ρ => match d with
    | .tup xs => if xs.length = ts.length then (ts.zip xs).foldlM (fun ρ p => bindT n p.1 p.2 ρ) ρ else none
    | .lst xs => if xs.length = ts.length then (ts.zip xs).foldlM (fun ρ p => bindT n p.1 p.2 ρ) ρ else none
    | _ => none
def wipe (ρ : Env) : List Nat → Env
  | [] => ρ
  | i :: r => (wipe ρ r).set i none
abbrev Ev := Env → E → S → Option (D × S)
def isOwn : E → Bool
  | .own _ => true
  | _ => false
/-- operands: one's own list may be read -/
def evA (ev : Ev) (ρ : Env) (e : E) (s : S) : Option (D × S) :=
  match e with
  | .own i => match ρ[i]? with
    | some (some (.own xs)) => some (.lst xs, s)
    | some (some (.ownd kvs)) => some (.dic kvs, s)
    | _ => none
  | e => ev ρ e s
def evL (ev : E → S → Option (D × S)) : List E → S → Option (List D × S)
  | [], s => some ([], s)
  | e :: es, s => (ev e s).bind fun p => (evL ev es p.2).bind fun q => some (p.1 :: q.1, q.2)
def evO (ev : E → S → Option (D × S)) : Option E → S → Option (Option D × S)
  | none, s => some (none, s)
  | some e, s => (ev e s).bind fun p => some (some p.1, p.2)
def asBl : D → Option Bool
  | .bl b => some b
  | _ => none
def small62 (i : Int) : Bool := decide (-(2 ^ 30) ≤ i) && decide (i < 2 ^ 30)
def rangeL (lo hi : Int) : Option (List D) :=
  if small62 lo && small62 hi && decide ((hi - lo).toNat ≤ LIM) then some ((List.range (hi - lo).toNat).map fun (k : Nat) => .int (lo + (k : Int))) else none
def enumL (xs : List D) : List D := (xs.zipIdx).map fun p => .tup [.int p.2, p.1]
def zipL (xs ys : List D) : List D := (xs.zip ys).map fun p => .tup [p.1, p.2]
/-- what is walked -/
def evI (ev : Env → E → S → Option (D × S)) (ρ : Env) (it : It) (s : S) : Option (List D × S) :=
  match it with
  | .seq a => (evA ev ρ a s).bind fun p => (itemsOf p.1).bind fun xs => some (xs, p.2)
  | .range a => (ev ρ a s).bind fun p => match p.1 with
    | .int j => (rangeL 0 j).bind fun xs => some (xs, p.2)
    | _ => none
  | .range2 a b => (ev ρ a s).bind fun p => (ev ρ b p.2).bind fun q => match p.1, q.1 with
    | .int i, .int j => (rangeL i j).bind fun xs => some (xs, q.2)
    | _, _ => none
  | .enum a => (evA ev ρ a s).bind fun p => (itemsOf p.1).bind fun xs => if xs.length ≤ LIM then some (enumL xs, p.2) else none
  | .zip a b => (evA ev ρ a s).bind fun p => (evA ev ρ b p.2).bind fun q => match p.1, q.1 with
    | .lst xs, .lst ys => some (zipL xs ys, q.2)
    | .tup xs, .tup ys => some (zipL xs ys, q.2)
    | _, _ => none
  | .zipS a b => (evA ev ρ a s).bind fun p => (evA ev ρ b p.2).bind fun q => match p.1, q.1 with
    | .lst xs, .lst ys => if xs.length = ys.length then some (zipL xs ys, q.2) else none
    | .tup xs, .tup ys => if xs.length = ys.length then some (zipL xs ys, q.2) else none
    | _, _ => none
  | .items a => (evA ev ρ a s).bind fun p => match p.1 with
    | .dic kvs => some (kvs.map fun q => .tup [q.1, q.2], p.2)
    | _ => none
def testsL (ev : Ev) (ρ : Env) : List E → S → Option (Bool × S)
  | [], s => some (true, s)
  | c :: cs, s => (ev ρ c s).bind fun p => (asBl p.1).bind fun b => if b then testsL ev ρ cs p.2 else some (false, p.2)
/-- [elt for tg in items if ..] -/
def compL (ev : Ev) (ρ : Env) (elt : E) (tg : T) (ifs : List E) : List D → S → Option (List D × S)
  | [], s => some ([], s)
  | x :: xs, s => (bindT 9 tg x ρ).bind fun ρ' => (testsL ev ρ' ifs s).bind fun p =>
      if p.1 then (ev ρ' elt p.2).bind fun q => (compL ev ρ elt tg ifs xs q.2).bind fun r => some (q.1 :: r.1, r.2)
      else compL ev ρ elt tg ifs xs p.2
def bindS {α β : Type} (x : Option (α × S)) (f : α → S → Option (β × S)) : Option (β × S) := x.bind fun p => f p.1 p.2
def retO {β : Type} (x : Option β) (s : S) : Option (β × S) := x.map fun v => (v, s)

def Src.get (S : Src) (k : Nat) : Int := match k with
  | 0 => S.left
  | 1 => S.mixed
  | _ => S.turn
def Src.put (S : Src) (k : Nat) (i : Int) : Src := match k with
  | 0 => { S with left := i }
  | 1 => { S with mixed := i }
  | _ => { S with turn := i }
def step (Fs : List Fn) (Gs : List Gn) (ev : Ev) (ρ : Env) (e : E) (s : S) : Option (D × S) :=
  match e with
  | .non => some (.non, s)
  | .bl b => some (.bl b, s)
  | .int i => some (.int i, s)
  | .str x => some (.str x, s)
  | .var i => match ρ[i]? with
    | some (some (.val d)) => some (d, s)
    | _ => none
  | .own _ => none
  | .bin o a b => bindS (evA ev ρ a s) fun x s => bindS (evA ev ρ b s) fun y s => retO (binD o x y) s
  | .neg a => bindS (ev ρ a s) fun x s => match x with
    | .int i => some (.int (-i), s)
    | _ => none
  | .not a => bindS (ev ρ a s) fun x s => retO ((asBl x).map fun b => .bl (!b)) s
  | .and a b => bindS (ev ρ a s) fun x s => (asBl x).bind fun c => if c then bindS (ev ρ b s) fun y s => retO ((asBl y).map .bl) s else some (.bl false, s)
  | .or a b => bindS (ev ρ a s) fun x s => (asBl x).bind fun c => if c then some (.bl true, s) else bindS (ev ρ b s) fun y s => retO ((asBl y).map .bl) s
  | .cmp o a b => bindS (evA ev ρ a s) fun x s => bindS (evA ev ρ b s) fun y s => retO ((cmpD o x y).map .bl) s
  | .cmp2 o p a b c => bindS (evA ev ρ a s) fun x s => bindS (evA ev ρ b s) fun y s => (cmpD o x y).bind fun t =>
      if t then bindS (evA ev ρ c s) fun z s => retO ((cmpD p y z).map .bl) s else some (.bl false, s)
  | .ite c a b => bindS (ev ρ c s) fun x s => (asBl x).bind fun t => if t then ev ρ a s else ev ρ b s
  | .tup es => bindS (evL (ev ρ) es s) fun xs s => if xs.length ≤ LIM then some (.tup xs, s) else none
  | .lst es => bindS (evL (ev ρ) es s) fun xs s => if xs.length ≤ LIM then some (.lst xs, s) else none
  | .rng tu lo hi => bindS (evO (ev ρ) lo s) fun l s => bindS (ev ρ hi s) fun h s => match (match l with | none => some 0 | some (.int i) => some i | _ => none), h with
    | some i, .int j => (rangeL i j).bind fun xs => some (if tu then .tup xs else .lst xs, s)
    | _, _ => none
  | .dic0 => some (.dic [], s)
  | .dicPut a k v => bindS (evA ev ρ a s) fun x s => bindS (ev ρ k s) fun y s => bindS (ev ρ v s) fun z s => match x with
    | .dic kvs => if keyD y && decide (kvs.length < LIM) then some (.dic (putK y z kvs), s) else none
    | _ => none
  | .idx a i => bindS (evA ev ρ a s) fun x s => bindS (ev ρ i s) fun y s => retO (idxD x y) s
  | .slice a lo hi => bindS (evA ev ρ a s) fun x s => bindS (evO (ev ρ) lo s) fun l s => bindS (evO (ev ρ) hi s) fun h s => retO (sliceD x l h) s
  | .rev a => bindS (evA ev ρ a s) fun x s => retO (revD x) s
  | .comp elt tg it vs ifs => bindS (evI ev ρ it s) fun xs s => if xs.length ≤ LIM then bindS (compL ev (wipe ρ vs) elt tg ifs xs s) fun ys s => some (.lst ys, s) else none
  | .f1 f a => bindS (evA ev ρ a s) fun x s => retO (f1D f x) s
  | .f2 f a b => bindS (evA ev ρ a s) fun x s => bindS (evA ev ρ b s) fun y s => retO (f2D f x y) s
  | .isi a t => bindS (evA ev ρ a s) fun x s => retO ((isTy t x).map .bl) s
  | .call k es => bindS (evL (evA ev ρ) es s) fun xs s => (Fs[k]?).bind fun F => (F xs).bind fun r => if es.any isOwn && !still r then none else some (r, s)
  | .callS k es => bindS (evL (evA ev ρ) es s) fun xs s => match s, Gs[k]? with
    | some src, some G => (G src xs).bind fun p => if es.any isOwn && !still p.1 then none else some (p.1, some p.2)
    | _, _ => none
  | .srcI k => s.map fun S => (.int (S.get k), some S)
  | .srcN => s.map fun S => (.int (S.cells.length : Int), some S)

/-- by so many steps deep -/
def ev (Fs : List Fn) (Gs : List Gn) : Nat → Ev
  | 0 => fun _ _ _ => none
  | n + 1 => step Fs Gs (ev Fs Gs n)

/-! ### statements -/
/-- where a value goes: a name, a name that holds a new list of one's own, an item of one's own list or dict, a tuple of names -/
inductive Tg where
  | nm (i : Nat) | nmO (i : Nat) | sub (i : Nat) (e : E) | tup (ts : List T)
inductive St where
  | set (i : Nat) (e : E)
  /-- a new list or dict, one's own -/
  | setO (i : Nat) (e : E)
  | unpack (ts : List T) (e : E)
  /-- a, b, .. = e, f, .. -/
  | par (ts : List Tg) (es : List E)
  | sub (i : Nat) (k e : E)
  | augN (i : Nat) (o : BO) (e : E)
  | augI (i : Nat) (k : E) (o : BO) (e : E)
  | append (i : Nat) (e : E) | extend (i : Nat) (e : E) | remove (i : Nat) (e : E)
  /-- j = x.pop() -/
  | popTo (j i : Nat)
  | expr (e : E)
  /-- x is a value from here on -/
  | freeze (i : Nat)
  | iff (c : E) (a b : List St)
  | for_ (tg : T) (it : It) (body : List St)
  | while_ (c : E) (most : Nat) (body : List St)
  | ret (e : Option E)
  | pass | brk | cont
  /-- not reached -/
  | never
  /-- a number of the draws is set; the last cell is taken -/
  | srcSet (k : Nat) (e : E) | srcPop
  /-- x = x if c else [], x a list of one's own -/
  | orNil (i : Nat) (c : E)
inductive Out where
  | nx | rt (d : D) | bk | ct
abbrev Res := Option (Out × Env × S)
def setV (ρ : Env) (i : Nat) (x : Slot) : Option Env := if i < ρ.length then some (ρ.set i (some x)) else none
/-- a fresh list or dict becomes one's own -/
def asOwn : D → Option Slot
  | .lst xs => some (.own xs)
  | .dic kvs => some (.ownd kvs)
  | _ => none
/-- a form whose list or dict is new -/
def fresh : E → Bool
  | .lst _ => true
  | .comp .. => true
  | .dic0 => true
  | .dicPut .. => true
  | .f1 .list _ => true
  | .rng _ _ _ => true
  | .f1 .sorted _ => true
  | .f1 .sortedRev _ => true
  | .f1 .dict _ => true
  | .bin .add _ _ => true
  | .bin .mul _ _ => true
  | .slice .. => true
  | .rev _ => true
  | _ => false
def getOwn (ρ : Env) (i : Nat) : Option (List D) := match ρ[i]? with
  | some (some (.own xs)) => some xs
  | _ => none
/-- x[k] = v of one's own -/
def subSet (ρ : Env) (i : Nat) (k v : D) : Option Env := match ρ[i]? with
  | some (some (.own xs)) => match k with
    | .int j => (ixN xs.length j).bind fun n => setV ρ i (.own (xs.set n v))
    | _ => none
  | some (some (.ownd kvs)) => if keyD k && decide (kvs.length < LIM) then setV ρ i (.ownd (putK k v kvs)) else none
  | _ => none
def tgSet (ev : Ev) (ρ : Env) (s : S) (t : Tg) (d : D) : Option Env := match t with
  | .nm i => setV ρ i (.val d)
  | .nmO i => (asOwn d).bind fun x => setV ρ i x
  | .sub i e => (ev ρ e s).bind fun p => subSet ρ i p.1 d
  | .tup ts => bindT 9 (.tup ts) d ρ
def tgsSet (ev : Ev) (s : S) : List Tg → List D → Env → Option Env
  | [], [], ρ => some ρ
  | t :: ts, d :: ds, ρ => (tgSet ev ρ s t d).bind fun ρ => tgsSet ev s ts ds ρ
  | _, _, _ => none
/-- the first place, by == -/
def removeL (x : D) : List D → Option (List D)
  | [] => none
  | y :: ys => match eqD y x with
    | some true => some ys
    | some false => (removeL x ys).map (y :: ·)
    | none => none
def freezeS : Slot → Slot
  | .own xs => .val (.lst xs)
  | .ownd kvs => .val (.dic kvs)
  | x => x
def freezeAll (ρ : Env) : Env := ρ.map fun o => o.map freezeS
def seqR (x : Res) (f : Env → S → Res) : Res := x.bind fun
  | (.nx, ρ, s) => f ρ s
  | r => some r
def nxt (ρ : Option Env) (s : S) : Res := ρ.map fun ρ => (.nx, ρ, s)
/-- the turns of a for -/
def forL (body : Env → S → Res) (tg : T) : List D → Env → S → Res
  | [], ρ, s => some (.nx, ρ, s)
  | x :: xs, ρ, s => (bindT 9 tg x ρ).bind fun ρ => (body ρ s).bind fun
    | (.nx, ρ, s) => forL body tg xs ρ s
    | (.ct, ρ, s) => forL body tg xs ρ s
    | (.bk, ρ, s) => some (.nx, ρ, s)
    | r => some r
def whileL (test : Env → S → Option (Bool × S)) (body : Env → S → Res) : Nat → Env → S → Res
  | 0, _, _ => none
  | n + 1, ρ, s => (test ρ s).bind fun p => if p.1 then (body ρ p.2).bind fun
    | (.nx, ρ, s) => whileL test body n ρ s
    | (.ct, ρ, s) => whileL test body n ρ s
    | (.bk, ρ, s) => some (.nx, ρ, s)
    | r => some r
    else some (.nx, ρ, p.2)
def itOwn : It → Bool
  | .seq a => isOwn a
  | .range _ => false
  | .range2 _ _ => false
  | .enum a => isOwn a
  | .zip a b => isOwn a || isOwn b
  | .zipS a b => isOwn a || isOwn b
  | .items a => isOwn a
abbrev Ex := Env → List St → S → Res
def stepS (ev : Ev) (ex : Ex) (ρ : Env) (st : St) (s : S) : Res :=
  match st with
  | .set i e => (ev ρ e s).bind fun p => nxt (setV ρ i (.val p.1)) p.2
  | .setO i e => if fresh e then (ev ρ e s).bind fun p => (asOwn p.1).bind fun x => nxt (setV ρ i x) p.2 else none
  | .unpack ts e => (ev ρ e s).bind fun p => nxt (bindT 9 (.tup ts) p.1 ρ) p.2
  | .par ts es => if (ts.zip es).all (fun q => match q.1 with | .nmO _ => fresh q.2 | _ => true) then
      (evL (ev ρ) es s).bind fun p => nxt (tgsSet ev p.2 ts p.1 ρ) p.2 else none
  | .sub i k e => (ev ρ e s).bind fun p => (ev ρ k p.2).bind fun q => nxt (subSet ρ i q.1 p.1) q.2
  | .augN i o e => match ρ[i]? with
    | some (some (.val d)) => (ev ρ e s).bind fun p => match d, p.1 with
      | .int _, .int _ => (binD o d p.1).bind fun r => nxt (setV ρ i (.val r)) p.2
      | _, _ => none
    | _ => none
  | .augI i k o e => (ev ρ k s).bind fun q => match getOwn ρ i with
    | some xs => (idxD (.lst xs) q.1).bind fun d => (ev ρ e q.2).bind fun p => match d, p.1 with
      | .int _, .int _ => (binD o d p.1).bind fun r => nxt (subSet ρ i q.1 r) p.2
      | _, _ => none
    | none => none
  | .append i e => (ev ρ e s).bind fun p => (getOwn ρ i).bind fun xs => if xs.length < LIM then nxt (setV ρ i (.own (xs ++ [p.1]))) p.2 else none
  | .extend i e => (ev ρ e s).bind fun p => (itemsOf p.1).bind fun ys => (getOwn ρ i).bind fun xs => if xs.length + ys.length ≤ LIM then nxt (setV ρ i (.own (xs ++ ys))) p.2 else none
  | .remove i e => (ev ρ e s).bind fun p => (getOwn ρ i).bind fun xs => match p.1, intsOf xs with
    | .int _, some _ => (removeL p.1 xs).bind fun ys => nxt (setV ρ i (.own ys)) p.2
    | _, _ => none
  | .popTo j i => if i = j then none else (getOwn ρ i).bind fun xs => (xs[xs.length - 1]?).bind fun y => (setV ρ i (.own xs.dropLast)).bind fun ρ => nxt (setV ρ j (.val y)) s
  | .expr e => (ev ρ e s).bind fun p => some (.nx, ρ, p.2)
  | .freeze i => match ρ[i]? with
    | some (some x) => nxt (setV ρ i (freezeS x)) s
    | _ => none
  | .iff c a b => (ev ρ c s).bind fun p => (asBl p.1).bind fun t => if t then ex ρ a p.2 else ex ρ b p.2
  | .for_ tg it body => if itOwn it then none else (evI ev ρ it s).bind fun p => forL (fun ρ s => ex ρ body s) tg p.1 ρ p.2
  | .while_ c m body => whileL (fun ρ s => (ev ρ c s).bind fun p => (asBl p.1).bind fun t => some (t, p.2)) (fun ρ s => ex ρ body s) m ρ s
  | .ret none => some (.rt .non, ρ, s)
  | .ret (some e) => (ev (freezeAll ρ) e s).bind fun p => some (.rt p.1, ρ, p.2)
  | .pass => some (.nx, ρ, s)
  | .brk => some (.bk, ρ, s)
  | .cont => some (.ct, ρ, s)
  | .never => none
  | .srcSet k e => (ev ρ e s).bind fun p => match p.1, p.2 with
    | .int i, some S => some (.nx, ρ, some (S.put k i))
    | _, _ => none
  | .orNil i c => (ev ρ c s).bind fun p => (asBl p.1).bind fun b => (getOwn ρ i).bind fun _ => if b then some (.nx, ρ, p.2) else nxt (setV ρ i (.own [])) p.2
  | .srcPop => s.bind fun S => (S.cells[S.cells.length - 1]?).bind fun i => some (.nx, ρ, some { S with cells := S.cells.dropLast, left := i })
def runL (f : Env → St → S → Res) : List St → Env → S → Res
  | [], ρ, s => some (.nx, ρ, s)
  | st :: r, ρ, s => seqR (f ρ st s) fun ρ s => runL f r ρ s
/-- by so many steps deep -/
def ex (Fs : List Fn) (Gs : List Gn) (n : Nat) : Nat → Ex
  | 0 => fun _ _ _ => none
  | m + 1 => fun ρ sts s => runL (fun ρ st s => stepS (ev Fs Gs n) (ex Fs Gs n m) ρ st s) sts ρ s
/-- a def: its many names, its body -/
structure Def where
  names : Nat
  args : Nat
  body : List St
def startE (d : Def) (xs : List D) : Env := xs.map (fun x => some (.val x)) ++ List.replicate (d.names - xs.length) none
def endR : Res → Option (D × S)
  | some (.rt d, _, s) => some (d, s)
  | some (.nx, _, s) => some (.non, s)
  | _ => none
/-- what a def gives: without draws, with draws -/
def runF (Fs : List Fn) (d : Def) : Fn := fun xs => if xs.length = d.args then (endR (ex Fs [] 40 20 (startE d xs) d.body none)).map (·.1) else none
def runG (Fs : List Fn) (Gs : List Gn) (d : Def) : Gn := fun src xs => if xs.length + 1 = d.args then
  (endR (ex Fs Gs 40 20 (none :: startE ⟨d.names - 1, d.args - 1, d.body⟩ xs) d.body (some src))).bind fun p => p.2.map fun s => (p.1, s) else none
/-! ### the source of the draws -/
def mixOf (ns : List Int) : Int := ns.foldl (fun m c => (m * 69069 + c * 31 + 5) % 2147483629) 11
def srcOf (ns : List Int) : Src := ⟨(ns.map fun i => if i < 0 then -i else i).reverse, 1, mixOf ns, 0⟩
end Mini

/-! ## SndA -/
set_option Elab.async false
set_option linter.all false
set_option maxRecDepth 100000
set_option maxHeartbeats 4000000
/-! SndA: what a mini value is in the abstract heap; frames; defs that are called where nothing is being written (guards). -/
namespace Snd
open PySem PySem.Spec PyProof.Rows L2
abbrev D := Mini.D

/-! ### data in the heap -/
def kD : D → Option Key
  | .int i => some (Sum.inl i)
  | .str s => some (Sum.inr (Str.ofString s))
  | _ => none
mutual
def toPy : D → PyData
  | .non => .none
  | .bl b => .bool b
  | .int i => .int i
  | .str s => .str (Str.ofString s)
  | .lst xs => .list (toPyL xs)
  | .tup xs => .tuple (toPyL xs)
  | .dic kvs => .dict (toPyK kvs)
  | .rep d => .str (toPy d).shown
def toPyL : List D → List PyData
  | [] => []
  | x :: xs => toPy x :: toPyL xs
def toPyK : List (D × D) → List (PyData × PyData)
  | [] => []
  | (k, x) :: xs => (toPy k, toPy x) :: toPyK xs
end
mutual
/-- v is the data d: no part of it stands at an address of O -/
inductive Rp (H : Hp) (O : Addr → Prop) : V → D → Prop
  | non : Rp H O .non .non
  | bl (b : Bool) : Rp H O (.bl b) (.bl b)
  | int (i : Int) : Rp H O (.int i) (.int i)
  | str (x : String) : Rp H O (.str (Str.ofString x)) (.str x)
  | rep (d : D) : Rp H O (.str (toPy d).shown) (.rep d)
  | lst {a : Addr} {vs : List V} {ds : List D} : ¬ O a → H a = some (.lst vs) → RpL H O vs ds → Rp H O (.ref a) (.lst ds)
  | tup {a : Addr} {vs : List V} {ds : List D} : ¬ O a → H a = some (.tup vs) → RpL H O vs ds → Rp H O (.ref a) (.tup ds)
  | dic {a : Addr} {kvs : List (Key × V)} {ds : List (D × D)} : ¬ O a → Rd H a (.dK kvs) → RpK H O kvs ds → Rp H O (.ref a) (.dic ds)
inductive RpL (H : Hp) (O : Addr → Prop) : List V → List D → Prop
  | nil : RpL H O [] []
  | cons {v : V} {vs : List V} {d : D} {ds : List D} : Rp H O v d → RpL H O vs ds → RpL H O (v :: vs) (d :: ds)
inductive RpK (H : Hp) (O : Addr → Prop) : List (Key × V) → List (D × D) → Prop
  | nil : RpK H O [] []
  | cons {k : Key} {v : V} {vs : List (Key × V)} {c d : D} {ds : List (D × D)} : kD c = some k → Rp H O v d → RpK H O vs ds → RpK H O ((k, v) :: vs) ((c, d) :: ds)
end
/-- what stood, but at O, stands; of what was tracked no more is forbidden -/
structure Mo (H H' : Hp) (O O' : Addr → Prop) : Prop where
  keep : ∀ b o, H b = some o → ¬ O b → H' b = some o
  less : ∀ b o, H b = some o → O' b → O b
theorem rd_mo {H H' : Hp} {O O' : Addr → Prop} (m : Mo H H' O O') {a : Addr} {u : HO} (n : ¬ O a) (h : Rd H a u) : Rd H' a u := by
  rcases h with h | ⟨o, h⟩
  · exact .inl (m.keep _ _ h n)
  · exact .inr ⟨o, m.keep _ _ h n⟩
theorem rd_some {H : Hp} {a : Addr} {u : HO} (h : Rd H a u) : ∃ o, H a = some o := by
  rcases h with h | ⟨o, h⟩
  · exact ⟨_, h⟩
  · exact ⟨_, h⟩
section
variable {H H' : Hp} {O O' : Addr → Prop}
mutual
theorem Rp.mo (m : Mo H H' O O') : ∀ (d : D) (v : V), Rp H O v d → Rp H' O' v d
  | .non, _, h => by cases h; exact .non
  | .bl _, _, h => by cases h; exact .bl _
  | .int _, _, h => by cases h; exact .int _
  | .str _, _, h => by cases h; exact .str _
  | .rep _, _, h => by cases h; exact .rep _
  | .lst ds, _, h => by
    cases h with
    | lst n r l => exact .lst (fun z => n (m.less _ _ r z)) (m.keep _ _ r n) (RpL.mo m ds _ l)
  | .tup ds, _, h => by
    cases h with
    | tup n r l => exact .tup (fun z => n (m.less _ _ r z)) (m.keep _ _ r n) (RpL.mo m ds _ l)
  | .dic ds, _, h => by
    cases h with
    | dic n r l =>
      obtain ⟨o, e⟩ := rd_some r
      exact .dic (fun z => n (m.less _ _ e z)) (rd_mo m n r) (RpK.mo m ds _ l)
theorem RpL.mo (m : Mo H H' O O') : ∀ (ds : List D) (vs : List V), RpL H O vs ds → RpL H' O' vs ds
  | [], _, h => by cases h; exact .nil
  | d :: ds, _, h => by
    cases h with
    | cons h1 h2 => exact .cons (Rp.mo m d _ h1) (RpL.mo m ds _ h2)
theorem RpK.mo (m : Mo H H' O O') : ∀ (ds : List (D × D)) (vs : List (Key × V)), RpK H O vs ds → RpK H' O' vs ds
  | [], _, h => by cases h; exact .nil
  | (c, d) :: ds, _, h => by
    cases h with
    | cons h0 h1 h2 => exact .cons h0 (Rp.mo m d _ h1) (RpK.mo m ds _ h2)
end
end
theorem RpL.length {H : Hp} {O : Addr → Prop} : ∀ {vs : List V} {ds : List D}, RpL H O vs ds → vs.length = ds.length
  | _, _, .nil => rfl
  | _, _, .cons _ h => by rw [List.length_cons, List.length_cons, RpL.length h]
theorem RpL.append {H : Hp} {O : Addr → Prop} {ws : List V} {es : List D} (q : RpL H O ws es) : ∀ {vs : List V} {ds : List D}, RpL H O vs ds → RpL H O (vs ++ ws) (ds ++ es)
  | _, _, .nil => q
  | _, _, .cons h1 h2 => .cons h1 (RpL.append q h2)
theorem RpL.get {H : Hp} {O : Addr → Prop} : ∀ {vs : List V} {ds : List D} {k : Nat} {d : D}, RpL H O vs ds → ds[k]? = some d → ∃ v, vs[k]? = some v ∧ Rp H O v d
  | _, _, _, _, .nil, e => by simp at e
  | _, _, 0, _, .cons h1 h2, e => by simp at e; subst e; exact ⟨_, by simp, h1⟩
  | _, _, k + 1, _, .cons h1 h2, e => by
    obtain ⟨v, e1, r⟩ := RpL.get (k := k) h2 (by simpa using e)
    exact ⟨v, by simpa using e1, r⟩
theorem RpL.getV {H : Hp} {O : Addr → Prop} : ∀ {vs : List V} {ds : List D} {k : Nat} {v : V}, RpL H O vs ds → vs[k]? = some v → ∃ d, ds[k]? = some d ∧ Rp H O v d
  | _, _, _, _, .nil, e => by simp at e
  | _, _, 0, _, .cons h1 h2, e => by simp at e; subst e; exact ⟨_, by simp, h1⟩
  | _, _, k + 1, _, .cons h1 h2, e => by
    obtain ⟨v, e1, r⟩ := RpL.getV (k := k) h2 (by simpa using e)
    exact ⟨v, by simpa using e1, r⟩
theorem RpL.take {H : Hp} {O : Addr → Prop} : ∀ {vs : List V} {ds : List D} (k : Nat), RpL H O vs ds → RpL H O (vs.take k) (ds.take k)
  | _, _, 0, _ => .nil
  | _, _, k + 1, .nil => .nil
  | _, _, k + 1, .cons h1 h2 => .cons h1 (RpL.take k h2)
theorem RpL.drop {H : Hp} {O : Addr → Prop} : ∀ {vs : List V} {ds : List D} (k : Nat), RpL H O vs ds → RpL H O (vs.drop k) (ds.drop k)
  | _, _, 0, h => h
  | _, _, k + 1, .nil => .nil
  | _, _, k + 1, .cons h1 h2 => RpL.drop k h2
theorem RpL.set {H : Hp} {O : Addr → Prop} {v : V} {d : D} (q : Rp H O v d) : ∀ {vs : List V} {ds : List D} (k : Nat), RpL H O vs ds → RpL H O (vs.set k v) (ds.set k d)
  | _, _, _, .nil => .nil
  | _, _, 0, .cons h1 h2 => .cons q h2
  | _, _, k + 1, .cons h1 h2 => .cons h1 (RpL.set q k h2)
theorem RpL.reverse {H : Hp} {O : Addr → Prop} : ∀ {vs : List V} {ds : List D}, RpL H O vs ds → RpL H O vs.reverse ds.reverse
  | _, _, .nil => .nil
  | _, _, .cons h1 h2 => by
    rw [List.reverse_cons, List.reverse_cons]
    exact RpL.append (.cons h1 .nil) (RpL.reverse h2)
theorem RpL.ofInts {H : Hp} {O : Addr → Prop} : ∀ ns : List Int, RpL H O (ns.map V.int) (ns.map Mini.D.int)
  | [] => .nil
  | n :: ns => .cons (.int n) (RpL.ofInts ns)
theorem RpL.ints {H : Hp} {O : Addr → Prop} : ∀ {vs : List V} {ds : List D} {ns : List Int}, RpL H O vs ds → Mini.intsOf ds = some ns → vs = ns.map V.int
  | _, _, _, .nil, e => by simp [Mini.intsOf] at e; subst e; rfl
  | _, _, ns, .cons (d := d) (ds := ds) h1 h2, e => by
    cases d with
    | int i =>
      simp only [Mini.intsOf, Option.map_eq_some_iff] at e
      obtain ⟨l, e1, rfl⟩ := e
      cases h1
      rw [RpL.ints h2 e1]; rfl
    | _ => simp [Mini.intsOf] at e
theorem ints_map : ∀ {ds : List D} {ns : List Int}, Mini.intsOf ds = some ns → ds = ns.map Mini.D.int
  | [], ns, e => by simp [Mini.intsOf] at e; subst e; rfl
  | d :: ds, ns, e => by
    cases d with
    | int i =>
      simp only [Mini.intsOf, Option.map_eq_some_iff] at e
      obtain ⟨l, e1, rfl⟩ := e
      rw [ints_map e1]; rfl
    | _ => simp [Mini.intsOf] at e
/-- one's own list or dict may be read: its own address may be of O -/
inductive Bp (H : Hp) (O : Addr → Prop) : V → D → Prop
  | of {v : V} {d : D} : Rp H O v d → Bp H O v d
  | lst {a : Addr} {vs : List V} {ds : List D} : H a = some (.lst vs) → RpL H O vs ds → Bp H O (.ref a) (.lst ds)
  | dic {a : Addr} {kvs : List (Key × V)} {ds : List (D × D)} : Rd H a (.dK kvs) → RpK H O kvs ds → Bp H O (.ref a) (.dic ds)
theorem Bp.lstI {H : Hp} {O : Addr → Prop} {v : V} {ds : List D} (h : Bp H O v (.lst ds)) : ∃ a vs, v = .ref a ∧ H a = some (.lst vs) ∧ RpL H O vs ds := by
  cases h with
  | of h => cases h with | lst _ r l => exact ⟨_, _, rfl, r, l⟩
  | lst r l => exact ⟨_, _, rfl, r, l⟩
theorem Bp.tupI {H : Hp} {O : Addr → Prop} {v : V} {ds : List D} (h : Bp H O v (.tup ds)) : ∃ a vs, v = .ref a ∧ ¬ O a ∧ H a = some (.tup vs) ∧ RpL H O vs ds := by
  cases h with
  | of h => cases h with | tup n r l => exact ⟨_, _, rfl, n, r, l⟩
theorem Bp.dicI {H : Hp} {O : Addr → Prop} {v : V} {ds : List (D × D)} (h : Bp H O v (.dic ds)) : ∃ a kvs, v = .ref a ∧ Rd H a (.dK kvs) ∧ RpK H O kvs ds := by
  cases h with
  | of h => cases h with | dic _ r l => exact ⟨_, _, rfl, r, l⟩
  | dic r l => exact ⟨_, _, rfl, r, l⟩
theorem Bp.intI {H : Hp} {O : Addr → Prop} {v : V} {i : Int} (h : Bp H O v (.int i)) : v = .int i := by
  cases h with | of h => cases h; rfl
theorem Bp.blI {H : Hp} {O : Addr → Prop} {v : V} {i : Bool} (h : Bp H O v (.bl i)) : v = .bl i := by
  cases h with | of h => cases h; rfl
theorem Bp.strI {H : Hp} {O : Addr → Prop} {v : V} {i : String} (h : Bp H O v (.str i)) : v = .str (Str.ofString i) := by
  cases h with | of h => cases h; rfl
theorem Bp.nonI {H : Hp} {O : Addr → Prop} {v : V} (h : Bp H O v .non) : v = .non := by
  cases h with | of h => cases h; rfl
theorem Bp.repI {H : Hp} {O : Addr → Prop} {v : V} {d : D} (h : Bp H O v (.rep d)) : v = .str (toPy d).shown := by
  cases h with | of h => cases h; rfl

theorem kD_inj {a b : D} {k : Key} (h : kD a = some k) (h' : kD b = some k) : a = b := by
  cases a <;> cases b <;> simp [kD] at h h' <;> (try subst h) <;> (try simp_all)
  · rename_i s t
    have inj : ∀ l m : List Char, l.map Char.toNat = m.map Char.toNat → l = m := by
      intro l
      induction l with
      | nil => intro m e; cases m with
        | nil => rfl
        | cons _ _ => simp at e
      | cons x l ih =>
        intro m e
        cases m with
        | nil => simp at e
        | cons y m =>
          simp only [List.map_cons, List.cons.injEq] at e
          rw [Char.ext (UInt32.toNat_inj.mp e.1), ih m e.2]
    rw [Str.ofString_eq_toList, Str.ofString_eq_toList] at h'
    injection h' with h'
    have h2 := congrArg Array.toList h'
    exact (String.toList_inj.mp (inj _ _ (by simpa using h2))).symm
theorem kD_some {d : D} (h : Mini.keyD d = true) : ∃ k, kD d = some k := by
  cases d <;> first | exact ⟨_, rfl⟩ | simp [Mini.keyD] at h
theorem bp_key {H : Hp} {O : Addr → Prop} {d : D} {v : V} {k : Key} (h : Bp H O v d) (e : kD d = some k) : v = kV k := by
  cases h with
  | of h => cases h <;> simp [kD] at e <;> subst e <;> rfl
  | lst _ _ => simp [kD] at e
  | dic _ _ => simp [kD] at e
theorem RpK.look {H : Hp} {O : Addr → Prop} {d : D} {k : Key} (e : kD d = some k) : ∀ {kvs : List (Key × V)} {ds : List (D × D)}, RpK H O kvs ds → (∀ c, Mini.look d ds = some c → ∃ v, valV kvs k = some v ∧ Rp H O v c) ∧ (Mini.look d ds = none → valV kvs k = none)
  | _, _, .nil => ⟨fun c h => by simp [Mini.look] at h, fun _ => rfl⟩
  | _, _, .cons (k := k') (c := c') h0 h1 h2 => by
    obtain ⟨i1, i2⟩ := RpK.look e h2
    by_cases hk : c' = d
    · subst hk
      have ek : k' = k := Option.some.inj (h0.symm.trans e)
      subst ek
      refine ⟨fun c h => ?_, fun h => ?_⟩
      · rw [Mini.look, if_pos rfl] at h
        cases h
        exact ⟨_, valV_pos rfl, h1⟩
      · rw [Mini.look, if_pos rfl] at h
        cases h
    · have nk : ¬ k' = k := fun z => hk (kD_inj (z ▸ h0) e)
      refine ⟨fun c h => ?_, fun h => ?_⟩
      · rw [Mini.look, if_neg hk] at h
        obtain ⟨v, hv, r⟩ := i1 c h
        refine ⟨v, ?_, r⟩
        unfold valV at hv ⊢
        rw [List.find?_cons_of_neg (by simpa using nk)]
        exact hv
      · rw [Mini.look, if_neg hk] at h
        unfold valV
        rw [List.find?_cons_of_neg (by simpa using nk)]
        exact i2 h
theorem RpK.length {H : Hp} {O : Addr → Prop} : ∀ {vs : List (Key × V)} {ds : List (D × D)}, RpK H O vs ds → vs.length = ds.length
  | _, _, .nil => rfl
  | _, _, .cons _ _ h => by rw [List.length_cons, List.length_cons, RpK.length h]
theorem RpK.append {H : Hp} {O : Addr → Prop} {ws : List (Key × V)} {es : List (D × D)} (q : RpK H O ws es) : ∀ {vs : List (Key × V)} {ds : List (D × D)}, RpK H O vs ds → RpK H O (vs ++ ws) (ds ++ es)
  | _, _, .nil => q
  | _, _, .cons h0 h1 h2 => .cons h0 h1 (RpK.append q h2)
theorem RpK.any {H : Hp} {O : Addr → Prop} {d : D} {k : Key} (e : kD d = some k) : ∀ {kvs : List (Key × V)} {ds : List (D × D)}, RpK H O kvs ds → (kvs.any fun kv => decide (kv.1 = k)) = ds.any fun p => decide (p.1 = d)
  | _, _, .nil => rfl
  | _, _, .cons (k := k') (c := c') h0 h1 h2 => by
    rw [List.any_cons, List.any_cons, RpK.any e h2]
    congr 1
    by_cases hk : c' = d
    · subst hk
      have ek : k' = k := Option.some.inj (h0.symm.trans e)
      simp [ek]
    · have nk : ¬ k' = k := fun z => hk (kD_inj (z ▸ h0) e)
      simp [hk, nk]
theorem RpK.mapPut {H : Hp} {O : Addr → Prop} {d c : D} {k : Key} {v : V} (e : kD d = some k) (q : Rp H O v c) : ∀ {kvs : List (Key × V)} {ds : List (D × D)}, RpK H O kvs ds →
    RpK H O (kvs.map fun kv => if kv.1 = k then (kv.1, v) else kv) (ds.map fun p => if p.1 = d then (p.1, c) else p)
  | _, _, .nil => .nil
  | _, _, .cons (k := k') (c := c') h0 h1 h2 => by
    rw [List.map_cons, List.map_cons]
    by_cases hk : c' = d
    · subst hk
      have ek : k' = k := Option.some.inj (h0.symm.trans e)
      rw [if_pos ek, if_pos rfl]
      exact .cons h0 q (RpK.mapPut e q h2)
    · have nk : ¬ k' = k := fun z => hk (kD_inj (z ▸ h0) e)
      rw [if_neg nk, if_neg hk]
      exact .cons h0 h1 (RpK.mapPut e q h2)
theorem RpK.put {H : Hp} {O : Addr → Prop} {d c : D} {k : Key} {v : V} (e : kD d = some k) (q : Rp H O v c) {kvs : List (Key × V)} {ds : List (D × D)} (r : RpK H O kvs ds) : RpK H O (L2.putK kvs k v) (Mini.putK d c ds) := by
  unfold L2.putK Mini.putK
  rw [r.any e]
  split
  · exact r.mapPut e q
  · exact RpK.append (.cons e q .nil) r

/-! ### a def's promise, where nothing is being written -/
structure FnG (P : Program) (w : World) (K : PySem.W.Frag) (mg : Str → Option Value) (base : Heap) (k : Nat) (f : Addr) (fd : FuncData) (ps : List Str) (sp : Sp) : Prop where
  len : ∀ vs H Q E, sp vs H Q E → vs.length = ps.length
  run : ∀ (A : Around) (outer : List Env) (s : Shared) (H : Hp) (args : Args) (us : List Value) (vs : List V) (Q : VK) (E : XK), A.guards = some [] → Room k A → Env0 P w K mg base A outer s H → BindsTo s fd args (ps.zip us) → Vals vs us →
    sp vs H Q E → codeAny (model P w) A (.call (.ref f) args) (CR CX0 outer P w H s Q E) s
theorem FnG.of {P : Program} {w : World} {K : PySem.W.Frag} {mg : Str → Option Value} {base : Heap} {k : Nat} {f : Addr} {fd : FuncData} {ps : List Str} {sp : Sp} (F : FnOk P w K mg base CX0 k f fd ps sp) : FnG P w K mg base k f fd ps sp :=
  ⟨F.len, fun A outer s H args us vs Q E _ hr he hb hv hs => F.run A outer s H args us vs Q E hr he hb hv hs⟩
theorem FnG.mono {P : Program} {w : World} {K : PySem.W.Frag} {mg : Str → Option Value} {base : Heap} {j k : Nat} {f : Addr} {fd : FuncData} {ps : List Str} {sp : Sp} (F : FnG P w K mg base j f fd ps sp) (h : j ≤ k) : FnG P w K mg base k f fd ps sp :=
  ⟨F.len, fun A outer s H args us vs Q E hg hr he hb hv hs => F.run A outer s H args us vs Q E hg (hr.mono h) he hb hv hs⟩
theorem FnG.imp {P : Program} {w : World} {K : PySem.W.Frag} {mg : Str → Option Value} {base : Heap} {k : Nat} {f : Addr} {fd : FuncData} {ps : List Str} {sp sp' : Sp} (F : FnG P w K mg base k f fd ps sp) (h : ∀ vs H Q E, sp' vs H Q E → sp vs H Q E) :
    FnG P w K mg base k f fd ps sp' := ⟨fun vs H Q E q => F.len _ _ _ _ (h _ _ _ _ q), fun A outer s H args us vs Q E hg hr he hb hv hs => F.run A outer s H args us vs Q E hg hr he hb hv (h _ _ _ _ hs)⟩
/-- a def by its body -/
theorem fnG_of {P : Program} {w : World} {K : PySem.W.Frag} {mg : Str → Option Value} {base : Heap} {k : Nat} {f : Addr} {x qual : Str} {st : Stmt} {fd : FuncData} {N ps : List Str} {sp : Sp} (F : Fun K x qual st f fd) (S : FnScope N ps (defScope st))
    (len : ∀ vs H Q E, sp vs H Q E → vs.length = ps.length)
    (hbody : ∀ (cdv : Value) (A : Around) (outer : List Env) (s : Shared) (H : Hp) (vs : List V) (Q : VK) (E : XK), A.guards = some [] → Room k (A.deeper (envOfC qual (defScope st) s.heap.objs.size f cdv)) → sp vs H Q E →
      ∃ t, PSs (cxOf CX0 P w K mg base N qual (defScope st) f cdv A outer s H E).nox (defBody st) t ∧ t { nx := fun _ H' => Q .non H', rt := Q } (start N vs) H) : FnG P w K mg base (k + 1) f fd ps sp := by
  obtain ⟨oc, od, kV, doc, pm, an, cdv, ct, osl, rfl, lk, hcd⟩ := F.ex
  refine ⟨len, fun A outer s H args us vs Q E hgd room en bd vv good => ?_⟩
  have many := len _ _ _ _ good
  have inK : K.In s.heap := en.mod.kin.keeps fun b o e => (en.bs b o e).1
  have free : s.heap.NoLimit := en.mod.nolimit.keeps fun b o e => (en.bs b o e).1
  refine codeAny_call_function room.depth (inK _ _ lk) rfl S.co S.gen rfl (PySem.W.codeRec_of inK hcd) (bd _ _ _ _ ?_)
  refine wpAny_newFunctionEnv_cells S.kind (fun q hq => ?_) fun env0 isE s1 entered => ?_
  · rcases S.par q.1 (List.of_mem_zip hq).1 with z | z
    · exact .inl z
    · exact .inr ⟨z, PySem.W.cellsFrom_some _ _ _ (.inl z)⟩
  subst isE
  refine ⟨free.keeps entered.toInCall.keep, codeAny_func ?_⟩
  obtain ⟨t, ht, hq⟩ := hbody cdv A outer s H vs Q E hgd (room.deeper _) good
  have J := inv_start (CX := CX0) (E := E) (mg := mg) (qual := qual) S room.hd en many vv entered
  refine wpAny_mono (ht.nox.run [] s1 (start N vs) H _ J hq) (fun fl s' hs => ?_) fun _ _ z => z
  cases fl with
  | ret u =>
    obtain ⟨v, _, H', J', rv, q⟩ := hs
    exact ⟨v, H', J'.os, J'.bare, J'.base, J'.hok, rv, q⟩
  | next =>
    obtain ⟨_, H', J', q⟩ := hs
    exact ⟨.non, H', J'.os, J'.bare, J'.base, J'.hok, rfl, q⟩
  | brk => exact (hs.elim fun _ z => z.elim fun _ z => z.2).elim
  | cont => exact (hs.elim fun _ z => z.elim fun _ z => z.2).elim
section
variable {X : Cx} {k : Nat} {f : Addr} {fd : FuncData} {ps : List Str} {sp : Sp} {x : Str} {p pos : Pos} {e : Expr} {er : List Expr} {t : TA}
def tCallG (sp : Sp) (t : TA) : TE := fun σ H Q => t σ H fun vs H1 => sp vs H1 Q E0
/-- a call of a def by its name -/
theorem pe_callG (F : FnG X.prog X.w X.K X.mg X.base k f fd ps sp) (hgd : X.A.guards = some []) (hr : Room k X.A) (hg : Gl X x) (hm : X.mg x = some (.ref f)) (hk : PySem.W.keepIn X.K (.ref f) = true) (hb : Binds X.K fd ps [])
    (ha : PA X (e :: er) t) (hdb : (x == ("__debug__" : Str)) = false) (hpl : (backTo pos (starEach (e :: er) X.env)).any (·.1) = false) : PE X (.Call (.Name x p) (e :: er) [] pos) (tCallG sp t) := by
  refine ⟨fun pins s σ H Q I h => ?_⟩
  have goal : ∀ (us : List Value) (s1 : Shared) (vs : List V) (H1 : Hp), Inv X pins σ H1 s1 → Vals vs us → sp vs H1 Q E0 → wpAny (model X.prog X.w) X.A (call (.ref f) us) (EP X pins σ Q) X.xe s1 := by
    intro us s1 vs H1 J rv q
    have el : (us ++ []).length = ps.length := by rw [List.append_nil, ← rv.length]; exact F.len _ _ _ _ q
    have bt := hb s1 us J.kIn el
    rw [List.append_nil] at bt
    refine wpAny_call (codeAny_mono (F.run X.A X.stack s1 H1 ⟨us, []⟩ us vs Q E0 hgd hr J.env0 bt rv q) fun r s' hq => ?_)
    cases r with
    | error e => exact (show False from hq).elim
    | ok fl =>
      cases fl with
      | ret u => exact J.after hq
      | _ => exact False.elim hq
  refine wpAny_Call_Name_kw (ld_glob I hg hm ?_ hdb)
  have nst : starEach (e :: er) X.env = (false, eval e X.env) :: starEach er X.env := by
    cases e <;> first | rfl | (exfalso; simp [starEach, backTo] at hpl)
  refine PySem.W.callWith_K (h₀ := X.base) I.ok.mod.kin hk (thn (ha.run pos pins s σ H _ I h) fun us s1 ⟨vs, H1, I1, r, q⟩ => ⟨I1.kIn, ?_⟩) nst (by rw [nst] at hpl; simpa [backTo] using hpl)
  exact goal us s1 vs H1 I1 r q
end
end Snd

/-! ## SndB -/
set_option Elab.async false
set_option linter.all false
set_option maxRecDepth 100000
set_option maxHeartbeats 4000000
/-! SndB: a def's frame in the heap; what an expression of mini asks and gives. -/
namespace Snd
open PySem PySem.Spec L2
open PyProof.Rows hiding St

/-- where a def stands: the heap at its entry, what its callers keep to themselves, the draws' slot and places -/
structure Ctx where
  H0 : Hp
  O0 : Addr → Prop
  sa : Option (Nat × Addr × Addr)
  trk : ∀ a, O0 a → ∃ o, H0 a = some o ∧ ∀ vs, o ≠ .tup vs
def isSrc (C : Ctx) (a : Addr) : Prop := ∃ i p c, C.sa = some (i, p, c) ∧ (a = p ∨ a = c)
abbrev Ow := Nat → Option Addr
def OA (C : Ctx) (A : Ow) (a : Addr) : Prop := C.O0 a ∨ isSrc C a ∨ ∃ i, A i = some a
def srcK (c : Addr) (S : Mini.Src) : List (Key × V) := [(Sum.inr "cells", .ref c), (Sum.inr "left", .int S.left), (Sum.inr "mixed", .int S.mixed), (Sum.inr "turn", .int S.turn)]
def SrcAt (H : Hp) (p c : Addr) (S : Mini.Src) : Prop := p ≠ c ∧ H p = some (.dK (srcK c S)) ∧ H c = some (.lst (S.cells.map V.int))
def SrcR (C : Ctx) (σ : St) (s : Mini.S) (H : Hp) : Prop := match C.sa, s with
  | some (i, p, c), some S => σ[i]? = some (some (.ref p)) ∧ SrcAt H p c S
  | none, none => True
  | _, _ => False
def SlotR (C : Ctx) (A : Ow) (H : Hp) (i : Nat) (v : V) : Mini.Slot → Prop
  | .val d => Rp H (OA C A) v d
  | .own ds => ∃ a vs, A i = some a ∧ v = .ref a ∧ H a = some (.lst vs) ∧ RpL H (OA C A) vs ds
  | .ownd ds => ∃ a kvs, A i = some a ∧ v = .ref a ∧ H a = some (.dK kvs) ∧ RpK H (OA C A) kvs ds
/-- what stood, but the draws' own, stands -/
def Kp (C : Ctx) (H H' : Hp) : Prop := ∀ b o, H b = some o → ¬ isSrc C b → H' b = some o
theorem Kp.refl {C : Ctx} {H : Hp} : Kp C H H := fun _ _ h _ => h
theorem Kp.trans {C : Ctx} {H H1 H2 : Hp} (a : Kp C H H1) (b : Kp C H1 H2) : Kp C H H2 := fun c o h n => b c o (a c o h n) n
theorem Kp.of {C : Ctx} {H H' : Hp} (e : Same H H') : Kp C H H' := fun b o h _ => e b o h
structure FR (C : Ctx) (A : Ow) (ρ : Mini.Env) (s : Mini.S) (σ : St) (H : Hp) : Prop where
  len : ρ.length = σ.length
  slot : ∀ i x, ρ[i]? = some (some x) → ∃ v, σ[i]? = some (some v) ∧ SlotR C A H i v x
  inj : ∀ i j a, A i = some a → A j = some a → i = j
  own : ∀ i a, A i = some a → C.H0 a = none ∧ ¬ isSrc C a ∧ ∃ o, H a = some o ∧ ∀ vs, o ≠ .tup vs
  keep : Kp C C.H0 H
  src : SrcR C σ s H
  fin : ∃ k, ∀ i, k ≤ i → A i = none

section
variable {C : Ctx} {A : Ow} {ρ : Mini.Env} {s s' : Mini.S} {σ : St} {H H' : Hp}
theorem FR.srcT (F : FR C A ρ s σ H) {a : Addr} (h : isSrc C a) : ∃ o, H a = some o ∧ ∀ vs, o ≠ .tup vs := by
  obtain ⟨i, p, c, e, h⟩ := h
  have z := F.src
  unfold SrcR at z
  rw [e] at z
  cases s with
  | none => exact z.elim
  | some S =>
    obtain ⟨_, _, h1, h2⟩ := z
    rcases h with rfl | rfl
    · exact ⟨_, h1, fun _ q => nomatch q⟩
    · exact ⟨_, h2, fun _ q => nomatch q⟩
/-- what is forbidden is tracked, and no tuple -/
theorem FR.trk (F : FR C A ρ s σ H) {a : Addr} (h : OA C A a) : ∃ o, H a = some o ∧ ∀ vs, o ≠ .tup vs := by
  by_cases hs : isSrc C a
  · exact F.srcT hs
  rcases h with h | h | ⟨i, h⟩
  · obtain ⟨o, e, n⟩ := C.trk a h
    exact ⟨o, F.keep _ _ e hs, n⟩
  · exact absurd h hs
  · exact (F.own i a h).2.2
theorem FR.notO (F : FR C A ρ s σ H) {p : Addr} (h : H p = none) : ¬ OA C A p := fun z => by
  obtain ⟨o, e, _⟩ := F.trk z
  rw [h] at e
  cases e
theorem FR.notT (F : FR C A ρ s σ H) {p : Addr} {vs : List V} (h : H p = some (.tup vs)) : ¬ OA C A p := fun z => by
  obtain ⟨o, e, n⟩ := F.trk z
  rw [h] at e
  cases e
  exact n vs rfl
theorem mo_kp (k : Kp C H H') : Mo H H' (OA C A) (OA C A) := ⟨fun b o e n => k b o e fun z => n (.inr (.inl z)), fun _ _ _ z => z⟩
theorem FR.back (F : FR C A ρ s' σ H') (k : Kp C H H') {p : Addr} (h : H' p = none) : H p = none := by
  cases e : H p with
  | none => rfl
  | some o =>
    by_cases hs : isSrc C p
    · obtain ⟨u, q, _⟩ := F.srcT hs
      rw [h] at q
      cases q
    · rw [k p o e hs] at h
      cases h
/-- the heap has grown; the draws have moved -/
theorem FR.step (F : FR C A ρ s σ H) (k : Kp C H H') (hs : SrcR C σ s' H') : FR C A ρ s' σ H' where
  len := F.len
  slot := fun i x e => by
    obtain ⟨v, h1, h2⟩ := F.slot i x e
    refine ⟨v, h1, ?_⟩
    cases x with
    | val d => exact Rp.mo (mo_kp k) _ _ h2
    | own ds =>
      obtain ⟨a, vs, ha, e1, e2, r⟩ := h2
      exact ⟨a, vs, ha, e1, k _ _ e2 (F.own i a ha).2.1, RpL.mo (mo_kp k) _ _ r⟩
    | ownd ds =>
      obtain ⟨a, vs, ha, e1, e2, r⟩ := h2
      exact ⟨a, vs, ha, e1, k _ _ e2 (F.own i a ha).2.1, RpK.mo (mo_kp k) _ _ r⟩
  inj := F.inj
  own := fun i a e => by
    obtain ⟨h1, h2, o, h3, h4⟩ := F.own i a e
    exact ⟨h1, h2, o, k _ _ h3 h2, h4⟩
  keep := F.keep.trans k
  src := hs
  fin := F.fin
theorem SrcR.same (e : Same H H') : SrcR C σ s H → SrcR C σ s H' := by
  unfold SrcR
  split
  · rintro ⟨h3, h4, h5, h6⟩
    exact ⟨h3, h4, e _ _ h5, e _ _ h6⟩
  · exact id
  · exact id
theorem FR.same (F : FR C A ρ s σ H) (e : Same H H') : FR C A ρ s σ H' := F.step (.of e) (SrcR.same e F.src)
end
/-- a value that may be new: a list or dict is, and nothing else leads to it -/
def Nw (H H' : Hp) (O : Addr → Prop) (v : V) : D → Prop
  | .lst ds => ∃ p vs, v = .ref p ∧ H p = none ∧ H' p = some (.lst vs) ∧ RpL H' (fun a => O a ∨ a = p) vs ds
  | .dic ds => ∃ p kvs, v = .ref p ∧ H p = none ∧ H' p = some (.dK kvs) ∧ RpK H' (fun a => O a ∨ a = p) kvs ds
  | d => Rp H' O v d
theorem mo_less {H : Hp} {O O' : Addr → Prop} (h : ∀ a, O' a → O a) : Mo H H O O' := ⟨fun _ _ e _ => e, fun _ _ _ z => h _ z⟩
theorem Nw.rp {H H' : Hp} {O : Addr → Prop} {v : V} {d : D} (h : Nw H H' O v d) (hO : ∀ p, H p = none → ¬ O p) : Rp H' O v d := by
  cases d with
  | lst ds =>
    obtain ⟨p, vs, rfl, h1, h2, h3⟩ := h
    exact .lst (hO p h1) h2 (RpL.mo (mo_less fun _ z => .inl z) _ _ h3)
  | dic ds =>
    obtain ⟨p, vs, rfl, h1, h2, h3⟩ := h
    exact .dic (hO p h1) (.inl h2) (RpK.mo (mo_less fun _ z => .inl z) _ _ h3)
  | _ => exact h
/-- reading of an expression: f tells the data and the draws behind it -/
abbrev Fe := Mini.Env → Mini.S → Option (D × Mini.S)
def tE (C : Ctx) (f : Fe) : TE := fun σ H Q => ∃ A ρ s d s', FR C A ρ s σ H ∧ f ρ s = some (d, s') ∧ ∀ v H', FR C A ρ s' σ H' → Kp C H H' → Rp H' (OA C A) v d → Q v H'
/-- an operand's value: it may be one's own list or dict -/
def Bq (C : Ctx) (A : Ow) (H : Hp) (v : V) (d : D) : Prop := Bp H (OA C A) v d ∧ ∀ a, v = .ref a → ¬ isSrc C a
theorem rp_notO {H : Hp} {O : Addr → Prop} {a : Addr} {d : D} (h : Rp H O (.ref a) d) : ¬ O a := by
  cases h <;> assumption
theorem Bq.of {C : Ctx} {A : Ow} {H : Hp} {v : V} {d : D} (h : Rp H (OA C A) v d) : Bq C A H v d := ⟨.of h, fun a e z => by
  subst e
  exact rp_notO h (.inr (.inl z))⟩
theorem Bq.kp {C : Ctx} {A : Ow} {H H' : Hp} {v : V} {d : D} (k : Kp C H H') (h : Bq C A H v d) : Bq C A H' v d := by
  obtain ⟨h, n⟩ := h
  refine ⟨?_, n⟩
  cases h with
  | of h => exact .of (Rp.mo (mo_kp k) _ _ h)
  | lst e r => exact .lst (k _ _ e (n _ rfl)) (RpL.mo (mo_kp k) _ _ r)
  | dic e r =>
    refine .dic ?_ (RpK.mo (mo_kp k) _ _ r)
    rcases e with e | ⟨o, e⟩
    · exact .inl (k _ _ e (n _ rfl))
    · exact .inr ⟨o, k _ _ e (n _ rfl)⟩
def tA (C : Ctx) (f : Fe) : TE := fun σ H Q => ∃ A ρ s d s', FR C A ρ s σ H ∧ f ρ s = some (d, s') ∧ ∀ v H', FR C A ρ s' σ H' → Kp C H H' → Bq C A H' v d → Q v H'
def tN (C : Ctx) (f : Fe) : TE := fun σ H Q => ∃ A ρ s d s', FR C A ρ s σ H ∧ f ρ s = some (d, s') ∧ ∀ v H', FR C A ρ s' σ H' → Kp C H H' → Nw H H' (OA C A) v d → Q v H'
def tB (C : Ctx) (f : Mini.Env → Mini.S → Option (Bool × Mini.S)) : TT := fun σ H Q => ∃ A ρ s b s', FR C A ρ s σ H ∧ f ρ s = some (b, s') ∧ ∀ H', FR C A ρ s' σ H' → Kp C H H' → Q b H'
abbrev Fl := Mini.Env → Mini.S → Option (List D × Mini.S)
def tL (C : Ctx) (f : Fl) : TA := fun σ H Q => ∃ A ρ s ds s', FR C A ρ s σ H ∧ f ρ s = some (ds, s') ∧ ∀ vs H', FR C A ρ s' σ H' → Kp C H H' → RpL H' (OA C A) vs ds → Q vs H'
theorem pe_imp {X : Cx} {e : Expr} {t u : TE} (h : PE X e t) (i : ∀ σ H Q, u σ H Q → t σ H Q) : PE X e u := ⟨fun pins s σ H Q I q => h.run pins s σ H Q I (i σ H Q q)⟩
theorem pt_imp {X : Cx} {e : Expr} {t u : TT} (h : PT X e t) (i : ∀ σ H Q, u σ H Q → t σ H Q) : PT X e u := ⟨fun pins s σ H Q I q => h.run pins s σ H Q I (i σ H Q q)⟩
theorem pa_imp {X : Cx} {e : List Expr} {t u : TA} (h : PA X e t) (i : ∀ σ H Q, u σ H Q → t σ H Q) : PA X e u := ⟨fun pos pins s σ H Q I q => h.run pos pins s σ H Q I (i σ H Q q)⟩
theorem ps_imp {X : Cx} {e : Stmt} {t u : TS} (h : PS X e t) (i : ∀ D σ H, u D σ H → t D σ H) : PS X e u := ⟨fun pins s σ H D I q => h.run pins s σ H D I (i D σ H q)⟩
theorem pss_imp {X : Cx} {e : List Stmt} {t u : TS} (h : PSs X e t) (i : ∀ D σ H, u D σ H → t D σ H) : PSs X e u := ⟨fun pins s σ H D I q => h.run pins s σ H D I (i D σ H q)⟩
theorem tE_A {X : Cx} {C : Ctx} {e : Expr} {f : Fe} (h : PE X e (tE C f)) : PE X e (tA C f) := pe_imp h fun σ H Q ⟨A, ρ, s, d, s', F, e, q⟩ => ⟨A, ρ, s, d, s', F, e, fun v H' F' k r => q v H' F' k (.of r)⟩
theorem tN_E {X : Cx} {C : Ctx} {e : Expr} {f : Fe} (h : PE X e (tN C f)) : PE X e (tE C f) := pe_imp h fun σ H Q ⟨A, ρ, s, d, s', F, e, q⟩ => ⟨A, ρ, s, d, s', F, e, fun v H' F' k r => q v H' F' k (r.rp fun p hp => F.notO hp)⟩
/-- the same function -/
theorem tE_eq {X : Cx} {C : Ctx} {e : Expr} {f g : Fe} (h : PE X e (tE C f)) (i : ∀ ρ s r, g ρ s = some r → f ρ s = some r) : PE X e (tE C g) := pe_imp h fun σ H Q ⟨A, ρ, s, d, s', F, e, q⟩ => ⟨A, ρ, s, d, s', F, i _ _ _ e, q⟩
theorem tN_eq {X : Cx} {C : Ctx} {e : Expr} {f g : Fe} (h : PE X e (tN C f)) (i : ∀ ρ s r, g ρ s = some r → f ρ s = some r) : PE X e (tN C g) := pe_imp h fun σ H Q ⟨A, ρ, s, d, s', F, e, q⟩ => ⟨A, ρ, s, d, s', F, i _ _ _ e, q⟩
/-- two operands, then an operation by values -/
def rD (O : Addr → Prop) (f : D → D → Option D) : R2 := fun x y H Q => ∃ d e r, Bp H O x d ∧ Bp H O y e ∧ f d e = some r ∧ (∀ a, O a → ∃ o, H a = some o ∧ ∀ vs, o ≠ .tup vs) ∧ ∀ v H', Same H H' → Nw H H' O v r → Q v H'
end Snd

/-! ## SndC -/
set_option Elab.async false
set_option linter.all false
set_option maxRecDepth 100000
set_option maxHeartbeats 4000000
/-! SndC: operations on data, by values. -/
namespace Snd
open PySem PySem.Spec L2
open PyProof.Rows hiding St

theorem lim_line {n : Nat} (h : n ≤ Mini.LIM) : n ≤ sizeLine := Nat.le_trans h (by rw [sizeLine_eq]; decide)
theorem opr_imp {X : Cx} {f : Value → Value → Sem Value} {r r' : R2} (h : OpR X f r) (i : ∀ x y H Q, r' x y H Q → r x y H Q) : OpR X f r' := fun pins s σ H x y v u Q I rx ry q => h pins s σ H x y v u Q I rx ry (i _ _ _ _ q)
theorem same_upd {H : Hp} {p : Addr} {o : HO} (h : H p = none) : Same H (upd H p o) := fun b u e => by
  rw [upd_ne (ne_of_none e h)]
  exact e
abbrev Trk (H : Hp) (O : Addr → Prop) : Prop := ∀ a, O a → ∃ o, H a = some o ∧ ∀ vs, o ≠ .tup vs
theorem Trk.no {H : Hp} {O : Addr → Prop} (t : Trk H O) {p : Addr} (h : H p = none) : ¬ O p := fun z => by
  obtain ⟨o, e, _⟩ := t p z
  rw [h] at e
  cases e
/-- a new list -/
theorem nw_lst {H : Hp} {O : Addr → Prop} {p : Addr} {vs : List V} {ds : List D} (h : H p = none) (r : RpL H O vs ds) : Nw H (upd H p (.lst vs)) O (.ref p) (.lst ds) :=
  ⟨p, vs, rfl, h, upd_same, RpL.mo ⟨fun b o e _ => same_upd h b o e, fun b o e z => z.elim id fun z => by rw [z, h] at e; cases e⟩ _ _ r⟩
theorem nw_dic {H : Hp} {O : Addr → Prop} {p : Addr} {vs : List (Key × V)} {ds : List (D × D)} (h : H p = none) (r : RpK H O vs ds) : Nw H (upd H p (.dK vs)) O (.ref p) (.dic ds) :=
  ⟨p, vs, rfl, h, upd_same, RpK.mo ⟨fun b o e _ => same_upd h b o e, fun b o e z => z.elim id fun z => by rw [z, h] at e; cases e⟩ _ _ r⟩
theorem rp_tup {H : Hp} {O : Addr → Prop} {p : Addr} {vs : List V} {ds : List D} (t : Trk H O) (h : H p = none) (r : RpL H O vs ds) : Rp (upd H p (.tup vs)) O (.ref p) (.tup ds) :=
  .tup (t.no h) upd_same (RpL.mo ⟨fun b o e _ => same_upd h b o e, fun _ _ _ z => z⟩ _ _ r)
theorem rp_nw {H H' : Hp} {O : Addr → Prop} {v : V} {d : D} (h : Rp H' O v d) (n : (∀ l, d ≠ .lst l) ∧ ∀ l, d ≠ .dic l) : Nw H H' O v d := by
  cases d with
  | lst l => exact absurd rfl (n.1 l)
  | dic l => exact absurd rfl (n.2 l)
  | _ => exact h
theorem RpL.rep {H : Hp} {O : Addr → Prop} {vs : List V} {ds : List D} (r : RpL H O vs ds) : ∀ k : Nat, RpL H O (List.replicate k vs).flatten (Mini.rpt k ds)
  | 0 => .nil
  | k + 1 => by
    unfold Mini.rpt
    rw [List.replicate_succ, List.replicate_succ, List.flatten_cons, List.flatten_cons]
    exact RpL.append (RpL.rep r k) r

section
variable {X : Cx} {O : Addr → Prop}
def opB : Mini.BO → Operator
  | .add => .Add | .sub => .Sub | .mul => .Mult | .fdiv => .FloorDiv | .mod => .Mod | .pow => .Pow | .shl => .LShift | .bxor => .BitXor | .band => .BitAnd
theorem op_bin (o : Mini.BO) : OpR X (binaryOp (opB o)) (rD O (Mini.binD o)) := by
  intro pins s σ H x y v u Q I rx ry ⟨d, e, r, hx, hy, hf, ht, q⟩
  have num : ∀ {i j k : Int}, d = .int i → e = .int j → r = .int k → x = .int i ∧ y = .int j ∧ Q (.int k) H := by
    rintro i j k rfl rfl rfl
    exact ⟨hx.intI, hy.intI, q _ _ (Same.refl H) (Rp.int k)⟩
  cases o with
  | add =>
    unfold Mini.binD at hf
    split at hf
    case h_1 i j _ =>
      cases hf
      obtain ⟨e1, e2, q⟩ := num rfl rfl rfl
      exact op_add pins s σ H x y v u Q I rx ry ⟨_, _, e1, e2, q⟩
    case h_2 a b _ =>
      unfold Mini.capL at hf
      split at hf
      case isFalse => cases hf
      case isTrue hl =>
      cases hf
      obtain ⟨p1, vs, e1, h1, r1⟩ := hx.lstI
      obtain ⟨p2, ws, e2, h2, r2⟩ := hy.lstI
      refine op_cat pins s σ H x y v u Q I rx ry ⟨p1, p2, vs, ws, e1, e2, h1, h2, ?_, fun p hp => q _ _ (same_upd hp) (nw_lst hp (RpL.append r2 r1))⟩
      rw [r1.length, r2.length, ← List.length_append]
      exact lim_line hl
    case h_3 a b _ =>
      unfold Mini.capL at hf
      split at hf
      case isFalse => cases hf
      case isTrue hl =>
      cases hf
      obtain ⟨p1, vs, e1, n1, h1, r1⟩ := hx.tupI
      obtain ⟨p2, ws, e2, n2, h2, r2⟩ := hy.tupI
      refine op_catA pins s σ H x y v u Q I rx ry ⟨p1, p2, vs, ws, e1, e2, SqT.of h1, SqT.of h2, ?_, fun z => ?_, fun z1 z2 => ?_, fun z1 z2 p hp => q _ _ (same_upd hp) (rp_tup ht hp (RpL.append r2 r1))⟩
      · rw [r1.length, r2.length, ← List.length_append]
        exact lim_line hl
      · subst z
        cases r1
        exact q _ _ (Same.refl H) (Rp.tup n2 h2 r2)
      · subst z2
        cases r2
        rw [List.append_nil] at q
        exact q _ _ (Same.refl H) (Rp.tup n1 h1 r1)
    all_goals (exfalso; simp_all; done)
  | sub =>
    unfold Mini.binD at hf
    split at hf
    all_goals first | (exfalso; simp_all; done) | skip
    cases hf
    obtain ⟨e1, e2, q⟩ := num rfl rfl rfl
    exact op_sub pins s σ H x y v u Q I rx ry ⟨_, _, e1, e2, q⟩
  | mul =>
    unfold Mini.binD at hf
    split at hf
    all_goals first | (exfalso; simp_all; done) | skip
    all_goals (split at hf; case isFalse => cases hf)
    all_goals (rename_i hc; cases hf)
    · obtain ⟨e1, e2, q⟩ := num rfl rfl rfl
      exact op_mul pins s σ H x y v u Q I rx ry ⟨_, _, e1, e2, hc, q⟩
    · obtain ⟨p1, vs, e1, h1, r1⟩ := hx.lstI
      refine op_rep pins s σ H x y v u Q I rx ry ⟨p1, _, vs, e1, hy.intI, h1, by omega, by omega, ?_, fun p hp => q _ _ (same_upd hp) (nw_lst hp (RpL.rep r1 _))⟩
      rw [r1.length]
      exact lim_line hc.2.2
    · obtain ⟨p1, vs, e1, n1, h1, r1⟩ := hx.tupI
      have hl := r1.length
      refine op_repT pins s σ H x y v u Q I rx ry ⟨p1, _, vs, e1, hy.intI, SqT.of h1, fun z => ?_, hc.2.1, hc.2.2.1, by omega, fun p hp => q _ _ (same_upd hp) (rp_tup ht hp (RpL.rep r1 _))⟩
      rw [z] at hl
      exact hc.1 (List.eq_nil_of_length_eq_zero hl.symm)
  | fdiv =>
    unfold Mini.binD at hf
    split at hf
    all_goals first | (exfalso; simp_all; done) | skip
    split at hf
    case isFalse => cases hf
    rename_i hc
    cases hf
    obtain ⟨e1, e2, q⟩ := num rfl rfl rfl
    exact op_fdiv pins s σ H x y v u Q I rx ry ⟨_, _, e1, e2, hc, q⟩
  | mod =>
    unfold Mini.binD at hf
    split at hf
    all_goals first | (exfalso; simp_all; done) | skip
    split at hf
    case isFalse => cases hf
    rename_i hc
    cases hf
    obtain ⟨e1, e2, q⟩ := num rfl rfl rfl
    exact op_mod pins s σ H x y v u Q I rx ry ⟨_, _, e1, e2, hc, q⟩
  | pow =>
    unfold Mini.binD at hf
    split at hf
    all_goals first | (exfalso; simp_all; done) | skip
    split at hf
    case isFalse => cases hf
    rename_i hc
    cases hf
    obtain ⟨e1, e2, q⟩ := num rfl rfl rfl
    exact op_pow pins s σ H x y v u Q I rx ry ⟨_, _, e1, e2, ⟨hc.1, by omega, hc.2.2⟩, q⟩
  | shl =>
    unfold Mini.binD at hf
    split at hf
    all_goals first | (exfalso; simp_all; done) | skip
    split at hf
    case isFalse => cases hf
    rename_i hc
    cases hf
    obtain ⟨e1, e2, q⟩ := num rfl rfl rfl
    exact op_shl pins s σ H x y v u Q I rx ry ⟨_, _, e1, e2, ⟨hc.1, by omega, hc.2.2⟩, q⟩
  | bxor =>
    unfold Mini.binD at hf
    split at hf
    all_goals (exfalso; simp_all; done)
  | band =>
    unfold Mini.binD at hf
    split at hf
    all_goals (exfalso; simp_all; done)
end
end Snd

/-! ## SndD -/
set_option Elab.async false
set_option linter.all false
set_option autoImplicit false
set_option maxRecDepth 100000
set_option maxHeartbeats 4000000
/-! SndD: comparisons of data, by values. -/
namespace Snd
open PySem PySem.Spec L2
open PyProof.Rows hiding St

theorem ofString_inj {a b : String} (h : Str.ofString a = Str.ofString b) : a = b := by
  rw [Str.ofString_eq_toList, Str.ofString_eq_toList] at h
  injection h with h
  have h2 : a.toList.map Char.toNat = b.toList.map Char.toNat := by
    have := congrArg Array.toList h
    simpa using this
  have inj : ∀ l m : List Char, l.map Char.toNat = m.map Char.toNat → l = m := by
    intro l
    induction l with
    | nil => intro m e; cases m with
      | nil => rfl
      | cons _ _ => simp at e
    | cons x l ih =>
      intro m e
      cases m with
      | nil => simp at e
      | cons y m =>
        simp only [List.map_cons, List.cons.injEq] at e
        have hx : x = y := Char.ext (UInt32.toNat_inj.mp e.1)
        rw [hx, ih m e.2]
  exact String.toList_inj.mp (inj _ _ h2)
theorem strOk_of (a : String) : PyData.strOk (Str.ofString a) = true := by
  unfold PyData.strOk
  rw [Str.ofString_eq_toList, Array.all_eq_true']
  intro x hx
  simp only [List.mem_toArray, List.mem_map] at hx
  obtain ⟨c, _, rfl⟩ := hx
  have h := c.valid
  simp only [UInt32.isValidChar, Nat.isValidChar] at h
  refine decide_eq_true ?_
  show c.val.toNat < 1114112
  omega
theorem str_beq (a b : String) : (Str.ofString a == Str.ofString b) = (a == b) := by
  by_cases h : a = b
  · subst h; simp
  · have h2 : Str.ofString a ≠ Str.ofString b := fun e => h (ofString_inj e)
    rw [beq_eq_false_iff_ne.mpr h, beq_eq_false_iff_ne.mpr h2]
mutual
theorem rp_dp {K : PySem.W.Frag} {H : Hp} {O : Addr → Prop} : ∀ (d : D) (v : V), Rp H O v d → Mini.hasDic d = false → Dp K H v (toPy d)
  | .non, _, h, _ => by cases h; exact .non
  | .bl _, _, h, _ => by cases h; exact .bl _
  | .int _, _, h, _ => by cases h; exact .int _
  | .str _, _, h, _ => by cases h; exact .str _
  | .rep _, _, h, n => by simp [Mini.hasDic] at n
  | .lst ds, _, h, n => by cases h with | lst _ r l => exact .lst (SqL.of r) (rpL_dp ds _ l n)
  | .tup ds, _, h, n => by cases h with | tup _ r l => exact .tup (SqT.of r) (rpL_dp ds _ l n)
  | .dic _, _, h, n => by simp [Mini.hasDic] at n
theorem rpL_dp {K : PySem.W.Frag} {H : Hp} {O : Addr → Prop} : ∀ (ds : List D) (vs : List V), RpL H O vs ds → Mini.hasDicL ds = false → DpAll K H vs (toPyL ds)
  | [], _, h, _ => by cases h; exact .nil
  | d :: ds, _, h, n => by
    rw [Mini.hasDicL, Bool.or_eq_false_iff] at n
    cases h with
    | cons h1 h2 => exact .cons (rp_dp d _ h1 n.1) (rpL_dp ds _ h2 n.2)
end
theorem bp_dp {K : PySem.W.Frag} {H : Hp} {O : Addr → Prop} {d : D} {v : V} (h : Bp H O v d) (n : Mini.hasDic d = false) : Dp K H v (toPy d) := by
  cases h with
  | of h => exact rp_dp _ _ h n
  | lst e r => exact .lst (SqL.of e) (rpL_dp _ _ r n)
  | dic e r => simp [Mini.hasDic] at n
mutual
theorem lay_py : ∀ d : D, Mini.hasDic d = false → PyData.canLay0 (toPy d) = true
  | .non, _ => rfl
  | .bl _, _ => rfl
  | .int _, _ => rfl
  | .str s, _ => strOk_of s
  | .rep _, n => by simp [Mini.hasDic] at n
  | .lst ds, n => layL_py ds n
  | .tup ds, n => layL_py ds n
  | .dic _, n => by simp [Mini.hasDic] at n
theorem layL_py : ∀ ds : List D, Mini.hasDicL ds = false → PyData.canLayAll0 (toPyL ds) = true
  | [], _ => rfl
  | d :: ds, n => by
    rw [Mini.hasDicL, Bool.or_eq_false_iff] at n
    show (PyData.canLay0 (toPy d) && PyData.canLayAll0 (toPyL ds)) = true
    rw [lay_py d n.1, layL_py ds n.2]; rfl
end
mutual
theorem dep_py : ∀ d : D, (toPy d).depth = Mini.dep d
  | .non => rfl
  | .bl _ => rfl
  | .int _ => rfl
  | .str s => rfl
  | .rep _ => rfl
  | .lst ds => congrArg (· + 1) (depL_py ds)
  | .tup ds => congrArg (· + 1) (depL_py ds)
  | .dic ds => congrArg (· + 1) (depK_py ds)
theorem depL_py : ∀ ds : List D, PyData.depthAll (toPyL ds) = Mini.depL ds
  | [] => rfl
  | d :: ds => by
    show max (toPy d).depth (PyData.depthAll (toPyL ds)) = max (Mini.dep d) (Mini.depL ds)
    rw [dep_py d, depL_py ds]
theorem depK_py : ∀ ds : List (D × D), PyData.depthKv (toPyK ds) = Mini.depK ds
  | [] => rfl
  | (k, d) :: ds => by
    show max (max (toPy k).depth (toPy d).depth) (PyData.depthKv (toPyK ds)) = max (max (Mini.dep k) (Mini.dep d)) (Mini.depK ds)
    rw [dep_py k, dep_py d, depK_py ds]
end
mutual
theorem eqv_py : ∀ (d e : D) (b : Bool), Mini.eqD d e = some b → PyData.eqv (toPy d) (toPy e) = b
  | .non, e, b, h => by cases e <;> simp_all [Mini.eqD, toPy, PyData.eqv]
  | .bl _, e, b, h => by cases e <;> simp_all [Mini.eqD, toPy, PyData.eqv, Mini.b2i]
  | .int _, e, b, h => by cases e <;> simp_all [Mini.eqD, toPy, PyData.eqv, Mini.b2i]
  | .str s, e, b, h => by
    cases e with
    | str t =>
      simp only [Mini.eqD, Option.some.injEq] at h
      show (Str.ofString s == Str.ofString t) = b
      rw [str_beq, h]
    | _ => simp_all [Mini.eqD, toPy, PyData.eqv]
  | .rep _, e, b, h => by cases e <;> simp [Mini.eqD] at h
  | .dic _, e, b, h => by cases e <;> simp [Mini.eqD] at h
  | .lst xs, e, b, h => by
    cases e with
    | lst ys => exact eqvL_py xs ys b (by simpa [Mini.eqD] using h)
    | _ => simp_all [Mini.eqD, toPy, PyData.eqv]
  | .tup xs, e, b, h => by
    cases e with
    | tup ys => exact eqvL_py xs ys b (by simpa [Mini.eqD] using h)
    | _ => simp_all [Mini.eqD, toPy, PyData.eqv]
theorem eqvL_py : ∀ (ds es : List D) (b : Bool), Mini.eqL ds es = some b → PyData.eqvAll (toPyL ds) (toPyL es) = b
  | [], es, b, h => by cases es <;> simp_all [Mini.eqL, toPyL, PyData.eqvAll]
  | d :: ds, es, b, h => by
    cases es with
    | nil => simp_all [Mini.eqL, toPyL, PyData.eqvAll]
    | cons e es =>
      rw [Mini.eqL] at h
      split at h
      · rename_i p q h1 h2
        cases h
        show (PyData.eqv (toPy d) (toPy e) && PyData.eqvAll (toPyL ds) (toPyL es)) = _
        rw [eqv_py d e _ h1, eqvL_py ds es _ h2]
      · cases h
end
theorem shaped_py {d : D} (n : Mini.hasDic d = false) (h : Mini.dep d ≤ 60) : SeqAt.shaped (toPy d) = true := by
  unfold SeqAt.shaped
  rw [lay_py d n, dep_py]
  exact decide_eq_true (Nat.le_trans h (by decide))
theorem flat_py {H : Hp} {O : Addr → Prop} {d : D} {v : V} (h : Rp H O v d) (f : Mini.flat d = true) : flatV v = true := by
  cases h <;> first | rfl | simp [Mini.flat] at f
theorem bp_flat {H : Hp} {O : Addr → Prop} {d : D} {v : V} (h : Bp H O v d) (f : Mini.flat d = true) : Rp H O v d := by
  cases h with
  | of h => exact h
  | lst _ _ => simp [Mini.flat] at f
  | dic _ _ => simp [Mini.flat] at f
theorem flatL_py {H : Hp} {O : Addr → Prop} : ∀ {ds : List D} {vs : List V}, RpL H O vs ds → ds.all Mini.flat = true → vs.all flatV = true
  | _, _, .nil, _ => rfl
  | _, _, .cons h1 h2, f => by
    rw [List.all_cons, Bool.and_eq_true] at f
    rw [List.all_cons, flat_py h1 f.1, flatL_py h2 f.2]; rfl
theorem eqV_py {H : Hp} {O : Addr → Prop} {d e : D} {v u : V} {b : Bool} (h : Rp H O v d) (k : Rp H O u e) (fd : Mini.flat d = true) (fe : Mini.flat e = true) (q : Mini.eqD d e = some b) : eqV v u = b := by
  cases h <;> cases k <;> first | (simp [Mini.flat] at fd; done) | (simp [Mini.flat] at fe; done) | (simp_all [Mini.eqD, eqV, Mini.b2i, str_beq]; done)
theorem inV_py {H : Hp} {O : Addr → Prop} {d : D} {v : V} (h : Rp H O v d) (fd : Mini.flat d = true) : ∀ {ds : List D} {vs : List V} {b : Bool}, RpL H O vs ds → ds.all Mini.flat = true → Mini.inL d ds = some b → inV v vs = b
  | _, _, b, .nil, _, q => by simp [Mini.inL] at q; subst q; rfl
  | _, _, b, .cons h1 h2, f, q => by
    rw [List.all_cons, Bool.and_eq_true] at f
    rw [Mini.inL] at q
    split at q
    · rename_i x y q1 q2
      cases q
      show (eqV _ v || inV v _) = _
      rw [eqV_py h1 h f.1 fd q1, inV_py h fd h2 f.2 q2]
    · cases q
theorem rp_ints {H : Hp} {O : Addr → Prop} {ds : List D} {vs : List V} {ns : List Int} (r : RpL H O vs ds) (e : Mini.intsOf ds = some ns) : vs = ns.map V.int := RpL.ints r e
theorem ht_lex : ∀ a b : List Int, HT.lexLt a b = Mini.lexLt a b
  | [], [] => rfl
  | [], _ :: _ => rfl
  | _ :: _, [] => rfl
  | x :: a, y :: b => by
    show (if x = y then HT.lexLt a b else decide (x < y)) = (if x = y then Mini.lexLt a b else decide (x < y))
    rw [ht_lex a b]
theorem toPyL_ints : ∀ ns : List Int, toPyL (ns.map Mini.D.int) = ns.map PyData.int
  | [] => rfl
  | n :: ns => congrArg (PyData.int n :: ·) (toPyL_ints ns)
theorem toks_lex : ∀ a b : List Int, PyProof.Rows.lexLt PyProof.Rows.itemOrd (PySem.W.keyToksAll (a.map PyData.int)) (PySem.W.keyToksAll (b.map PyData.int)) = Mini.lexLt a b
  | [], [] => by
    show PyProof.Rows.lexLt PyProof.Rows.itemOrd [.inl 0] [.inl 0] = false
    rw [PyProof.Rows.lex_self]; rfl
  | [], y :: b => by
    show PyProof.Rows.lexLt PyProof.Rows.itemOrd [.inl 0] (.inl 1 :: _) = true
    rw [PyProof.Rows.lex_diff (O := PyProof.Rows.itemOrd) (by intro h; injection h with h; exact absurd h (by decide))]; rfl
  | x :: a, [] => by
    show PyProof.Rows.lexLt PyProof.Rows.itemOrd (.inl 1 :: _) [.inl 0] = false
    rw [PyProof.Rows.lex_diff (O := PyProof.Rows.itemOrd) (by intro h; injection h with h; exact absurd h (by decide))]; rfl
  | x :: a, y :: b => by
    show PyProof.Rows.lexLt PyProof.Rows.itemOrd (.inl 1 :: .inl x :: PySem.W.keyToksAll (a.map PyData.int)) (.inl 1 :: .inl y :: PySem.W.keyToksAll (b.map PyData.int)) = if x = y then Mini.lexLt a b else decide (x < y)
    rw [PyProof.Rows.lex_self]
    by_cases h : x = y
    · subst h
      rw [PyProof.Rows.lex_self, if_pos rfl, toks_lex a b]
    · rw [if_neg h, PyProof.Rows.lex_diff (O := PyProof.Rows.itemOrd) (fun e => h (Sum.inl.inj e))]; rfl
theorem alike_ints : ∀ a b : List Int, PySem.W.alikeAll (a.map PyData.int) (b.map PyData.int) = true
  | [], _ => by cases ‹List Int› <;> rfl
  | _ :: _, [] => rfl
  | x :: a, y :: b => by
    show (true && PySem.W.alikeAll (a.map PyData.int) (b.map PyData.int)) = true
    rw [alike_ints a b]; rfl

theorem look_some {H : Hp} {O : Addr → Prop} {d : D} {k : Key} {kvs : List (Key × V)} {ds : List (D × D)} (e : kD d = some k) (r : RpK H O kvs ds) : (valV kvs k).isSome = (Mini.look d ds).isSome := by
  obtain ⟨i1, i2⟩ := RpK.look e r
  cases hl : Mini.look d ds with
  | none => rw [i2 hl]; rfl
  | some c => obtain ⟨z, ez, _⟩ := i1 _ hl; rw [ez]; rfl
section
variable {X : Cx} {O : Addr → Prop}
def opC : Mini.CO → CmpOp
  | .eq => .Eq | .ne => .NotEq | .lt => .Lt | .le => .LtE | .gt => .Gt | .ge => .GtE | .is_ => .Is | .isnot => .IsNot | .in_ => .In | .notin => .NotIn
theorem fin_b {pins : List (Addr × Obj)} {σ : St} {H : Hp} {s : Shared} {Q : VK} {k : Bool} (I : Inv X pins σ H s) (q : ∀ v H', Same H H' → Nw H H' O v (.bl k) → Q v H') : EP X pins σ Q (.bool k) s := ⟨.bl k, H, I, rfl, q _ _ (Same.refl H) (Rp.bl k)⟩
theorem all_nil (n : Nat) (e : Nat → Bool) : (List.range (min n 0)).all e = true := by simp
theorem eq_tup0 {pins : List (Addr × Obj)} {σ : St} {H : Hp} {s : Shared} {Q : VK} {a b : Addr} {vs : List V} (hu : X.A.units < cLine) (I : Inv X pins σ H s) (ha : H a = some (.tup vs)) (hb : H b = some (.tup [])) (h : EP X pins σ Q (.bool vs.isEmpty) s) :
    wpAny (model X.prog X.w) X.A (compareOp .Eq (.ref a) (.ref b)) (EP X pins σ Q) X.xe s := by
  obtain ⟨its, r, ta, _⟩ := I.tuple (SqT.of ha)
  obtain ⟨its2, r2, tb, _⟩ := I.tuple (SqT.of hb)
  cases r2
  have e : ((List.range (min its.toArray.size ([] : List Value).toArray.size)).all (fun _ => true) && its.toArray.size == ([] : List Value).toArray.size) = vs.isEmpty := by
    cases r <;> simp
  have z := SeqAt.RcAt.tuples (A := X.A) (s := s) (e := fun _ => true) (show s.heap.IsTuple a its.toArray from ta) (show s.heap.IsTuple b ([] : List Value).toArray from tb) hu fun j _ h2 => absurd h2 (Nat.not_lt_zero _)
  rw [e] at z
  exact z X.prog X.w X.xe _ h
theorem ne_tup0 {pins : List (Addr × Obj)} {σ : St} {H : Hp} {s : Shared} {Q : VK} {a b : Addr} {vs : List V} (hu : X.A.units < cLine) (I : Inv X pins σ H s) (ha : H a = some (.tup vs)) (hb : H b = some (.tup [])) (h : EP X pins σ Q (.bool (!vs.isEmpty)) s) :
    wpAny (model X.prog X.w) X.A (compareOp .NotEq (.ref a) (.ref b)) (EP X pins σ Q) X.xe s := by
  obtain ⟨its, r, ta, _⟩ := I.tuple (SqT.of ha)
  obtain ⟨its2, r2, tb, _⟩ := I.tuple (SqT.of hb)
  cases r2
  have e : ((List.range (min its.toArray.size ([] : List Value).toArray.size)).all (fun _ => true) && its.toArray.size == ([] : List Value).toArray.size) = vs.isEmpty := by
    cases r <;> simp
  have z := SeqAt.RcNeAt.tuples (A := X.A) (s := s) (e := fun _ => true) (show s.heap.IsTuple a its.toArray from ta) (show s.heap.IsTuple b ([] : List Value).toArray from tb) hu fun j _ h2 => absurd h2 (Nat.not_lt_zero _)
  rw [e] at z
  exact z X.prog X.w X.xe _ h
theorem eq_lst0 {pins : List (Addr × Obj)} {σ : St} {H : Hp} {s : Shared} {Q : VK} {a b : Addr} {vs : List V} (hu : X.A.units < cLine) (I : Inv X pins σ H s) (ha : H a = some (.lst vs)) (hb : H b = some (.lst [])) (h : EP X pins σ Q (.bool vs.isEmpty) s) :
    wpAny (model X.prog X.w) X.A (compareOp .Eq (.ref a) (.ref b)) (EP X pins σ Q) X.xe s := by
  obtain ⟨its, r, ta, _⟩ := I.list (SqL.of ha)
  obtain ⟨its2, r2, tb, _⟩ := I.list (SqL.of hb)
  cases r2
  cases r with
  | nil =>
    have z := SeqAt.RcAt.lists (A := X.A) (s := s) (e := fun _ => true) ta.isList tb.isList rfl hu fun j _ h2 => absurd h2 (Nat.not_lt_zero _)
    exact z X.prog X.w X.xe _ h
  | cons r1 r2 =>
    have z := SeqAt.RcAt.lists_lengths (A := X.A) (s := s) ta.isList tb.isList (by simp) hu
    exact z X.prog X.w X.xe _ h
theorem ne_lst0 {pins : List (Addr × Obj)} {σ : St} {H : Hp} {s : Shared} {Q : VK} {a b : Addr} {vs : List V} (hu : X.A.units < cLine) (I : Inv X pins σ H s) (ha : H a = some (.lst vs)) (hb : H b = some (.lst [])) (h : EP X pins σ Q (.bool (!vs.isEmpty)) s) :
    wpAny (model X.prog X.w) X.A (compareOp .NotEq (.ref a) (.ref b)) (EP X pins σ Q) X.xe s := by
  obtain ⟨its, r, ta, _⟩ := I.list (SqL.of ha)
  obtain ⟨its2, r2, tb, _⟩ := I.list (SqL.of hb)
  cases r2
  cases r with
  | nil =>
    have z := SeqAt.RcNeAt.lists (A := X.A) (s := s) (e := fun _ => true) ta.isList tb.isList rfl hu fun j _ h2 => absurd h2 (Nat.not_lt_zero _)
    exact z X.prog X.w X.xe _ h
  | cons r1 r2 =>
    have z := SeqAt.RcNeAt.lists_lengths (A := X.A) (s := s) ta.isList tb.isList (by simp) hu
    exact z X.prog X.w X.xe _ h
theorem reads_tup {pins : List (Addr × Obj)} {σ : St} {H : Hp} {s : Shared} {a : Addr} {ns : List Int} (I : Inv X pins σ H s) (h : H a = some (.tup (ns.map V.int))) : ∃ as, Reads s.heap (.ref a) (.tuple (ns.map PyData.int)) as := by
  have l : ∀ ns : List Int, DpAll X.K H (ns.map V.int) (ns.map PyData.int) := fun ns => by
    induction ns with
    | nil => exact .nil
    | cons n ns ih => exact .cons (.int n) ih
  exact Dp.reads I _ _ _ (Dp.tup (SqT.of h) (l ns)) rfl
theorem isE {H : Hp} {O : Addr → Prop} {vs : List V} {ds : List D} (r : RpL H O vs ds) : vs.isEmpty = ds.isEmpty := by cases r <;> rfl
def bO (x : Option Bool) : Option D := x.map .bl
theorem op_cmp (hr : Room 1 X.A) (o : Mini.CO) : OpR X (compareOp (opC o)) (rD O (fun a b => bO (Mini.cmpD o a b))) := by
  intro pins s σ H x y v u Q I rx ry ⟨d, e, r, hx, hy, hf, ht, q⟩
  have hu0 : X.A.units < cLine := hr.units0
  have hu : X.A.units + 64 < cLine := hr.units
  unfold bO at hf
  rw [Option.map_eq_some_iff] at hf
  obtain ⟨k, hf, rfl⟩ := hf
  have fin : EP X pins σ Q (.bool k) s := fin_b I q
  have gen : ∀ (op : CmpOp), op = .Eq ∨ op = .NotEq → ∀ k', (if Mini.hasDic d || Mini.hasDic e || decide (60 < Mini.dep d) || decide (60 < Mini.dep e) then none else Mini.eqD d e) = some k' → EP X pins σ Q (.bool (if op = .Eq then k' else !k')) s → wpAny (model X.prog X.w) X.A (compareOp op v u) (EP X pins σ Q) X.xe s := by
    intro op hop k' hk f
    split at hk
    · cases hk
    · rename_i hc
      simp only [Bool.or_eq_true, decide_eq_true_eq, not_or, Bool.not_eq_true] at hc
      obtain ⟨⟨⟨c1, c2⟩, c3⟩, c4⟩ := hc
      obtain ⟨as, r1⟩ := Dp.reads I _ _ _ (bp_dp (K := X.K) hx c1) rx
      obtain ⟨bs, r2⟩ := Dp.reads I _ _ _ (bp_dp (K := X.K) hy c2) ry
      have ek := eqv_py _ _ _ hk
      rcases hop with rfl | rfl
      · exact SeqAt.compareEq_shaped r1 r2 (shaped_py c1 (by omega)) (shaped_py c2 (by omega)) hu (by rw [ek]; exact f)
      · exact SeqAt.compareNe_shaped r1 r2 (shaped_py c1 (by omega)) (shaped_py c2 (by omega)) hu (by rw [ek]; exact f)
  cases o with
  | eq =>
    unfold Mini.cmpD at hf
    split at hf
    all_goals first | (exfalso; simp_all; done) | skip
    · cases hf
      obtain ⟨a, vs, rfl, _, h1, r1⟩ := hx.tupI
      obtain ⟨b, ws, rfl, _, h2, r2⟩ := hy.tupI
      cases rx; cases ry; cases r2
      exact eq_tup0 hu0 I h1 h2 (by rw [isE r1]; exact fin)
    · cases hf
      obtain ⟨a, vs, rfl, h1, r1⟩ := hx.lstI
      obtain ⟨b, ws, rfl, h2, r2⟩ := hy.lstI
      cases rx; cases ry; cases r2
      exact eq_lst0 hu0 I h1 h2 (by rw [isE r1]; exact fin)
    · split at hf
      · rename_i hs
        cases hf
        have hd := Mini.same_eq _ _ hs
        have e1 := hx.repI
        have e2 := hy.repI
        subst hd e1 e2
        exact op_eq pins s σ H _ _ v u Q I rx ry ⟨rfl, by rw [decide_eq_true rfl]; exact q _ _ (Same.refl H) (Rp.bl true)⟩
      · cases hf
    · exact gen .Eq (.inl rfl) k hf fin
  | ne =>
    unfold Mini.cmpD at hf
    split at hf
    all_goals first | (exfalso; simp_all; done) | skip
    · split at hf
      · rename_i hs
        cases hf
        have hd := Mini.same_eq _ _ hs
        have e1 := hx.repI
        have e2 := hy.repI
        subst hd e1 e2
        exact op_ne pins s σ H _ _ v u Q I rx ry ⟨rfl, by rw [decide_eq_true rfl]; exact q _ _ (Same.refl H) (Rp.bl false)⟩
      · cases hf
    · cases hf
      obtain ⟨a, vs, rfl, _, h1, r1⟩ := hx.tupI
      obtain ⟨b, ws, rfl, _, h2, r2⟩ := hy.tupI
      cases rx; cases ry; cases r2
      exact ne_tup0 hu0 I h1 h2 (by rw [isE r1]; exact fin)
    · cases hf
      obtain ⟨a, vs, rfl, h1, r1⟩ := hx.lstI
      obtain ⟨b, ws, rfl, h2, r2⟩ := hy.lstI
      cases rx; cases ry; cases r2
      exact ne_lst0 hu0 I h1 h2 (by rw [isE r1]; exact fin)
    · split at hf
      · cases hf
      · rename_i hc
        unfold Mini.notO at hf
        rw [Option.map_eq_some_iff] at hf
        obtain ⟨k', hk, rfl⟩ := hf
        exact gen .NotEq (.inr rfl) k' (by rw [if_neg hc]; exact hk) fin
  | lt =>
    unfold Mini.cmpD Mini.ltD at hf
    split at hf
    all_goals first | (exfalso; simp_all; done) | skip
    split at hf
    all_goals first | (exfalso; simp_all; done) | skip
    · cases hf
      exact op_lt pins s σ H x y v u Q I rx ry ⟨_, _, hx.intI, hy.intI, q _ _ (Same.refl H) (Rp.bl _)⟩
    · simp only [Option.bind_eq_some_iff, Option.some.injEq] at hf
      obtain ⟨a, ea, b, eb, rfl⟩ := hf
      obtain ⟨p, vs, e1, _, h1, r1⟩ := hx.tupI
      obtain ⟨p2, ws, e2, _, h2, r2⟩ := hy.tupI
      rw [rp_ints r1 ea] at h1
      rw [rp_ints r2 eb] at h2
      exact op_ltT hu0 pins s σ H x y v u Q I rx ry ⟨p, p2, a, b, e1, e2, SqT.of h1, SqT.of h2, by rw [ht_lex]; exact q _ _ (Same.refl H) (Rp.bl _)⟩
  | le =>
    unfold Mini.cmpD Mini.leD at hf
    split at hf
    all_goals first | (exfalso; simp_all; done) | skip
    split at hf
    all_goals first | (exfalso; simp_all; done) | skip
    · cases hf
      exact op_le pins s σ H x y v u Q I rx ry ⟨_, _, hx.intI, hy.intI, q _ _ (Same.refl H) (Rp.bl _)⟩
    · simp only [Option.bind_eq_some_iff, Option.some.injEq] at hf
      obtain ⟨a, ea, b, eb, rfl⟩ := hf
      obtain ⟨p, vs, e1, _, h1, r1⟩ := hx.tupI
      obtain ⟨p2, ws, e2, _, h2, r2⟩ := hy.tupI
      rw [rp_ints r1 ea] at h1
      rw [rp_ints r2 eb] at h2
      subst e1 e2
      cases rx; cases ry
      obtain ⟨as, q1⟩ := reads_tup I h1
      obtain ⟨bs, q2⟩ := reads_tup I h2
      have dl : ∀ l : List Int, PyData.depthAll (l.map PyData.int) = 0 := fun l => by
        induction l with
        | nil => rfl
        | cons n l ih => show max 0 _ = 0; rw [ih]; rfl
      have z := PySem.W.rcLe_alike _ _ X.A s _ _ _ _ q1 q2 (show PySem.W.alikeAll _ _ = true from alike_ints a b) (by simp) (by
        show X.A.units + min (PyData.depthAll _ + 1) (PyData.depthAll _ + 1) < cLine
        rw [dl, dl]
        show X.A.units + 1 < cLine
        omega)
      exact z X.prog X.w X.xe _ (by rw [show PySem.W.dataLt (.tuple (b.map PyData.int)) (.tuple (a.map PyData.int)) = Mini.lexLt b a from toks_lex b a]; exact fin)
  | gt =>
    unfold Mini.cmpD at hf
    split at hf
    all_goals first | (exfalso; simp_all; done) | skip
    cases hf
    exact op_gt pins s σ H x y v u Q I rx ry ⟨_, _, hx.intI, hy.intI, q _ _ (Same.refl H) (Rp.bl _)⟩
  | ge =>
    unfold Mini.cmpD at hf
    split at hf
    all_goals first | (exfalso; simp_all; done) | skip
    cases hf
    exact op_ge pins s σ H x y v u Q I rx ry ⟨_, _, hx.intI, hy.intI, q _ _ (Same.refl H) (Rp.bl _)⟩
  | is_ =>
    unfold Mini.cmpD at hf
    split at hf
    all_goals first | (exfalso; simp_all; done) | skip
    · refine op_isN pins s σ H x y v u Q I rx ry ⟨hy.nonI, ?_⟩
      have : decide (x = V.non) = k := by
        cases hf
        cases hx with
        | of h => cases h <;> simp
        | lst _ _ => simp
        | dic _ _ => simp
      rw [this]
      exact q _ _ (Same.refl H) (Rp.bl _)
    · cases hf
      exact op_isBl pins s σ H x y v u Q I rx ry ⟨_, _, hx.blI, hy.blI, by rw [← Bool.beq_eq_decide_eq]; exact q _ _ (Same.refl H) (Rp.bl _)⟩
  | isnot =>
    unfold Mini.cmpD at hf
    split at hf
    all_goals first | (exfalso; simp_all; done) | skip
    · refine op_notN pins s σ H x y v u Q I rx ry ⟨hy.nonI, ?_⟩
      have : (!decide (x = V.non)) = k := by
        cases hf
        cases hx with
        | of h => cases h <;> simp
        | lst _ _ => simp
        | dic _ _ => simp
      rw [this]
      exact q _ _ (Same.refl H) (Rp.bl _)
    · cases hf
      exact op_notBl pins s σ H x y v u Q I rx ry ⟨_, _, hx.blI, hy.blI, by rw [← Bool.beq_eq_decide_eq]; exact q _ _ (Same.refl H) (Rp.bl _)⟩
  | in_ =>
    unfold Mini.cmpD at hf
    split at hf
    all_goals first | (exfalso; simp_all; done) | skip
    · unfold Mini.inD at hf
      split at hf
      case isFalse => cases hf
      rename_i hc
      rw [Bool.and_eq_true] at hc
      obtain ⟨a, vs, e1, _, h1, r1⟩ := hy.tupI
      have hx' := bp_flat hx hc.1
      exact op_in_seq pins s σ H x y v u Q I rx ry ⟨a, vs, e1, .inr (SqT.of h1), flat_py hx' hc.1, flatL_py r1 hc.2, by rw [inV_py hx' hc.1 r1 hc.2 hf]; exact q _ _ (Same.refl H) (Rp.bl _)⟩
    · unfold Mini.inD at hf
      split at hf
      case isFalse => cases hf
      rename_i hc
      rw [Bool.and_eq_true] at hc
      obtain ⟨a, vs, e1, h1, r1⟩ := hy.lstI
      have hx' := bp_flat hx hc.1
      exact op_in_seq pins s σ H x y v u Q I rx ry ⟨a, vs, e1, .inl (SqL.of h1), flat_py hx' hc.1, flatL_py r1 hc.2, by rw [inV_py hx' hc.1 r1 hc.2 hf]; exact q _ _ (Same.refl H) (Rp.bl _)⟩
    · split at hf
      case isFalse => cases hf
      rename_i hc
      cases hf
      obtain ⟨k, ek⟩ := kD_some hc
      obtain ⟨a, kvs, e1, h1, r1⟩ := hy.dicI
      have ex := bp_key hx ek
      subst e1 ex
      cases ry
      refine d_in (by omega) I (o := valV kvs k) (.inl ⟨kvs, k, h1, rfl, rfl⟩) rx fun s' I' => ?_
      rw [look_some ek r1]
      exact fin_b I' q
  | notin =>
    unfold Mini.cmpD at hf
    split at hf
    all_goals first | (exfalso; simp_all; done) | skip
    · unfold Mini.inD at hf
      split at hf
      case isFalse => simp [Mini.notO] at hf
      rename_i hc
      rw [Bool.and_eq_true] at hc
      unfold Mini.notO at hf
      rw [Option.map_eq_some_iff] at hf
      obtain ⟨k', hf, rfl⟩ := hf
      obtain ⟨a, vs, e1, _, h1, r1⟩ := hy.tupI
      have hx' := bp_flat hx hc.1
      exact op_notIn_seq pins s σ H x y v u Q I rx ry ⟨a, vs, e1, .inr (SqT.of h1), flat_py hx' hc.1, flatL_py r1 hc.2, by rw [inV_py hx' hc.1 r1 hc.2 hf]; exact q _ _ (Same.refl H) (Rp.bl _)⟩
    · unfold Mini.inD at hf
      split at hf
      case isFalse => simp [Mini.notO] at hf
      rename_i hc
      rw [Bool.and_eq_true] at hc
      unfold Mini.notO at hf
      rw [Option.map_eq_some_iff] at hf
      obtain ⟨k', hf, rfl⟩ := hf
      obtain ⟨a, vs, e1, h1, r1⟩ := hy.lstI
      have hx' := bp_flat hx hc.1
      exact op_notIn_seq pins s σ H x y v u Q I rx ry ⟨a, vs, e1, .inl (SqL.of h1), flat_py hx' hc.1, flatL_py r1 hc.2, by rw [inV_py hx' hc.1 r1 hc.2 hf]; exact q _ _ (Same.refl H) (Rp.bl _)⟩
    · split at hf
      case isFalse => cases hf
      rename_i hc
      cases hf
      obtain ⟨k, ek⟩ := kD_some hc
      obtain ⟨a, kvs, e1, h1, r1⟩ := hy.dicI
      have ex := bp_key hx ek
      subst e1 ex
      cases ry
      refine d_notIn (by omega) I (o := valV kvs k) (.inl ⟨kvs, k, h1, rfl, rfl⟩) rx fun s' I' => ?_
      rw [look_some ek r1]
      exact fin_b I' q
end
end Snd

/-! ## SndE -/
set_option Elab.async false
set_option linter.all false
set_option autoImplicit false
set_option maxRecDepth 100000
set_option maxHeartbeats 4000000
/-! SndE: items, slices, built-in functions of data, by values. -/
namespace Snd
open PySem PySem.Spec L2
open PyProof.Rows hiding St
section
variable {X : Cx} {O : Addr → Prop}
/-! ### items -/
theorem ix_dict (hu : X.A.units + 1 < cLine) : IxR X (fun x y H Q => ∃ a v, x = .ref a ∧ DGet H a y (some v) ∧ Q v H) := by
  intro value slice pins s σ H x y v u Q I rx ry ⟨a, z, ex, g, q⟩ hs
  subst ex
  cases rx
  exact tail_any (dict_typeIs I g) PySem.F.slot_dict_getitem.lookup (d_getItem hu I g ry fun w' s3 I3 rw' => ⟨z, H, I3, rw', q⟩) hs
theorem ixN_eq (n : Nat) (i : Int) : L2.ixN n i = Mini.ixN n i := by
  unfold L2.ixN Mini.ixN
  by_cases h : 0 ≤ i
  · rw [if_pos h, if_pos h]
  · rw [if_neg h, if_neg h]
    by_cases h2 : -(n : Int) ≤ i
    · rw [if_pos h2, if_pos (by omega)]
    · rw [if_neg h2, if_neg (by omega)]
/-- an operation that gives a part, or what is not new -/
def rDE (O : Addr → Prop) (f : D → D → Option D) : R2 := fun x y H Q => ∃ d e r, Bp H O x d ∧ Bp H O y e ∧ f d e = some r ∧ Trk H O ∧ ∀ v H', Same H H' → Rp H' O v r → Q v H'
theorem ix_data (hr : Room 1 X.A) : IxR X (rDE O Mini.idxD) := by
  intro value slice pins s σ H x y v u Q I rx ry ⟨d, e, r, hx, hy, hf, ht, q⟩ hs
  have hu : X.A.units + 64 < cLine := hr.units
  have fin : ∀ {w : V}, Rp H O w r → Q w H := fun h => q _ _ (Same.refl H) h
  unfold Mini.idxD at hf
  split at hf
  · rw [Option.bind_eq_some_iff] at hf
    obtain ⟨k, hk, hg⟩ := hf
    obtain ⟨a, vs, e1, h1, r1⟩ := hx.lstI
    obtain ⟨w, hw, rw'⟩ := r1.get hg
    exact ix_list value slice pins s σ H x y v u Q I rx ry ⟨a, vs, _, w, e1, hy.intI, SqL.of h1, by unfold atI; rw [ixN_eq, r1.length, hk]; exact hw, fin rw'⟩ hs
  · rw [Option.bind_eq_some_iff] at hf
    obtain ⟨k, hk, hg⟩ := hf
    obtain ⟨a, vs, e1, _, h1, r1⟩ := hx.tupI
    obtain ⟨w, hw, rw'⟩ := r1.get hg
    exact ix_tup value slice pins s σ H x y v u Q I rx ry ⟨a, vs, _, w, e1, hy.intI, SqT.of h1, by unfold atI; rw [ixN_eq, r1.length, hk]; exact hw, fin rw'⟩ hs
  · split at hf
    case isFalse => cases hf
    rename_i hc
    obtain ⟨k, ek⟩ := kD_some hc
    obtain ⟨a, kvs, e1, h1, r1⟩ := hx.dicI
    obtain ⟨w, hw, rw'⟩ := (RpK.look ek r1).1 _ hf
    exact ix_dict (by omega) value slice pins s σ H x y v u Q I rx ry ⟨a, w, e1, .inl ⟨kvs, k, h1, bp_key hy ek, hw.symm⟩, fin rw'⟩ hs
  · cases hf
/-! ### slices -/
theorem bnd_eq (n d : Nat) (x : Option Int) : HT.sIx n d x = Mini.bnd n d x := by cases x <;> rfl
theorem cut_eq {H : Hp} {vs : List V} {ds : List D} (r : RpL H O vs ds) (lo hi : Option Int) : RpL H O (cutV vs lo hi) (Mini.cut ds lo hi) := by
  unfold cutV Mini.cut
  rw [bnd_eq, bnd_eq, r.length, ← List.drop_take]
  exact RpL.drop _ (RpL.take _ r)
def part (x : Option D) : Option (Option Int) := match x with
  | none => some none
  | some (.int i) => if -(2 ^ 62) < i ∧ i < 2 ^ 62 then some (some i) else none
  | _ => none
def rSlD (O : Addr → Prop) : V → Option Int → Option Int → Hp → VK → Prop := fun x lo hi H Q => ∃ d r, Bp H O x d ∧ (match d with | .lst xs => some (Mini.D.lst (Mini.cut xs lo hi)) | .tup xs => some (.tup (Mini.cut xs lo hi)) | _ => none) = some r ∧ Trk H O ∧ ∀ v H', Same H H' → Nw H H' O v r → Q v H'
theorem cut_all {xs : List D} {lo hi : Option Int} (h : HT.sIx xs.length 0 lo = 0 ∧ HT.sIx xs.length xs.length hi = xs.length) : Mini.cut xs lo hi = xs := by
  rw [bnd_eq, bnd_eq] at h
  unfold Mini.cut
  rw [h.1, h.2]
  simp
theorem sl_data : SlR X (rSlD O) := by
  intro pins s σ H x v vl vu lo hi sl Q I rx hs pl pu ⟨d, r, hx, hf, ht, q⟩
  cases d with
  | lst xs =>
    cases hf
    obtain ⟨a, vs, e1, h1, r1⟩ := hx.lstI
    exact sl_list pins s σ H x v vl vu lo hi sl Q I rx hs pl pu ⟨a, vs, e1, SqL.of h1, fun p hp => q _ _ (same_upd hp) (nw_lst hp (cut_eq r1 lo hi))⟩
  | tup xs =>
    cases hf
    obtain ⟨a, vs, e1, n1, h1, r1⟩ := hx.tupI
    refine sl_tupA pins s σ H x v vl vu lo hi sl Q I rx hs pl pu ⟨a, vs, e1, SqT.of h1, fun w => ?_, fun w p hp => q _ _ (same_upd hp) (rp_tup ht hp (cut_eq r1 lo hi))⟩
    rw [r1.length] at w
    have z := cut_all w
    exact q _ _ (Same.refl H) (by rw [z]; exact Rp.tup n1 h1 r1)
  | _ => cases hf

/-! ### functions of one value -/
def rF1 (O : Addr → Prop) (f : D → Option D) : List V → Hp → VK → Prop := fun xs H Q => ∃ v d r, xs = [v] ∧ Bp H O v d ∧ f d = some r ∧ Trk H O ∧ ∀ v' H', Same H H' → Nw H H' O v' r → Q v' H'
theorem callr_imp {f : Value} {r r' : List V → Hp → VK → Prop} (h : CallR X f r) (i : ∀ xs H Q, r' xs H Q → r xs H Q) : CallR X f r' := fun pins s σ H xs us Q I rx q => h pins s σ H xs us Q I rx (i _ _ _ q)
theorem call_len_dic : CallR X (.builtin "len") (fun xs H Q => ∃ p kvs, xs = [.ref p] ∧ Rd H p (.dK kvs) ∧ Q (.int kvs.length) H) := by
  intro pins s σ H xs us Q I rx ⟨p, kvs, e, h, q⟩
  subst e
  obtain ⟨u, eu, ru⟩ := vals1 rx
  subst eu
  cases ru
  exact d_len I h fun t s' I' => ⟨.int kvs.length, H, I', ⟨t, rfl⟩, q⟩
theorem f1_len : CallR X (.builtin "len") (rF1 O (Mini.f1D .len)) := by
  intro pins s σ H xs us Q I rx ⟨v, d, r, e, hx, hf, ht, q⟩
  have fin : ∀ n : Nat, r = .int n → Q (.int n) H := fun n z => by
    subst z
    exact q _ _ (Same.refl H) (Rp.int _)
  unfold Mini.f1D at hf
  split at hf
  all_goals first | (exfalso; simp_all; done) | skip
  · cases hf
    obtain ⟨a, vs, rfl, h1, r1⟩ := hx.lstI
    exact call_len_seq pins s σ H xs us Q I rx ⟨a, vs, e, .inl (SqL.of h1), by rw [r1.length]; exact fin _ rfl⟩
  · cases hf
    obtain ⟨a, vs, rfl, _, h1, r1⟩ := hx.tupI
    exact call_len_seq pins s σ H xs us Q I rx ⟨a, vs, e, .inr (SqT.of h1), by rw [r1.length]; exact fin _ rfl⟩
  · cases hf
    obtain ⟨a, vs, rfl, h1, r1⟩ := hx.dicI
    exact call_len_dic pins s σ H xs us Q I rx ⟨a, vs, e, h1, by rw [r1.length]; exact fin _ rfl⟩
theorem f1_tuple : CallR X (.type "tuple") (rF1 O (Mini.f1D .tuple)) := by
  intro pins s σ H xs us Q I rx ⟨v, d, r, e, hx, hf, ht, q⟩
  unfold Mini.f1D at hf
  split at hf
  all_goals first | (exfalso; simp_all; done) | skip
  · cases hf
    obtain ⟨a, vs, rfl, h1, r1⟩ := hx.lstI
    exact call_tuple_of pins s σ H xs us Q I rx ⟨a, vs, e, .inl ⟨SqL.of h1, fun p hp => q _ _ (same_upd hp) (rp_tup ht hp r1)⟩⟩
  · cases hf
    obtain ⟨a, vs, rfl, n1, h1, r1⟩ := hx.tupI
    exact call_tuple_of pins s σ H xs us Q I rx ⟨a, vs, e, .inr ⟨SqT.of h1, q _ _ (Same.refl H) (Rp.tup n1 h1 r1)⟩⟩
theorem rpL_keys {H : Hp} : ∀ {kvs : List (Key × V)} {ds : List (D × D)}, RpK H O kvs ds → RpL H O (kvs.map fun kv => kV kv.1) (ds.map (·.1))
  | _, _, .nil => .nil
  | _, _, .cons (c := c) h0 h1 h2 => .cons (by
      cases c <;> simp [kD] at h0 <;> subst h0
      · exact .int _
      · exact .str _) (rpL_keys h2)
theorem f1_list (hc : X.calm = true) : CallR X (.type "list") (rF1 O (fun d => match d with | .dic _ => none | d => Mini.f1D .list d)) := by
  intro pins s σ H xs us Q I rx ⟨v, d, r, e, hx, hf, ht, q⟩
  cases d with
  | lst l =>
    cases hf
    obtain ⟨a, vs, rfl, h1, r1⟩ := hx.lstI
    exact call_list_of pins s σ H xs us Q I rx ⟨a, vs, e, .inl (SqL.of h1), fun p hp => q _ _ (same_upd hp) (nw_lst hp r1)⟩
  | tup l =>
    cases hf
    obtain ⟨a, vs, rfl, _, h1, r1⟩ := hx.tupI
    exact call_list_of pins s σ H xs us Q I rx ⟨a, vs, e, .inr (SqT.of h1), fun p hp => q _ _ (same_upd hp) (nw_lst hp r1)⟩
  | _ => simp [Mini.f1D] at hf
theorem f1_abs : CallR X (.builtin "abs") (rF1 O (Mini.f1D .abs)) := by
  intro pins s σ H xs us Q I rx ⟨v, d, r, e, hx, hf, ht, q⟩
  cases d <;> simp [Mini.f1D] at hf
  subst hf
  exact call_abs pins s σ H xs us Q I rx ⟨_, by rw [e, hx.intI], q _ _ (Same.refl H) (Rp.int _)⟩
theorem f1_int : CallR X (.type "int") (rF1 O (Mini.f1D .int)) := by
  intro pins s σ H xs us Q I rx ⟨v, d, r, e, hx, hf, ht, q⟩
  cases d <;> simp [Mini.f1D] at hf <;> subst hf
  · exact call_int1 pins s σ H xs us Q I rx (.inr ⟨_, by rw [e, hx.blI], q _ _ (Same.refl H) (Rp.int _)⟩)
  · exact call_int1 pins s σ H xs us Q I rx (.inl ⟨_, by rw [e, hx.intI], q _ _ (Same.refl H) (Rp.int _)⟩)
theorem rp_bls {H : Hp} : ∀ {vs : List V} {ds : List D} {bs : List Bool}, RpL H O vs ds → Mini.bls ds = some bs → vs = bs.map V.bl
  | _, _, _, .nil, e => by simp [Mini.bls] at e; subst e; rfl
  | _, _, bs, .cons (d := d) (ds := ds) h1 h2, e => by
    cases d with
    | bl i =>
      simp only [Mini.bls, Option.map_eq_some_iff] at e
      obtain ⟨l, e1, rfl⟩ := e
      cases h1
      rw [rp_bls h2 e1]; rfl
    | _ => simp [Mini.bls] at e
theorem f1_all (hc : X.calm = true) : CallR X (.builtin "all") (rF1 O (Mini.f1D .all)) := by
  intro pins s σ H xs us Q I rx ⟨v, d, r, e, hx, hf, ht, q⟩
  cases d with
  | lst l =>
    simp only [Mini.f1D, Option.map_eq_some_iff] at hf
    obtain ⟨bs, eb, rfl⟩ := hf
    obtain ⟨a, vs, rfl, h1, r1⟩ := hx.lstI
    rw [rp_bls r1 eb] at h1
    exact cr_all hc pins s σ H xs us Q I rx ⟨a, bs, e, SqL.of h1, q _ _ (Same.refl H) (Rp.bl _)⟩
  | _ => simp [Mini.f1D] at hf
theorem sum_tup (hc : X.calm = true) : CallR X (.builtin "sum") (fun xs H Q => ∃ (a : Addr) (ns : List Int), xs = [.ref a] ∧ SqT X.K H a (ns.map V.int) ∧ Q (.int ns.sum) H) := by
  intro pins s σ H xs us Q I rx ⟨a, ns, e, h, q⟩
  subst e
  obtain ⟨u, eu, ru⟩ := vals1 rx
  subst eu
  cases ru
  obtain ⟨its, rv, ta, _⟩ := I.tuple h
  obtain ⟨xs, ei⟩ := rv.ints.allInts.items
  have hn : numsOf (intItems xs).toList = ns := by rw [← ei]; exact rv.ints.numsOf
  rw [nums_intItems] at hn
  have ht : s.heap.IsTuple a (intItems xs) := by rw [← ei]; exact ta
  have hlt : a < s.heap.objs.size := by obtain ⟨_, e, _⟩ := ht; exact Heap.lt_size e
  have hne : a ≠ s.heap.objs.size := Nat.ne_of_lt hlt
  refine PySem.call_sum_walkG (wpAny_pyIter_tuple ht ?_)
  refine ⟨_, _, _, _, _, _, numAt xs, rfl, Walks.tuple (A := X.A.in1) (I.ok.hd hc) s.heap.objs.size a hne (intItems xs), ⟨⟨_, Heap.get?_push_size _ rfl, rfl, rfl⟩, ?_⟩, fun b hb => ?_, (fun _ _ => intItems_at), fun h' tk t' hk => ?_⟩
  · obtain ⟨o, h1, h2⟩ := ht
    exact ⟨o, Heap.get?_push_of_some _ h1, h2⟩
  · show b < (s.heap.push _).objs.size
    rw [Heap.size_push]
    simp only [List.mem_cons, List.not_mem_nil, or_false] at hb
    rcases hb with rfl | rfl
    · exact Nat.lt_succ_self _
    · exact Nat.lt_succ_of_lt hlt
  · have k : ∀ b o, s.heap.get? b = some o → h'.get? b = some o := fun b o e => hk b o (by
      simp only [List.mem_cons, List.not_mem_nil, or_false]
      exact Nat.ne_of_lt (Heap.lt_size e)) (Heap.get?_push_of_some _ e)
    refine ⟨.int ns.sum, H, I.kept k, ⟨t', ?_⟩, q⟩
    have e2 : preSum (numAt xs) (intItems xs).size = ns.sum := by
      rw [preSum_eq, List.take_of_length_le (by simp [intItems]), hn]
    rw [e2]
theorem f1_sum (hc : X.calm = true) : CallR X (.builtin "sum") (rF1 O (Mini.f1D .sum)) := by
  intro pins s σ H xs us Q I rx ⟨v, d, r, e, hx, hf, ht, q⟩
  cases d with
  | lst l =>
    simp only [Mini.f1D, Option.map_eq_some_iff] at hf
    obtain ⟨ns, eb, rfl⟩ := hf
    obtain ⟨a, vs, rfl, h1, r1⟩ := hx.lstI
    rw [rp_ints r1 eb] at h1
    exact cr_sum hc pins s σ H xs us Q I rx ⟨a, ns, e, SqL.of h1, q _ _ (Same.refl H) (Rp.int _)⟩
  | tup l =>
    simp only [Mini.f1D, Option.map_eq_some_iff] at hf
    obtain ⟨ns, eb, rfl⟩ := hf
    obtain ⟨a, vs, rfl, _, h1, r1⟩ := hx.tupI
    rw [rp_ints r1 eb] at h1
    exact sum_tup hc pins s σ H xs us Q I rx ⟨a, ns, e, SqT.of h1, q _ _ (Same.refl H) (Rp.int _)⟩
  | _ => simp [Mini.f1D] at hf
end
end Snd

/-! ## SndF -/
set_option Elab.async false
set_option linter.all false
set_option autoImplicit false
set_option maxRecDepth 100000
set_option maxHeartbeats 4000000
/-! SndF: more functions of data: max, min, sorted, repr, isinstance, index, count, dict. -/
namespace Snd
open PySem PySem.Spec L2
open PyProof.Rows hiding St
section
variable {X : Cx} {O : Addr → Prop}
theorem foldl_max : ∀ (l : List Int) (x : Int), (l.foldl (fun a b => if b > a then b else a) x) ∈ x :: l ∧ ∀ y ∈ x :: l, y ≤ l.foldl (fun a b => if b > a then b else a) x
  | [], x => by simp
  | z :: l, x => by
    rw [List.foldl_cons]
    obtain ⟨h1, h2⟩ := foldl_max l (if z > x then z else x)
    refine ⟨?_, fun y hy => ?_⟩
    · rcases List.mem_cons.mp h1 with h | h
      · rw [h]
        split <;> simp
      · exact List.mem_cons_of_mem _ (List.mem_cons_of_mem _ h)
    · have hh := h2 _ List.mem_cons_self
      rcases List.mem_cons.mp hy with h | h
      · subst h
        have : y ≤ (if z > y then z else y) := by split <;> omega
        omega
      · rcases List.mem_cons.mp h with h | h
        · subst h
          have : y ≤ (if y > x then y else x) := by split <;> omega
          omega
        · exact h2 y (List.mem_cons_of_mem _ h)
theorem foldl_min : ∀ (l : List Int) (x : Int), (l.foldl (fun a b => if b < a then b else a) x) ∈ x :: l ∧ ∀ y ∈ x :: l, l.foldl (fun a b => if b < a then b else a) x ≤ y
  | [], x => by simp
  | z :: l, x => by
    rw [List.foldl_cons]
    obtain ⟨h1, h2⟩ := foldl_min l (if z < x then z else x)
    refine ⟨?_, fun y hy => ?_⟩
    · rcases List.mem_cons.mp h1 with h | h
      · rw [h]
        split <;> simp
      · exact List.mem_cons_of_mem _ (List.mem_cons_of_mem _ h)
    · have hh := h2 _ List.mem_cons_self
      rcases List.mem_cons.mp hy with h | h
      · subst h
        have : (if z < y then z else y) ≤ y := by split <;> omega
        omega
      · rcases List.mem_cons.mp h with h | h
        · subst h
          have : (if y < x then y else x) ≤ y := by split <;> omega
          omega
        · exact h2 y (List.mem_cons_of_mem _ h)
theorem maxL_of {ns : List Int} {m : Int} (h : Mini.maxL ns = some m) : 0 < ns.length ∧ ∀ k, k ∈ ns → (∀ y, y ∈ ns → y ≤ k) → k = m := by
  cases ns with
  | nil => cases h
  | cons x l =>
    simp only [Mini.maxL, Option.some.injEq] at h
    obtain ⟨h1, h2⟩ := foldl_max l x
    rw [h] at h1 h2
    exact ⟨by simp, fun k hk hy => Int.le_antisymm (h2 k hk) (hy m h1)⟩
theorem minL_of {ns : List Int} {m : Int} (h : Mini.minL ns = some m) : 0 < ns.length ∧ ∀ k, k ∈ ns → (∀ y, y ∈ ns → k ≤ y) → k = m := by
  cases ns with
  | nil => cases h
  | cons x l =>
    simp only [Mini.minL, Option.some.injEq] at h
    obtain ⟨h1, h2⟩ := foldl_min l x
    rw [h] at h1 h2
    exact ⟨by simp, fun k hk hy => Int.le_antisymm (hy m h1) (h2 k hk)⟩
theorem max_tup (hc : X.calm = true) : CallR X (.builtin "max") (fun xs H Q => ∃ (a : Addr) (ns : List Int), xs = [.ref a] ∧ SqT X.K H a (ns.map V.int) ∧ 0 < ns.length ∧ ∀ m, m ∈ ns → (∀ y, y ∈ ns → y ≤ m) → Q (.int m) H) := by
  intro pins s σ H xs us Q I rx ⟨a, ns, e, h, hne, q⟩
  subst e
  obtain ⟨u, eu, ru⟩ := vals1 rx
  subst eu
  cases ru
  obtain ⟨its, rv, ta, _⟩ := I.tuple h
  obtain ⟨xs, ei⟩ := rv.ints.allInts.items
  have hn : numsOf (intItems xs).toList = ns := by rw [← ei]; exact rv.ints.numsOf
  rw [nums_intItems] at hn
  have ht : s.heap.IsTuple a (intItems xs) := by rw [← ei]; exact ta
  have hlt : a < s.heap.objs.size := by obtain ⟨_, e, _⟩ := ht; exact Heap.lt_size e
  have hne2 : a ≠ s.heap.objs.size := Nat.ne_of_lt hlt
  have hsz : 0 < xs.size := by rw [← hn] at hne; simpa using hne
  refine PySem.call_max_walk (wpAny_pyIter_tuple ht ?_)
  refine ⟨_, _, _, _, _, _, _, rfl, Walks.tuple (A := X.A.in1) (I.ok.hd hc) s.heap.objs.size a hne2 (intItems xs), ⟨⟨_, Heap.get?_push_size _ rfl, rfl, rfl⟩, ?_⟩, fun b hb => ?_, by simpa [intItems] using hsz, CmpOf.ints_gt (numAt xs) (fun _ _ => intItems_at), fun v h' tk hv hk => ?_⟩
  · obtain ⟨o, h1, h2⟩ := ht
    exact ⟨o, Heap.get?_push_of_some _ h1, h2⟩
  · show b < (s.heap.push _).objs.size
    rw [Heap.size_push]
    simp only [List.mem_cons, List.not_mem_nil, or_false] at hb
    rcases hb with rfl | rfl
    · exact Nat.lt_succ_self _
    · exact Nat.lt_succ_of_lt hlt
  · have k : ∀ b o, s.heap.get? b = some o → h'.get? b = some o := fun b o e => hk b o (by
      simp only [List.mem_cons, List.not_mem_nil, or_false]
      exact Nat.ne_of_lt (Heap.lt_size e)) (Heap.get?_push_of_some _ e)
    have hv' : (intItems xs)[argBest (fun i j => decide (numAt xs i > numAt xs j)) (xs.size - 1)]? = some v := by simpa [intItems] using hv
    obtain ⟨t, rfl⟩ := intItems_at hv'
    obtain ⟨h1, h2⟩ := argBest_gt (numAt xs) (xs.size - 1)
    subst hn
    refine ⟨.int _, H, I.kept k, ⟨t, rfl⟩, q _ ?_ fun y hy => ?_⟩
    · rw [numAt_eq]; exact PySem.getD_mem (by rw [List.length_map, Array.length_toList]; omega)
    · obtain ⟨j, hj, rfl⟩ := mem_getD hy
      rw [← numAt_eq]
      exact h2 j (by rw [List.length_map, Array.length_toList] at hj; omega)
theorem f1_max (hc : X.calm = true) : CallR X (.builtin "max") (rF1 O (Mini.f1D .max)) := by
  intro pins s σ H xs us Q I rx ⟨v, d, r, e, hx, hf, ht, q⟩
  cases d with
  | lst l =>
    simp only [Mini.f1D, Option.map_eq_some_iff, Option.bind_eq_some_iff] at hf
    obtain ⟨m, ⟨ns, eb, em⟩, rfl⟩ := hf
    obtain ⟨a, vs, rfl, h1, r1⟩ := hx.lstI
    rw [rp_ints r1 eb] at h1
    obtain ⟨z1, z2⟩ := maxL_of em
    exact cr_max hc pins s σ H xs us Q I rx ⟨a, ns, e, SqL.of h1, z1, fun k hk hy => by rw [z2 k hk hy]; exact q _ _ (Same.refl H) (Rp.int _)⟩
  | tup l =>
    simp only [Mini.f1D, Option.map_eq_some_iff, Option.bind_eq_some_iff] at hf
    obtain ⟨m, ⟨ns, eb, em⟩, rfl⟩ := hf
    obtain ⟨a, vs, rfl, _, h1, r1⟩ := hx.tupI
    rw [rp_ints r1 eb] at h1
    obtain ⟨z1, z2⟩ := maxL_of em
    exact max_tup hc pins s σ H xs us Q I rx ⟨a, ns, e, SqT.of h1, z1, fun k hk hy => by rw [z2 k hk hy]; exact q _ _ (Same.refl H) (Rp.int _)⟩
  | _ => simp [Mini.f1D] at hf
theorem f1_min (hc : X.calm = true) : CallR X (.builtin "min") (rF1 O (fun d => match d with | .tup _ => none | d => Mini.f1D .min d)) := by
  intro pins s σ H xs us Q I rx ⟨v, d, r, e, hx, hf, ht, q⟩
  cases d with
  | lst l =>
    simp only [Mini.f1D, Option.map_eq_some_iff, Option.bind_eq_some_iff] at hf
    obtain ⟨m, ⟨ns, eb, em⟩, rfl⟩ := hf
    obtain ⟨a, vs, rfl, h1, r1⟩ := hx.lstI
    rw [rp_ints r1 eb] at h1
    obtain ⟨z1, z2⟩ := minL_of em
    exact cr_min hc pins s σ H xs us Q I rx ⟨a, ns, e, SqL.of h1, z1, fun k hk hy => by rw [z2 k hk hy]; exact q _ _ (Same.refl H) (Rp.int _)⟩
  | _ => simp [Mini.f1D] at hf
/-! ### sorted -/
theorem sortI_of {ns ns' : List Int} (p : ns'.Perm ns) (o : ns'.Pairwise (· ≤ ·)) : ns' = Mini.sortI ns := by
  have h1 : (Mini.sortI ns).Pairwise fun a b => decide (a ≤ b) = true := List.pairwise_mergeSort (fun a b c => by simp only [decide_eq_true_eq]; omega) (fun a b => by simp only [Bool.or_eq_true, decide_eq_true_eq]; omega) ns
  have h2 : (Mini.sortI ns).Perm ns := List.mergeSort_perm ns _
  refine List.Perm.eq_of_pairwise (le := fun a b => a ≤ b) (fun a b _ _ => Int.le_antisymm) o (h1.imp fun h => of_decide_eq_true h) (p.trans h2.symm)
theorem f1_sortedI : CallR X (.builtin "sorted") (rF1 O (fun d => match d with | .lst xs => (Mini.intsOf xs).map fun is => Mini.intsD (Mini.sortI is) | _ => none)) := by
  intro pins s σ H xs us Q I rx ⟨v, d, r, e, hx, hf, ht, q⟩
  cases d with
  | lst l =>
    simp only [Option.map_eq_some_iff] at hf
    obtain ⟨ns, eb, rfl⟩ := hf
    obtain ⟨a, vs, rfl, h1, r1⟩ := hx.lstI
    rw [rp_ints r1 eb] at h1
    refine cr_sortedI pins s σ H xs us Q I rx ⟨a, ns, e, SqL.of h1, fun ns' p pm o hp => q _ _ (same_upd hp) ?_⟩
    rw [sortI_of pm o]
    exact nw_lst hp (RpL.ofInts _)
  | _ => cases hf
def lotsPy (l : List (List Int)) : List PyData := l.map fun ns => PyData.tuple (ns.map PyData.int)
theorem rpL_lots {H : Hp} : ∀ {ds : List D} {vs : List V} {l : List (List Int)}, RpL H O vs ds → Mini.lotsD ds = some l → ds = l.map Mini.lotD ∧ ∀ ns ∈ l, ns ≠ []
  | _, _, l, .nil, e => by simp [Mini.lotsD] at e; subst e; simp
  | _, _, l, .cons (d := d) (ds := ds) h1 h2, e => by
    cases d with
    | tup xs =>
      simp only [Mini.lotsD] at e
      split at e
      · rename_i is l' e1 e2
        split at e
        · cases e
        · rename_i hne
          cases e
          obtain ⟨i1, i2⟩ := rpL_lots h2 e2
          refine ⟨?_, fun ns hn => ?_⟩
          · rw [List.map_cons, ← i1]
            show Mini.D.tup xs :: ds = Mini.lotD is :: ds
            unfold Mini.lotD
            rw [ints_map e1]
          · rcases List.mem_cons.mp hn with h | h
            · rw [h]; exact hne
            · exact i2 ns h
      · cases e
    | _ => simp [Mini.lotsD] at e
theorem lexLe_eq (a b : List Int) : PySem.W.dataLe false (fun ns : List Int => PyData.tuple (ns.map PyData.int)) a b = !Mini.lexLt b a := by
  show (!PySem.W.dataLt (.tuple (b.map PyData.int)) (.tuple (a.map PyData.int))) = _
  rw [show PySem.W.dataLt (.tuple (b.map PyData.int)) (.tuple (a.map PyData.int)) = Mini.lexLt b a from toks_lex b a]

abbrev VL := V × List Int
def RVL (H : Hp) (O : Addr → Prop) (u : Value) (b : VL) : Prop := RelV b.1 u ∧ Rp H O b.1 (Mini.lotD b.2)
def encVL (b : VL) : PyData := PyData.tuple (b.2.map PyData.int)
theorem each_vl {H : Hp} : ∀ {vs : List V} {us : List Value} {l : List (List Int)}, Vals vs us → RpL H O vs (l.map Mini.lotD) → PySem.W.EachIs (RVL H O) us (vs.zip l)
  | _, _, l, .nil, r => by
    cases l with
    | nil => exact .nil
    | cons _ _ => cases r
  | _, _, l, .cons r1 r2, r => by
    cases l with
    | nil => cases r
    | cons x l =>
      cases r with
      | cons q1 q2 => exact .cons ⟨r1, q1⟩ (each_vl r2 q2)
theorem each_out {H : Hp} : ∀ {us : List Value} {bs : List VL}, PySem.W.EachIs (RVL H O) us bs → Vals (bs.map (·.1)) us ∧ RpL H O (bs.map (·.1)) ((bs.map (·.2)).map Mini.lotD)
  | _, _, .nil => ⟨.nil, .nil⟩
  | _, _, .cons h t => let ⟨a, b⟩ := each_out t; ⟨.cons h.1 a, .cons h.2 b⟩
theorem each_mono {α β : Type} {R S : α → β → Prop} (h : ∀ a b, R a b → S a b) : ∀ {l : List α} {m : List β}, PySem.W.EachIs R l m → PySem.W.EachIs S l m
  | _, _, .nil => .nil
  | _, _, .cons r t => .cons (h _ _ r) (each_mono h t)
theorem hasDic_lot (l : List Int) : Mini.hasDic (Mini.lotD l) = false := by
  show Mini.hasDicL (l.map Mini.D.int) = false
  induction l with
  | nil => rfl
  | cons n l ih => show (false || Mini.hasDicL (l.map Mini.D.int)) = false; rw [ih]; rfl
theorem depL_lot (l : List Int) : PyData.depthAll (l.map PyData.int) = 0 := by
  induction l with
  | nil => rfl
  | cons n l ih => show max 0 _ = 0; rw [ih]; rfl
theorem f1_sortedT (hr : Room 1 X.A) : CallR X (.builtin "sorted") (rF1 O (fun d => match d with | .lst xs => (Mini.lotsD xs).map fun l => .lst ((Mini.sortT l).map Mini.lotD) | _ => none)) := by
  intro pins s σ H xs us Q I rx ⟨v, d, r, e, hx, hf, ht, q⟩
  have hu : X.A.units + 64 < cLine := hr.units
  cases d with
  | lst l =>
    simp only [Option.map_eq_some_iff] at hf
    obtain ⟨ls, eb, rfl⟩ := hf
    obtain ⟨a, vs, rfl, h1, r1⟩ := hx.lstI
    obtain ⟨ed, hne⟩ := rpL_lots r1 eb
    subst ed e
    obtain ⟨u, eu, ru⟩ := vals1 rx
    subst eu
    cases ru
    obtain ⟨its, rv, pl, hz⟩ := I.list (SqL.of h1)
    have ev := each_vl rv r1
    have el : vs.length = ls.length := by rw [r1.length, List.length_map]
    have e2 : (vs.zip ls).map (·.2) = ls := List.map_snd_zip (by omega)
    have mem2 : ∀ d, d ∈ (vs.zip ls).map encVL → ∃ ns, ns ∈ ls ∧ d = .tuple (ns.map PyData.int) := fun d hd => by
      obtain ⟨b, hb, rfl⟩ := List.mem_map.mp hd
      exact ⟨b.2, by rw [← e2]; exact List.mem_map_of_mem hb, rfl⟩
    refine PySem.W.sorted_data (bs := vs.zip ls) (enc := encVL) (R := RVL H O) pl.isList ev (each_mono (fun u b h => ?_) ev) (fun d hd d' hd' => ?_) (.inl fun d hd => ?_) ?_ (fun b hb => ?_) fun out ho eo => ?_
    · obtain ⟨as, z⟩ := Dp.reads I _ _ _ (rp_dp (K := X.K) _ _ h.2 (hasDic_lot _)) h.1
      refine ⟨as, ?_⟩
      show Reads s.heap u (.tuple (b.2.map PyData.int)) as
      rw [← toPyL_ints]
      exact z
    · obtain ⟨n1, _, rfl⟩ := mem2 d hd
      obtain ⟨n2, _, rfl⟩ := mem2 d' hd'
      exact alike_ints n1 n2
    · obtain ⟨n1, hn, rfl⟩ := mem2 d hd
      cases n1 with
      | nil => exact absurd rfl (hne _ hn)
      | cons x r => exact ⟨_, _, rfl⟩
    · rw [List.length_zip, el, Nat.min_self, ← el]
      exact hz
    · show X.A.units + 2 + (PyData.depthAll (b.2.map PyData.int) + 1) < cLine
      rw [depL_lot]
      omega
    · obtain ⟨o1, o2⟩ := each_out eo
      have e3 : ((vs.zip ls).mergeSort (PySem.W.dataLe false encVL)).map (·.2) = Mini.sortT ls := by
        rw [List.map_mergeSort (r := PySem.W.dataLe false encVL) (s := fun a b => !Mini.lexLt b a) (f := fun b : VL => b.2) (fun x _ y _ => lexLe_eq x.2 y.2), e2]
        rfl
      rw [e3] at o2
      obtain ⟨c, hc⟩ := sortedAll_at s.heap its out.toArray
      have hn : H (s.heap.objs.size + 1) = none := I.hok.fresh (Nat.le_succ _)
      refine ⟨.ref (s.heap.objs.size + 1), upd H (s.heap.objs.size + 1) (.lst (((vs.zip ls).mergeSort (PySem.W.dataLe false encVL)).map (·.1))), I.laid (t' := s.toks) (fun b o q => sortedAll_old q) (Nat.le_succ _) ?_, rfl, q _ _ (same_upd hn) (nw_lst hn o2)⟩
      refine ⟨?_, out, _, o1, hc⟩
      rw [List.length_map, List.length_mergeSort, List.length_zip, el, Nat.min_self, ← el]
      exact hz
  | _ => cases hf
end
end Snd

/-! ## SndG -/
set_option Elab.async false
set_option linter.all false
set_option autoImplicit false
set_option maxRecDepth 100000
set_option maxHeartbeats 4000000
/-! SndG: repr, isinstance, index, count .. -/
namespace Snd
open PySem PySem.Spec L2
open PyProof.Rows hiding St
section
variable {X : Cx} {O : Addr → Prop}
/-- at sys.modules' place stands a dict -/
def SysD (h : Heap) : Prop := ∃ o, h.get? sysModules = some o ∧ o.cls = .type "dict"
theorem ne_sysC {h : Heap} (hs : SysD h) {a : Addr} {o : Obj} {T : String} (e : h.get? a = some o) (hc : o.cls = .type T) (n : T ≠ "dict") : sysModules ≠ a := fun z => by
  obtain ⟨o', e', c'⟩ := hs
  rw [z, e] at e'
  cases e'
  rw [hc] at c'
  exact n (by injection c')
mutual
theorem rp_reads {pins : List (Addr × Obj)} {σ : St} {H : Hp} {s : Shared} (I : Inv X pins σ H s) : ∀ (d : D) (v : V) (u : Value), Rp H O v d → RelV v u → ∃ as, Reads s.heap u (toPy d) as ∧ (SysD s.heap → sysModules ∉ as)
  | .non, _, _, h, r => by cases h; cases r; exact ⟨_, .none, by simp⟩
  | .bl b, _, _, h, r => by cases h; cases r; exact ⟨_, .bool b, by simp⟩
  | .int i, _, _, h, r => by cases h; obtain ⟨t, rfl⟩ := r; exact ⟨_, .int i t, by simp⟩
  | .str x, _, _, h, r => by cases h; obtain ⟨t, rfl⟩ := r; exact ⟨_, .str _ t, by simp⟩
  | .rep x, _, _, h, r => by cases h; obtain ⟨t, rfl⟩ := r; exact ⟨_, .str _ t, by simp⟩
  | .lst ds, _, _, h, r => by
    cases h with
    | lst _ e l =>
      cases r
      obtain ⟨its, rv, ⟨o, n, ho, hc, _, hd⟩, _⟩ := I.list (SqL.of e)
      obtain ⟨as, hr, hn⟩ := rpL_reads I ds _ its l rv
      refine ⟨_, .list ho hc hd hr, fun hs z => ?_⟩
      rcases List.mem_cons.mp z with z | z
      · exact ne_sysC hs ho hc (by decide) z
      · exact hn hs z
  | .tup ds, _, _, h, r => by
    cases h with
    | tup _ e l =>
      cases r
      obtain ⟨its, rv, ⟨o, ho, hc, n, hd⟩, _⟩ := I.tuple (SqT.of e)
      obtain ⟨as, hr, hn⟩ := rpL_reads I ds _ its l rv
      exact ⟨_, .tuple ho hc hd hr, hn⟩
  | .dic ds, _, _, h, r => by
    cases h with
    | dic _ e l =>
      cases r
      obtain ⟨_, hd, vs, rel, o, es, ep, h1, h2, h3, h4, h5, h6⟩ := dk_rd I.hok e
      obtain ⟨as, bs, r1, r2, n1, n2⟩ := rpK_reads I ds _ vs es.toList l rel h5
      refine ⟨_, .dict h1 h2.1 h3 r1 r2, fun hs z => ?_⟩
      rw [List.cons_append] at z
      rcases List.mem_cons.mp z with z | z
      · exact beq_eq_false_iff_ne.mp hd z.symm
      · exact (List.mem_append.mp z).elim (n1 hs) (n2 hs)
theorem rpL_reads {pins : List (Addr × Obj)} {σ : St} {H : Hp} {s : Shared} (I : Inv X pins σ H s) : ∀ (ds : List D) (vs : List V) (us : List Value), RpL H O vs ds → Vals vs us → ∃ as, ReadsAll s.heap us (toPyL ds) as ∧ (SysD s.heap → sysModules ∉ as)
  | [], _, _, h, r => by cases h; cases r; exact ⟨_, .nil, by simp⟩
  | d :: ds, _, _, h, r => by
    cases h with
    | cons h1 h2 =>
      cases r with
      | cons r1 r2 =>
        obtain ⟨as, q1, n1⟩ := rp_reads I d _ _ h1 r1
        obtain ⟨bs, q2, n2⟩ := rpL_reads I ds _ _ h2 r2
        exact ⟨_, .cons q1 q2, fun hs z => (List.mem_append.mp z).elim (n1 hs) (n2 hs)⟩
theorem rpK_reads {pins : List (Addr × Obj)} {σ : St} {H : Hp} {s : Shared} (I : Inv X pins σ H s) : ∀ (ds : List (D × D)) (kvs : List (Key × V)) (vs : List (Key × Value)) (es : List DictEntry), RpK H O kvs ds → KV kvs vs → Pairs (mixKind X.prog X.w) es vs →
    ∃ as bs, ReadsAll s.heap (es.map (·.key)) ((toPyK ds).map (·.1)) as ∧ ReadsAll s.heap (es.map (·.val)) ((toPyK ds).map (·.2)) bs ∧ (SysD s.heap → sysModules ∉ as) ∧ (SysD s.heap → sysModules ∉ bs)
  | [], _, _, _, h, r, p => by cases h; cases r; cases p; exact ⟨_, _, .nil, .nil, by simp, by simp⟩
  | (c, d) :: ds, _, _, _, h, r, p => by
    cases h with
    | cons h0 h1 h2 =>
      cases r with
      | cons r1 r2 =>
        cases p with
        | cons p1 pe p2 =>
          obtain ⟨as, bs, q1, q2, n1, n2⟩ := rpK_reads I ds _ _ _ h2 r2 p2
          obtain ⟨bs1, z1, m1⟩ := rp_reads I d _ _ h1 r1.2
          rw [← pe] at z1
          have ek : ∀ {k : Key} {w : Value}, kD c = some k → keyIs k w = true → Reads s.heap w (toPy c) [] := fun {k w} e h => by
            cases c <;> simp [kD] at e <;> subst e
            · obtain ⟨t, rfl⟩ := Value.isInt_shape (show Value.isInt _ _ = true from h)
              exact .int _ t
            · obtain ⟨t, rfl⟩ := Value.isStrOf_shape (show Value.isStrOf _ _ = true from h)
              exact .str _ t
          exact ⟨_, _, .cons (ek h0 (by have y := r1.1; dsimp only at y; rw [y]; exact p1)) q1, .cons z1 q2, fun hs z => n1 hs (by simpa using z), fun hs z => (List.mem_append.mp z).elim (m1 hs) (n2 hs)⟩
end
theorem bp_reads {pins : List (Addr × Obj)} {σ : St} {H : Hp} {s : Shared} (I : Inv X pins σ H s) {d : D} {v : V} {u : Value} (h : Bp H O v d) (r : RelV v u) : ∃ as, Reads s.heap u (toPy d) as ∧ (SysD s.heap → sysModules ∉ as) := by
  cases h with
  | of h => exact rp_reads I _ _ _ h r
  | lst e l =>
    cases r
    obtain ⟨its, rv, ⟨o, n, ho, hc, _, hd⟩, _⟩ := I.list (SqL.of e)
    obtain ⟨as, hr, hn⟩ := rpL_reads I _ _ its l rv
    refine ⟨_, .list ho hc hd hr, fun hs z => ?_⟩
    rcases List.mem_cons.mp z with z | z
    · exact ne_sysC hs ho hc (by decide) z
    · exact hn hs z
  | dic e l =>
    cases r
    obtain ⟨_, hd, vs, rel, o, es, ep, h1, h2, h3, h4, h5, h6⟩ := dk_rd I.hok e
    obtain ⟨as, bs, r1, r2, n1, n2⟩ := rpK_reads I _ _ vs es.toList l rel h5
    refine ⟨_, .dict h1 h2.1 h3 r1 r2, fun hs z => ?_⟩
    rw [List.cons_append] at z
    rcases List.mem_cons.mp z with z | z
    · exact beq_eq_false_iff_ne.mp hd z.symm
    · exact (List.mem_append.mp z).elim (n1 hs) (n2 hs)
/-! ### repr where no dict stands at sys.modules' place -/
section
variable {prog : Program} {w : World} {g : Heap}
mutual
theorem shows_at (hx : ¬ SysD g) : ∀ {u : Value} {x : PyData} {as : List Addr}, Reads g u x as → x.showable = true → x.shown.length ≤ sizeLine → ∃ bs, ReadAtMost g x.depth bs ∧ ReprK prog w bs g x.depth u x.shown
  | _, _, _, .none, _, _ => ⟨[], fun _ h => (nomatch h), by simp only [PyData.shown]; exact .of_is ReprIs.none _ _ _⟩
  | _, _, _, .bool b, _, _ => ⟨[], fun _ h => (nomatch h), by simp only [PyData.shown]; exact .of_is (ReprIs.bool b) _ _ _⟩
  | _, _, _, .int i t, sh, _ => ⟨[], fun _ h => (nomatch h), by simp only [PyData.shown]; exact .of_is (ReprIs.int t (by simpa [PyData.showable] using sh)) _ _ _⟩
  | _, _, _, .str y t, _, ln => ⟨[], fun _ h => (nomatch h), by simp only [PyData.shown]; exact .of_is (ReprIs.str y t (by simpa only [PyData.shown] using ln)) _ _ _⟩
  | _, _, _, .list (a := a) (vs := vs) (xs := ys) e1 e2 e3 e4, sh, ln => by
    have short : (listText (PyData.shownAll ys)).length ≤ sizeLine := by simpa only [PyData.shown] using ln
    obtain ⟨bs, at_, all⟩ := showsAll_at hx e4 (by simpa [PyData.showable] using sh) fun t ht => Nat.le_trans (listText_mem_le ht) short
    have whole : Reads g (.ref a) (.list ys) _ := .list e1 e2 e3 e4
    have out : a ∉ bs := not_mem_of_deeper whole (by simp only [PyData.depth]; omega) at_
    refine ⟨a :: bs, .cons whole (by simp only [PyData.depth]; omega) at_, ?_⟩
    simp only [PyData.depth, PyData.shown]
    obtain ⟨l⟩ := vs
    cases l with
    | nil =>
      cases (show ReadsAll g [] ys _ from e4)
      simp only [PyData.shownAll, listText_nil]
      exact .listEmpty e1 e2 e3
    | cons y l => exact .list e1 e2 e3 out (by simpa using all.length_eq) fun i z e => all.item i z (by simpa using e)
  | _, _, _, .tuple (a := a) (xs := ys) e1 e2 e3 e4, sh, ln => by
    have short : (tupleText (PyData.shownAll ys)).length ≤ sizeLine := by simpa only [PyData.shown] using ln
    obtain ⟨bs, at_, all⟩ := showsAll_at hx e4 (by simpa [PyData.showable] using sh) fun t ht => Nat.le_trans (tupleText_mem_le ht) short
    have whole : Reads g (.ref a) (.tuple ys) _ := .tuple e1 e2 e3 e4
    have out : a ∉ bs := not_mem_of_deeper whole (by simp only [PyData.depth]; omega) at_
    refine ⟨a :: bs, .cons whole (by simp only [PyData.depth]; omega) at_, ?_⟩
    simp only [PyData.depth, PyData.shown]
    exact .tuple e1 e2 e3 out all
  | _, _, _, .dict (a := a) (es := es) (kvs := kvs) e1 e2 e3 e4 e5, sh, ln => by
    have short : (dictText (PyData.shownKv kvs)).length ≤ sizeLine := by simpa only [PyData.shown] using ln
    obtain ⟨sk, sv⟩ := PyData.showableKv_split kvs (by simpa [PyData.showable] using sh)
    obtain ⟨bk, ak, allk⟩ := showsAll_at hx e4 sk fun t ht => let ⟨p, hp, hl⟩ := PyData.shownKv_key_le kvs t ht; Nat.le_trans hl (Nat.le_trans (dictText_mem_le hp) short)
    obtain ⟨bv, av, allv⟩ := showsAll_at hx e5 sv fun t ht => let ⟨p, hp, hl⟩ := PyData.shownKv_val_le kvs t ht; Nat.le_trans hl (Nat.le_trans (dictText_mem_le hp) short)
    have whole : Reads g (.ref a) (.dict kvs) _ := .dict e1 e2 e3 e4 e5
    have both : ReadAtMost g (PyData.depthKv kvs) (bk ++ bv) := (ak.mono (PyData.depthAll_keys_le kvs)).append (av.mono (PyData.depthAll_vals_le kvs))
    have out : a ∉ bk ++ bv := not_mem_of_deeper whole (by simp only [PyData.depth]; omega) both
    have off : (a == sysModules) = false := beq_eq_false_iff_ne.mpr fun e => hx ⟨_, by rw [← e]; exact e1, e2⟩
    refine ⟨a :: (bk ++ bv), .cons whole (by simp only [PyData.depth]; omega) both, ?_⟩
    simp only [PyData.depth, PyData.shown, PyData.shownKv_eq]
    exact .dict e1 e2 e3 off out (.of_two es.toList _ _ (allk.more_le (fun b hb => List.mem_append_left _ hb) (PyData.depthAll_keys_le kvs)) (allv.more_le (fun b hb => List.mem_append_right _ hb) (PyData.depthAll_vals_le kvs)))
theorem showsAll_at (hx : ¬ SysD g) : ∀ {us : List Value} {xs : List PyData} {as : List Addr}, ReadsAll g us xs as → PyData.showableAll xs = true → (∀ t ∈ PyData.shownAll xs, t.length ≤ sizeLine) → ∃ bs, ReadAtMost g (PyData.depthAll xs) bs ∧ ReprAllK prog w bs g (PyData.depthAll xs) us (PyData.shownAll xs)
  | _, _, _, .nil, _, _ => ⟨[], fun _ h => (nomatch h), by simp only [PyData.shownAll]; exact .nil⟩
  | _, _, _, .cons (d := x) (ds := xs) r rs, sh, ln => by
    have both : x.showable = true ∧ PyData.showableAll xs = true := by simpa [PyData.showableAll] using sh
    obtain ⟨b1, a1, k1⟩ := shows_at hx r both.1 (ln _ (by simp only [PyData.shownAll]; exact List.mem_cons_self))
    obtain ⟨b2, a2, k2⟩ := showsAll_at hx rs both.2 fun t ht => ln t (by simp only [PyData.shownAll]; exact List.mem_cons_of_mem _ ht)
    simp only [PyData.depthAll, PyData.shownAll]
    refine ⟨b1 ++ b2, (a1.mono (Nat.le_max_left _ _)).append (a2.mono (Nat.le_max_right _ _)), ?_⟩
    exact .cons ((k1.more fun b hb => List.mem_append_left _ hb).level_le (Nat.le_max_left _ _)) (k2.more_le (fun b hb => List.mem_append_right _ hb) (Nat.le_max_right _ _))
end
theorem showsBy_at {a : Addr} {x : PyData} {as : List Addr} (hx : ¬ SysD g) (r : Reads g (.ref a) x as) (sh : x.showable = true) (ln : x.shown.length ≤ sizeLine) : ∃ T idr, ShowsBy prog w g a x T idr := by
  cases r with
  | list e1 e2 e3 e4 =>
    rename_i o vs n ys bs0
    have short : (listText (PyData.shownAll ys)).length ≤ sizeLine := by simpa only [PyData.shown] using ln
    obtain ⟨bs, at_, all⟩ := showsAll_at (prog := prog) (w := w) hx e4 (by simpa [PyData.showable] using sh) fun t ht => Nat.le_trans (listText_mem_le ht) short
    have out : a ∉ bs := not_mem_of_deeper (.list e1 e2 e3 e4) (by simp only [PyData.depth]; omega) at_
    refine ⟨"list", "list.__repr__", F.slot_list_repr.toG, F.slot_list_str, F.slot_list_format, fun s k => ⟨o, k _ _ e1, e2⟩, fun A E s Q hg hu k hQ => ?_⟩
    simp only [PyData.depth] at hu
    simp only [PyData.shown] at hQ
    obtain ⟨l⟩ := vs
    cases l with
    | nil =>
      cases (show ReadsAll g [] ys _ from e4)
      simp only [PyData.shownAll, listText_nil] at hQ
      exact call_list_repr_empty ⟨o, k _ _ e1, e2⟩ (k _ _ e1) e3 (hQ s.heap _ _ fun _ _ z => z)
    | cons y l => exact call_list_reprK e1 e2 e3 out (by simpa using all.length_eq) (fun i z e => all.item i z (by simpa using e)) hg (fun b _ => Clear.nil b) hu k hQ short
  | tuple e1 e2 e3 e4 =>
    rename_i o vs n ys
    have short : (tupleText (PyData.shownAll ys)).length ≤ sizeLine := by simpa only [PyData.shown] using ln
    obtain ⟨bs, at_, all⟩ := showsAll_at (prog := prog) (w := w) hx e4 (by simpa [PyData.showable] using sh) fun t ht => Nat.le_trans (tupleText_mem_le ht) short
    have out : a ∉ bs := not_mem_of_deeper (.tuple e1 e2 e3 e4) (by simp only [PyData.depth]; omega) at_
    refine ⟨"tuple", "tuple.__repr__", F.slot_tuple_repr, F.slot_tuple_str, F.slot_tuple_format, fun s k => ⟨o, k _ _ e1, e2⟩, fun A E s Q hg hu k hQ => ?_⟩
    simp only [PyData.depth] at hu
    simp only [PyData.shown] at hQ
    exact call_tuple_reprK e1 e2 e3 out all hg (fun b _ => Clear.nil b) hu k hQ short
  | dict e1 e2 e3 e4 e5 =>
    rename_i o es n kvs as1 bs1
    have short : (dictText (PyData.shownKv kvs)).length ≤ sizeLine := by simpa only [PyData.shown] using ln
    obtain ⟨sk, sv⟩ := PyData.showableKv_split kvs (by simpa [PyData.showable] using sh)
    obtain ⟨bk, ak, allk⟩ := showsAll_at (prog := prog) (w := w) hx e4 sk fun t ht => let ⟨p, hp, hl⟩ := PyData.shownKv_key_le kvs t ht; Nat.le_trans hl (Nat.le_trans (dictText_mem_le hp) short)
    obtain ⟨bv, av, allv⟩ := showsAll_at (prog := prog) (w := w) hx e5 sv fun t ht => let ⟨p, hp, hl⟩ := PyData.shownKv_val_le kvs t ht; Nat.le_trans hl (Nat.le_trans (dictText_mem_le hp) short)
    have both : ReadAtMost g (PyData.depthKv kvs) (bk ++ bv) := (ak.mono (PyData.depthAll_keys_le kvs)).append (av.mono (PyData.depthAll_vals_le kvs))
    have out : a ∉ bk ++ bv := not_mem_of_deeper (.dict e1 e2 e3 e4 e5) (by simp only [PyData.depth]; omega) both
    have off : (a == sysModules) = false := beq_eq_false_iff_ne.mpr fun e => hx ⟨_, by rw [← e]; exact e1, e2⟩
    refine ⟨"dict", "dict.__repr__", F.slot_dict_repr, F.slot_dict_str, F.slot_dict_format, fun s k => ⟨o, k _ _ e1, e2⟩, fun A E s Q hg hu k hQ => ?_⟩
    simp only [PyData.depth] at hu
    simp only [PyData.shown, PyData.shownKv_eq] at hQ
    exact call_dict_reprK e1 e2 e3 off out (.of_two es.toList _ _ (allk.more_le (fun b hb => List.mem_append_left _ hb) (PyData.depthAll_keys_le kvs)) (allv.more_le (fun b hb => List.mem_append_right _ hb) (PyData.depthAll_vals_le kvs))) hg (fun b _ => Clear.nil b) hu k hQ (by rw [← PyData.shownKv_eq]; exact short)
theorem repr_at {a : Addr} {x : PyData} {as : List Addr} {A : Around} {E : Value → Shared → Prop} {s : Shared} {Q : Value → Shared → Prop} (hx : ¬ SysD s.heap) (r : Reads s.heap (.ref a) x as) (sh : x.showable = true) (ln : x.shown.length ≤ sizeLine) (hg : A.guards = some []) (hu : A.units + (x.depth + 1) < cLine)
    (hQ : ∀ h' u tk, (∀ b o, s.heap.get? b = some o → h'.get? b = some o) → Q (.str x.shown u) { s with heap := h', toks := tk }) : wpAny (model prog w) A (call (.builtin "repr") [.ref a]) Q E s := by
  obtain ⟨T, idr, S⟩ := showsBy_at (prog := prog) (w := w) hx r sh ln
  exact call_repr_slot (by omega) (S.typeIs s fun _ _ z => z) S.slotRepr (S.call A.in1 E s _ hg (by show A.units + 1 + x.depth < cLine; omega) (fun _ _ z => z) fun h' u tk hk => ⟨_, _, rfl, hQ h' u tk hk⟩)
end
mutual
theorem show_py : ∀ d : D, Mini.smallI d = true → (toPy d).showable = true ∧ (toPy d).leavesShort 202 = true
  | .non, _ => ⟨rfl, rfl⟩
  | .bl _, _ => ⟨rfl, rfl⟩
  | .int i, h => by
    have h' : i.natAbs < 2 ^ 200 := of_decide_eq_true h
    have hl : i.natAbs.log2 < 1920 := by
      by_cases z : i.natAbs = 0
      · rw [z]; decide
      · have := (Nat.log2_lt z).mpr h'
        omega
    refine ⟨decide_eq_true hl, decide_eq_true ?_⟩
    have h2 : i.natAbs.log2 < 200 := by
      by_cases z : i.natAbs = 0
      · rw [z]; decide
      · exact (Nat.log2_lt z).mpr h'
    have e := int_text_length_le (k := 200) (by decide) h2
    show (Str.ofString (toString i)).length ≤ 202
    rw [PySem.ofString_length]
    omega
  | .str s, _ => ⟨rfl, by
      have z := strOk_of s
      show ((Str.ofString s).cps.toList.all fun c => decide (c < 16 ^ 8)) = true
      unfold PyData.strOk at z
      rw [Array.all_eq_true'] at z
      rw [List.all_eq_true]
      intro c hc
      have := of_decide_eq_true (z c (by simpa using hc))
      exact decide_eq_true (by omega)⟩
  | .rep _, h => by simp [Mini.smallI] at h
  | .lst ds, h => showL_py ds h
  | .tup ds, h => showL_py ds h
  | .dic ds, h => showK_py ds h
theorem showL_py : ∀ ds : List D, Mini.smallL ds = true → PyData.showableAll (toPyL ds) = true ∧ PyData.leavesShortAll 202 (toPyL ds) = true
  | [], _ => ⟨rfl, rfl⟩
  | d :: ds, h => by
    rw [Mini.smallL, Bool.and_eq_true] at h
    obtain ⟨a, b⟩ := show_py d h.1
    obtain ⟨e, f⟩ := showL_py ds h.2
    constructor
    · show ((toPy d).showable && PyData.showableAll (toPyL ds)) = true
      rw [a, e]; rfl
    · show ((toPy d).leavesShort 202 && PyData.leavesShortAll 202 (toPyL ds)) = true
      rw [b, f]; rfl
theorem showK_py : ∀ ds : List (D × D), Mini.smallK ds = true → PyData.showableKv (toPyK ds) = true ∧ PyData.leavesShortKv 202 (toPyK ds) = true
  | [], _ => ⟨rfl, rfl⟩
  | (k, d) :: ds, h => by
    rw [Mini.smallK, Bool.and_eq_true, Bool.and_eq_true] at h
    obtain ⟨a, b⟩ := show_py d h.1.2
    obtain ⟨a', b'⟩ := show_py k h.1.1
    obtain ⟨e, f⟩ := showK_py ds h.2
    constructor
    · show ((toPy k).showable && (toPy d).showable && PyData.showableKv (toPyK ds)) = true
      rw [a, a', e]; rfl
    · show ((toPy k).leavesShort 202 && (toPy d).leavesShort 202 && PyData.leavesShortKv 202 (toPyK ds)) = true
      rw [b, b', f]; rfl
end
mutual
theorem wt_py : ∀ d : D, (toPy d).weight ≤ Mini.wt d ∨ Mini.smallI d = false
  | .non => .inl (Nat.le_refl _)
  | .bl _ => .inl (Nat.le_refl _)
  | .int i => .inl (by
      show (if i == 0 then 0 else i.natAbs.log2 + 1) ≤ i.natAbs.log2 + 1
      split <;> omega)
  | .str s => .inl (by
      show (Str.ofString s).cps.size ≤ s.length
      rw [Str.ofString_eq_toList]
      simp [String.length])
  | .rep _ => .inr rfl
  | .lst ds => wtL_py ds
  | .tup ds => wtL_py ds
  | .dic ds => wtK_py ds
theorem wtL_py : ∀ ds : List D, PyData.weightAll (toPyL ds) ≤ Mini.wtL ds ∨ Mini.smallL ds = false
  | [] => .inl (Nat.le_refl _)
  | d :: ds => by
    rw [Mini.smallL, Bool.and_eq_false_iff]
    rcases wt_py d with a | a
    · rcases wtL_py ds with b | b
      · refine .inl ?_
        show (toPy d).weight + 1 + PyData.weightAll (toPyL ds) ≤ Mini.wt d + 1 + Mini.wtL ds
        omega
      · exact .inr (.inr b)
    · exact .inr (.inl a)
theorem wtK_py : ∀ ds : List (D × D), PyData.weightKv (toPyK ds) ≤ Mini.wtK ds ∨ Mini.smallK ds = false
  | [] => .inl (Nat.le_refl _)
  | (k, d) :: ds => by
    rw [Mini.smallK, Bool.and_eq_false_iff, Bool.and_eq_false_iff]
    rcases wt_py d with a | a
    · rcases wtK_py ds with b | b
      · rcases wt_py k with c | c
        · refine .inl ?_
          show (toPy k).weight + (toPy d).weight + 2 + PyData.weightKv (toPyK ds) ≤ Mini.wt k + Mini.wt d + 2 + Mini.wtK ds
          omega
        · exact .inr (.inl (.inl c))
      · exact .inr (.inr b)
    · exact .inr (.inl (.inr a))
end
/-- repr -/
theorem f1_repr (hg : X.A.guards = some []) (hr : Room 1 X.A) : CallR X (.builtin "repr") (rF1 O (Mini.f1D .repr)) := by
  intro pins s σ H xs us Q I rx ⟨v, d, r, e, hx, hf, ht, q⟩
  have hu : X.A.units + 64 < cLine := hr.units
  subst e
  obtain ⟨u, eu, ru⟩ := vals1 rx
  subst eu
  show wpAny _ _ (call (.builtin "repr") [u]) _ _ s
  simp only [Mini.f1D, Mini.reprD] at hf
  split at hf
  case isFalse => cases hf
  rename_i hc
  cases hf
  simp only [Bool.and_eq_true, decide_eq_true_eq] at hc
  obtain ⟨⟨c1, c2⟩, c3⟩ := hc
  obtain ⟨as, hrd, hn⟩ := bp_reads I hx ru
  obtain ⟨s1, s2⟩ := show_py d c1
  have hw : (toPy d).weight ≤ 50000 := by
    rcases wt_py d with z | z
    · omega
    · rw [c1] at z; cases z
  have hz : (toPy d).shown.length ≤ sizeLine := by
    refine Nat.le_trans (PyData.shown_le 202 (by decide) _ s2) ?_
    rw [sizeLine_eq]
    omega
  have hd : (toPy d).depth ≤ 60 := by rw [dep_py]; exact c3
  have fin : ∀ s' t, Inv X pins σ H s' → EP X pins σ Q (.str (toPy d).shown t) s' := fun s' t I' => ⟨.str (toPy d).shown, H, I', ⟨t, rfl⟩, q _ _ (Same.refl H) (Rp.rep d)⟩
  have rf : ∀ a, u = .ref a → wpAny (model X.prog X.w) X.A (call (.builtin "repr") [u]) (EP X pins σ Q) X.xe s := fun a ea => by
    subst ea
    by_cases hs : SysD s.heap
    · exact repr_of_reads' hrd s1 (fun _ => hn hs) hg (by omega) (fun _ _ z => z) (fun h' t tk hk => fin _ t (I.kept hk)) hz
    · exact repr_at hs hrd s1 hz hg (by omega) fun h' t tk hk => fin _ t (I.kept hk)
  cases d with
  | non =>
    cases hx.nonI
    cases ru
    exact PySem.P.repr_of_none (fin _ _ (I.tok _))
  | bl b =>
    cases hx.blI
    cases ru
    have z := fin _ s.toks (I.tok (s.toks + 1))
    exact PySem.P.repr_of_bool (by cases b <;> exact z)
  | int i =>
    cases hx.intI
    obtain ⟨t, rfl⟩ := ru
    exact PySem.P.repr_of_int (of_decide_eq_true s1) (fin _ _ (I.tok _))
  | str x =>
    cases hx.strI
    obtain ⟨t, rfl⟩ := ru
    exact PySem.P.repr_of_str (fin _ _ (I.tok _)) hz
  | rep x => simp [Mini.smallI] at c1
  | lst l => obtain ⟨a, vs, rfl, _⟩ := hx.lstI; cases ru; exact rf _ rfl
  | tup l => obtain ⟨a, vs, rfl, _⟩ := hx.tupI; cases ru; exact rf _ rfl
  | dic l => obtain ⟨a, vs, rfl, _⟩ := hx.dicI; cases ru; exact rf _ rfl
/-! ### isinstance -/
def tyS : Mini.Ty → String
  | .int => "int" | .bool => "bool" | .str => "str" | .tuple => "tuple" | .list => "list"
theorem bp_ty {K : PySem.W.Frag} {H : Hp} {d : D} {v : V} (h : Bp H O v d) : ∃ T : String, TyX K H v (.type T) ∧ ∀ (t : Mini.Ty) (b : Bool), Mini.isTy t d = some b → kitB T (tyS t) = some b := by
  cases h with
  | of h =>
    cases h with
    | non => exact ⟨"NoneType", .base .non, fun t b e => by cases t <;> simp [Mini.isTy] at e <;> subst e <;> decide +kernel⟩
    | bl x => exact ⟨"bool", .base (.bl x), fun t b e => by cases t <;> simp [Mini.isTy] at e <;> subst e <;> decide +kernel⟩
    | int x => exact ⟨"int", .base (.int x), fun t b e => by cases t <;> simp [Mini.isTy] at e <;> subst e <;> decide +kernel⟩
    | str x => exact ⟨"str", .base (.str _), fun t b e => by cases t <;> simp [Mini.isTy] at e <;> subst e <;> decide +kernel⟩
    | rep x => exact ⟨"str", .base (.str _), fun t b e => by cases t <;> simp [Mini.isTy] at e⟩
    | lst _ e l => exact ⟨"list", .base (.lst e), fun t b e => by cases t <;> simp [Mini.isTy] at e <;> subst e <;> decide +kernel⟩
    | tup _ e l => exact ⟨"tuple", .base (.tup e), fun t b e => by cases t <;> simp [Mini.isTy] at e <;> subst e <;> decide +kernel⟩
    | dic _ e l =>
      refine ⟨"dict", ?_, fun t b e => by cases t <;> simp [Mini.isTy] at e <;> subst e <;> decide +kernel⟩
      rcases e with e | ⟨o, e⟩
      · exact .base (.dK e)
      · exact .fDict e
  | lst e l => exact ⟨"list", .base (.lst e), fun t b e => by cases t <;> simp [Mini.isTy] at e <;> subst e <;> decide +kernel⟩
  | dic e l =>
    refine ⟨"dict", ?_, fun t b e => by cases t <;> simp [Mini.isTy] at e <;> subst e <;> decide +kernel⟩
    rcases e with e | ⟨o, e⟩
    · exact .base (.dK e)
    · exact .fDict e
theorem call_isD (t : Mini.Ty) : CallR X (.builtin "isinstance") (fun xs H Q => ∃ v d b, xs = [v, .ty (tyS t)] ∧ Bp H O v d ∧ Mini.isTy t d = some b ∧ Q (.bl b) H) := by
  intro pins s σ H xs us Q I rx ⟨v, d, b, e, hx, hf, q⟩
  obtain ⟨T, ty, k⟩ := bp_ty (K := X.K) hx
  exact call_isi pins s σ H xs us Q I rx ⟨v, .ty (tyS t), .type T, .type (tyS t), b, e, .ty _, ty, kit_ty (k t b hf), q⟩
/-! ### two numbers -/
def rF2 (O : Addr → Prop) (f : D → D → Option D) : List V → Hp → VK → Prop := fun xs H Q => ∃ v w d e r, xs = [v, w] ∧ Bp H O v d ∧ Bp H O w e ∧ f d e = some r ∧ Trk H O ∧ ∀ v' H', Same H H' → Nw H H' O v' r → Q v' H'
theorem f2_max (hc : X.calm = true) : CallR X (.builtin "max") (rF2 O (Mini.f2D .max)) := by
  intro pins s σ H xs us Q I rx ⟨v, w, d, e, r, ex, hx, hy, hf, ht, q⟩
  unfold Mini.f2D at hf
  split at hf
  all_goals first | (exfalso; simp_all; done) | skip
  cases hf
  exact call_max2 hc pins s σ H xs us Q I rx ⟨_, _, by rw [ex, hx.intI, hy.intI], q _ _ (Same.refl H) (Rp.int _)⟩
theorem f2_min (hc : X.calm = true) : CallR X (.builtin "min") (rF2 O (Mini.f2D .min)) := by
  intro pins s σ H xs us Q I rx ⟨v, w, d, e, r, ex, hx, hy, hf, ht, q⟩
  unfold Mini.f2D at hf
  split at hf
  all_goals first | (exfalso; simp_all; done) | skip
  cases hf
  exact call_min2 hc pins s σ H xs us Q I rx ⟨_, _, by rw [ex, hx.intI, hy.intI], q _ _ (Same.refl H) (Rp.int _)⟩
/-! ### methods: the receiver, one argument -/
def rM1 (O : Addr → Prop) (f : D → D → Option D) : V → List V → Hp → VK → Prop := fun x xs H Q => ∃ w d e r, xs = [w] ∧ Bp H O x d ∧ Bp H O w e ∧ f d e = some r ∧ Trk H O ∧ ∀ v' H', Same H H' → Nw H H' O v' r → Q v' H'
theorem index_at {x : D} {dx : Mini.flat x = true} : ∀ {ds : List D} {k : Nat}, Mini.indexL x ds = some k → ∃ z, ds[k]? = some z ∧ Mini.eqD z x = some true ∧ ∀ m z', m < k → ds[m]? = some z' → Mini.eqD z' x = some false
  | [], k, e => by simp [Mini.indexL] at e
  | y :: ys, k, e => by
    rw [Mini.indexL] at e
    split at e
    · rename_i h
      cases e
      exact ⟨y, rfl, h, fun m z' hm => absurd hm (Nat.not_lt_zero _)⟩
    · rename_i h
      rw [Option.map_eq_some_iff] at e
      obtain ⟨j, ej, rfl⟩ := e
      obtain ⟨z, h1, h2, h3⟩ := index_at (dx := dx) ej
      refine ⟨z, by simpa using h1, h2, fun m z' hm hz => ?_⟩
      cases m with
      | zero => simp at hz; subst hz; exact h
      | succ m => exact h3 m z' (by omega) (by simpa using hz)
    · cases e
theorem m_index : MtR X "list.index" (rM1 O (fun d e => match d with | .lst xs => if Mini.flat e && xs.all Mini.flat then (Mini.indexL e xs).map fun (k : Nat) => .int (k : Int) else none | _ => none)) := by
  intro pins s σ H x xs v us Q I rx rxs ⟨w, d, e, r, ex, hx, hy, hf, ht, q⟩
  cases d with
  | lst l =>
    simp only at hf
    split at hf
    case isFalse => cases hf
    rename_i hc
    rw [Bool.and_eq_true] at hc
    rw [Option.map_eq_some_iff] at hf
    obtain ⟨k, hk, rfl⟩ := hf
    obtain ⟨a, vs, e1, h1, r1⟩ := hx.lstI
    obtain ⟨z, hz1, hz2, hz3⟩ := index_at (dx := hc.1) hk
    obtain ⟨vz, hv, rz⟩ := r1.get hz1
    have ry := bp_flat hy hc.1
    have fl : ∀ {m : Nat} {c : D}, l[m]? = some c → Mini.flat c = true := fun hm => List.all_eq_true.mp hc.2 _ (List.mem_of_getElem? hm)
    refine mt_index pins s σ H x xs v us Q I rx rxs ⟨a, vs, w, k, vz, e1, ex, SqL.of h1, flat_py ry hc.1, flatL_py r1 hc.2, hv, eqV_py rz ry (fl hz1) hc.1 hz2, fun m z' hm hz' => ?_, q _ _ (Same.refl H) (Rp.int _)⟩
    obtain ⟨c, hc1, rc⟩ := r1.getV hz'
    exact eqV_py rc ry (fl hc1) hc.1 (hz3 m c hm hc1)
  | _ => cases hf
theorem m_count : MtR X "list.count" (rM1 O (Mini.f2D .count)) := by
  intro pins s σ H x xs v us Q I rx rxs ⟨w, d, e, r, ex, hx, hy, hf, ht, q⟩
  unfold Mini.f2D at hf
  split at hf
  all_goals first | (exfalso; simp_all; done) | skip
  rw [Option.map_eq_some_iff] at hf
  obtain ⟨ns, en, rfl⟩ := hf
  obtain ⟨a, vs, e1, h1, r1⟩ := hx.lstI
  rw [rp_ints r1 en] at h1
  exact mt_lcount pins s σ H x xs v us Q I rx rxs ⟨a, ns, _, e1, by rw [ex, hy.intI], SqL.of h1, q _ _ (Same.refl H) (Rp.int _)⟩
end
end Snd

/-! ## SndH -/
set_option Elab.async false
set_option linter.all false
set_option autoImplicit false
set_option maxRecDepth 100000
set_option maxHeartbeats 4000000
/-! SndH: a tuple turned round; the context of a def; what matches what. -/
namespace Snd
open PySem PySem.Spec L2
open PyProof.Rows hiding St
section
variable {prog : Program} {w : World} {A : Around} {E : Value → Shared → Prop} {s : Shared}
theorem rev_places (n : Nat) : Builtin.Slice.slicePlaces ((n : Int) - 1) (-1) (-1) = n := by
  unfold Builtin.Slice.slicePlaces
  rw [if_neg (by decide)]
  simp only [Int.neg_neg, Int.ediv_one]
  split <;> omega
theorem rev_pick (xs : Array Value) : (List.range xs.size).filterMap (fun (k : Nat) => xs[(((xs.size : Int) - 1) + (k : Int) * (-1)).toNat]?) = xs.toList.reverse := by
  apply List.ext_getElem?
  intro i
  have e : ∀ (l : List Nat), (∀ k ∈ l, k < xs.size) → l.filterMap (fun (k : Nat) => xs[(((xs.size : Int) - 1) + (k : Int) * (-1)).toNat]?) = l.map fun k => xs.getD (xs.size - 1 - k) .none := by
    intro l hl
    induction l with
    | nil => rfl
    | cons k l ih =>
      have hk := hl k List.mem_cons_self
      have e1 : (((xs.size : Int) - 1) + (k : Int) * (-1)).toNat = xs.size - 1 - k := by omega
      have hlt : xs.size - 1 - k < xs.size := by omega
      rw [List.filterMap_cons, e1, Array.getElem?_eq_getElem hlt, List.map_cons, ih fun k hk => hl k (List.mem_cons_of_mem _ hk)]
      simp [Array.getD, hlt]
  rw [e _ (fun k hk => List.mem_range.mp hk), List.getElem?_map]
  by_cases h : i < xs.size
  · have hlt : xs.size - 1 - i < xs.size := by omega
    rw [List.getElem?_range h, List.getElem?_reverse (by simpa using h)]
    simp [Array.getD, hlt]
  · rw [List.getElem?_eq_none (by simpa using h), List.getElem?_eq_none (by simpa using h)]; rfl
theorem getItem_tuple_rev {t sl : Addr} {items : Array Value} {vl vu vs : Value} {Q : Value → Shared → Prop} (ht : IsTup s.heap t items) (hs : s.heap.IsSliceOf sl vl vu vs) (pl : IsPart vl none) (pu : IsPart vu none) (ps : IsPart vs (some (-1)))
    (h : Q (.ref s.heap.objs.size) { s with heap := s.heap.push { cls := .type "tuple", data := .seq items.toList.reverse.toArray } }) (hsz : items.size ≤ sizeLine) : wpAny (model prog w) A (getItem (.ref t) (.ref sl)) Q E s := by
  obtain ⟨os, hos, hcs, hds⟩ := id hs
  have hTs : s.TypeIs (.ref sl) "slice" := ⟨os, hos, hcs⟩
  have fits : sizeOk (.seq items.toList.reverse.toArray) := by
    show items.toList.reverse.toArray.size ≤ sizeLine
    simpa using hsz
  unfold getItem
  try with_reducible refine wpAny_holding ?_
  first | refine wpAny_bind (wpAny_pure ?_) | skip
  refine wpAny_bind (wpAny_sequenceKey ht.typeIs (by decide) ?_)
  refine wpAny_bind (wpAny_callSpecial?_slot (name := Str.ofString "__getitem__") ht.typeIs PyProof.Rows.slot_tuple_getitem
    (wpAny_call_entry PyProof.Rows.slot_tuple_getitem ht.typeIs entry_tuple_getitem ?_ (args_tuple_getitem _ _)))
  show wpAny _ _ (Builtin.Tuple.tupleItemsOf (.ref t) >>= _) _ _ s
  refine wpAny_bind (tupleItemsOf_ ht ?_)
  refine wpAny_bind (wpAny_typeOf hTs ?_)
  rw [if_pos (by decide)]
  have app : wpAny (model prog w) A.in1 (Builtin.Slice.sliceApplied (.ref sl) (pure (items.size : Int))) (fun r s' => r = ((items.size : Int) - 1, -1, items.size) ∧ s' = s) (fun _ _ => False) s := by
    unfold Builtin.Slice.sliceApplied Builtin.Slice.sliceFields
    refine wpAny_bind (wpAny_bind (wpAny_field hos hds (x := vl) rfl (wpAny_bind (wpAny_field hos hds (x := vu) rfl (wpAny_bind (wpAny_field hos hds (x := vs) rfl (wpAny_pure ?_)))))))
    refine wpAny_bind (HT.slicePart_ ps ?_)
    show wpAny _ _ (if ((-1 : Int) == 0) = true then _ else _) _ _ s
    rw [if_neg (by decide)]
    refine wpAny_bind (HT.slicePart_ pl (wpAny_bind (HT.slicePart_ pu (wpAny_bind (wpAny_pure ?_)))))
    refine wpAny_pure ⟨?_, rfl⟩
    show (((items.size : Int) - 1), (-1 : Int), Builtin.Slice.slicePlaces ((items.size : Int) - 1) (-1) (-1)) = _
    rw [rev_places]
  refine wpAny_bind (wpAny_mono app (fun r s' hr => ?_) fun _ _ z => z.elim)
  obtain ⟨rfl, rfl⟩ := hr
  show wpAny _ _ (if ((((items.size : Int) - 1) == 0 && (-1 : Int) == 1 && items.size == items.size)) = true then _ else _) _ _ s'
  rw [if_neg (by simp), rev_pick]
  first
    | exact wpAny_bind (m := Builtin.Tuple.tupleExact _) (wpAny_newObj_type (wpAny_pure ⟨_, rfl, wpAny_pure h⟩) fits)
    | exact wpAny_bind (m := Builtin.Tuple.tupleExact _) (wpAny_newObj_type (wpAny_bind (wpAny_pure (wpAny_pure ⟨_, rfl, wpAny_pure h⟩))) fits)
    | exact wpAny_bind (wpAny_bind (m := Builtin.Tuple.tupleExact _) (wpAny_newObj_type (wpAny_pure (wpAny_pure ⟨_, rfl, wpAny_pure h⟩)) fits))
    | exact wpAny_bind (wpAny_bind (m := Builtin.Tuple.tupleExact _) (wpAny_newObj_type (wpAny_pure ⟨_, rfl, wpAny_pure h⟩) fits))
end
end Snd

/-! ## SndI -/
set_option Elab.async false
set_option linter.all false
set_option maxRecDepth 100000
set_option maxHeartbeats 4000000
/-! SndI: the rules of expressions, as readings of mini. -/
namespace Snd
open PySem PySem.Spec L2
open PyProof.Rows hiding St

section
variable {X : Cx} {C : Ctx}
theorem opr_ex {f : Value → Value → Sem Value} {r : (Addr → Prop) → R2} (h : ∀ O, OpR X f (r O)) : OpR X f (fun x y H Q => ∃ O, r O x y H Q) := fun pins s σ H x y v u Q I rx ry ⟨O, q⟩ => h O pins s σ H x y v u Q I rx ry q
theorem ixr_ex {r : (Addr → Prop) → R2} (h : ∀ O, IxR X (r O)) : IxR X (fun x y H Q => ∃ O, r O x y H Q) := fun value slice pins s σ H x y v u Q I rx ry ⟨O, q⟩ hs => h O value slice pins s σ H x y v u Q I rx ry q hs
theorem callr_ex {f : Value} {r : (Addr → Prop) → List V → Hp → VK → Prop} (h : ∀ O, CallR X f (r O)) : CallR X f (fun xs H Q => ∃ O, r O xs H Q) := fun pins s σ H xs us Q I rx ⟨O, q⟩ => h O pins s σ H xs us Q I rx q
theorem mtr_ex {id : String} {r : (Addr → Prop) → V → List V → Hp → VK → Prop} (h : ∀ O, MtR X id (r O)) : MtR X id (fun x xs H Q => ∃ O, r O x xs H Q) := fun pins s σ H x xs v us Q I rx rs ⟨O, q⟩ => h O pins s σ H x xs v us Q I rx rs q
theorem slr_ex {r : (Addr → Prop) → V → Option Int → Option Int → Hp → VK → Prop} (h : ∀ O, SlR X (r O)) : SlR X (fun x lo hi H Q => ∃ O, r O x lo hi H Q) := fun pins s σ H x v vl vu lo hi sl Q I rx hs pl pu ⟨O, q⟩ => h O pins s σ H x v vl vu lo hi sl Q I rx hs pl pu q
theorem Nw.back {H H1 H' : Hp} {O : Addr → Prop} {v : V} {d : D} (h : ∀ p, H1 p = none → H p = none) (n : Nw H1 H' O v d) : Nw H H' O v d := by
  cases d with
  | lst ds =>
    obtain ⟨p, vs, e, h1, h2, h3⟩ := n
    exact ⟨p, vs, e, h p h1, h2, h3⟩
  | dic ds =>
    obtain ⟨p, vs, e, h1, h2, h3⟩ := n
    exact ⟨p, vs, e, h p h1, h2, h3⟩
  | _ => exact n
theorem bindS_some {α β : Type} {x : Option (α × Mini.S)} {f : α → Mini.S → Option (β × Mini.S)} {r : β × Mini.S} (h : Mini.bindS x f = some r) : ∃ a s, x = some (a, s) ∧ f a s = some r := by
  unfold Mini.bindS at h
  cases x with
  | none => cases h
  | some p => exact ⟨p.1, p.2, rfl, h⟩
theorem retO_some {β : Type} {x : Option β} {s : Mini.S} {r : β × Mini.S} (h : Mini.retO x s = some r) : x = some r.1 ∧ s = r.2 := by
  unfold Mini.retO at h
  cases x with
  | none => cases h
  | some p => cases h; exact ⟨rfl, rfl⟩
theorem asBl_some {d : D} {b : Bool} (h : Mini.asBl d = some b) : d = .bl b := by
  cases d <;> simp [Mini.asBl] at h
  subst h; rfl
theorem Rp.blI {H : Hp} {O : Addr → Prop} {v : V} {i : Bool} (h : Rp H O v (.bl i)) : v = .bl i := by cases h; rfl
theorem Rp.intI {H : Hp} {O : Addr → Prop} {v : V} {i : Int} (h : Rp H O v (.int i)) : v = .int i := by cases h; rfl

/-! ### operations by values -/
theorem rd2 {fa fb : Fe} {g : D → D → Option D} {σ : St} {H : Hp} {Q : VK} (h : tN C (fun ρ s => Mini.bindS (fa ρ s) fun x s => Mini.bindS (fb ρ s) fun y s => Mini.retO (g x y) s) σ H Q) :
    tOp (fun x y H Q => ∃ O, rD O g x y H Q) (tA C fa) (tA C fb) σ H Q := by
  obtain ⟨A, ρ, s, d, s', F, e, q⟩ := h
  obtain ⟨x, s1, e1, e⟩ := bindS_some e
  obtain ⟨y, s2, e2, e⟩ := bindS_some e
  obtain ⟨e3, rfl⟩ := retO_some e
  refine ⟨A, ρ, s, x, s1, F, e1, fun v H1 F1 k1 r1 => ⟨A, ρ, s1, y, s2, F1, e2, fun w H2 F2 k2 r2 => ?_⟩⟩
  refine ⟨OA C A, x, y, d, (r1.kp k2).1, r2.1, e3, fun a ha => F2.trk ha, fun u H3 sm nw => ?_⟩
  exact q u H3 (F2.same sm) (k1.trans (k2.trans (.of sm))) (nw.back fun p hp => F2.back (k1.trans k2) hp)
theorem rd2E {fa fb : Fe} {g : D → D → Option D} {σ : St} {H : Hp} {Q : VK} (h : tE C (fun ρ s => Mini.bindS (fa ρ s) fun x s => Mini.bindS (fb ρ s) fun y s => Mini.retO (g x y) s) σ H Q) :
    tOp (fun x y H Q => ∃ O, rDE O g x y H Q) (tA C fa) (tA C fb) σ H Q := by
  obtain ⟨A, ρ, s, d, s', F, e, q⟩ := h
  obtain ⟨x, s1, e1, e⟩ := bindS_some e
  obtain ⟨y, s2, e2, e⟩ := bindS_some e
  obtain ⟨e3, rfl⟩ := retO_some e
  refine ⟨A, ρ, s, x, s1, F, e1, fun v H1 F1 k1 r1 => ⟨A, ρ, s1, y, s2, F1, e2, fun w H2 F2 k2 r2 => ?_⟩⟩
  refine ⟨OA C A, x, y, d, (r1.kp k2).1, r2.1, e3, fun a ha => F2.trk ha, fun u H3 sm nw => ?_⟩
  exact q u H3 (F2.same sm) (k1.trans (k2.trans (.of sm))) nw
theorem rc1 {fa : Fe} {g : D → Option D} {σ : St} {H : Hp} {Q : VK} (h : tN C (fun ρ s => Mini.bindS (fa ρ s) fun x s => Mini.retO (g x) s) σ H Q) :
    tCB (fun xs H Q => ∃ O, rF1 O g xs H Q) (tCons (tA C fa) tNil) σ H Q := by
  obtain ⟨A, ρ, s, d, s', F, e, q⟩ := h
  obtain ⟨x, s1, e1, e⟩ := bindS_some e
  obtain ⟨e3, rfl⟩ := retO_some e
  refine ⟨A, ρ, s, x, s1, F, e1, fun v H1 F1 k1 r1 => ?_⟩
  refine ⟨OA C A, v, x, d, rfl, r1.1, e3, fun a ha => F1.trk ha, fun u H3 sm nw => ?_⟩
  exact q u H3 (F1.same sm) (k1.trans (.of sm)) (nw.back fun p hp => F1.back k1 hp)
theorem rc2 {fa fb : Fe} {g : D → D → Option D} {σ : St} {H : Hp} {Q : VK} (h : tN C (fun ρ s => Mini.bindS (fa ρ s) fun x s => Mini.bindS (fb ρ s) fun y s => Mini.retO (g x y) s) σ H Q) :
    tCB (fun xs H Q => ∃ O, rF2 O g xs H Q) (tCons (tA C fa) (tCons (tA C fb) tNil)) σ H Q := by
  obtain ⟨A, ρ, s, d, s', F, e, q⟩ := h
  obtain ⟨x, s1, e1, e⟩ := bindS_some e
  obtain ⟨y, s2, e2, e⟩ := bindS_some e
  obtain ⟨e3, rfl⟩ := retO_some e
  refine ⟨A, ρ, s, x, s1, F, e1, fun v H1 F1 k1 r1 => ⟨A, ρ, s1, y, s2, F1, e2, fun w H2 F2 k2 r2 => ?_⟩⟩
  refine ⟨OA C A, v, w, x, y, d, rfl, (r1.kp k2).1, r2.1, e3, fun a ha => F2.trk ha, fun u H3 sm nw => ?_⟩
  exact q u H3 (F2.same sm) (k1.trans (k2.trans (.of sm))) (nw.back fun p hp => F2.back (k1.trans k2) hp)
/-- a value's type, for a method's call -/
theorem tyV_lst {K : PySem.W.Frag} {H : Hp} {a : Addr} {vs : List V} (h : H a = some (.lst vs)) : tyV K "list" (.ref a) H := .inl ⟨rfl, vs, .of h⟩
theorem rm1 {fa fb : Fe} {g : D → D → Option D} (hg : ∀ x y, (∀ l, x ≠ .lst l) → g x y = none) {K : PySem.W.Frag} {σ : St} {H : Hp} {Q : VK} (h : tN C (fun ρ s => Mini.bindS (fa ρ s) fun x s => Mini.bindS (fb ρ s) fun y s => Mini.retO (g x y) s) σ H Q) :
    tBM K "list" (fun x xs H Q => ∃ O, rM1 O g x xs H Q) (tA C fa) (tCons (tA C fb) tNil) σ H Q := by
  obtain ⟨A, ρ, s, d, s', F, e, q⟩ := h
  obtain ⟨x, s1, e1, e⟩ := bindS_some e
  obtain ⟨y, s2, e2, e⟩ := bindS_some e
  obtain ⟨e3, rfl⟩ := retO_some e
  refine ⟨A, ρ, s, x, s1, F, e1, fun v H1 F1 k1 r1 => ⟨?_, A, ρ, s1, y, s2, F1, e2, fun w H2 F2 k2 r2 => ?_⟩⟩
  · by_cases hx : ∃ l, x = .lst l
    · obtain ⟨l, rfl⟩ := hx
      obtain ⟨a, vs, rfl, ha, _⟩ := r1.1.lstI
      exact tyV_lst ha
    · rw [hg x y fun l z => hx ⟨l, z⟩] at e3
      cases e3
  · refine ⟨OA C A, w, x, y, d, rfl, (r1.kp k2).1, r2.1, e3, fun a ha => F2.trk ha, fun u H3 sm nw => ?_⟩
    exact q u H3 (F2.same sm) (k1.trans (k2.trans (.of sm))) (nw.back fun p hp => F2.back (k1.trans k2) hp)
end
end Snd

/-! ## SndJ -/
set_option Elab.async false
set_option linter.all false
set_option maxRecDepth 100000
set_option maxHeartbeats 4000000
/-! SndJ: contexts, names, targets, argument lists, calls of defs. -/
namespace Snd
open PySem PySem.Spec L2
open PyProof.Rows hiding St
open Mini (E T It)

/-! ### what the checks are told -/
structure Tab where
  N : List Str
  si : Nat
  fN : List Str
  gN : List Str
def isK (a : NameKind) (o : Option NameKind) : Bool := match o with
  | some b => a == b
  | none => false
def visC (sc : Scope) (y : Str) : Bool := match sc.names.lookup y with
  | some .local => true
  | some .cell => true
  | some .free => true
  | _ => false
def stoC (sc : Scope) (y : Str) : Bool := match sc.names.lookup y with
  | some .local => true
  | some .cell => true
  | _ => false
def glC (sc : Scope) (y : Str) : Bool := match sc.names.lookup y with
  | some .globalImplicit => true
  | _ => false
theorem vis_of {sc : Scope} {y : Str} (h : visC sc y = true) : Vis sc y := by
  unfold visC at h
  split at h <;> first | exact .inl (by assumption) | exact .inr (.inl (by assumption)) | exact .inr (.inr (by assumption)) | cases h
theorem sto_of {sc : Scope} {y : Str} (h : stoC sc y = true) : Loc sc y := by
  unfold stoC at h
  split at h <;> first | exact .inl (by assumption) | exact .inr (by assumption) | cases h
theorem gl_of {sc : Scope} {y : Str} (h : glC sc y = true) : sc.names.lookup y = some .globalImplicit := by
  unfold glC at h
  split at h
  · assumption
  · cases h
/-- the builtins that the checks know -/
def bltN : List Str := ["len", "tuple", "list", "sorted", "sum", "max", "min", "abs", "int", "repr", "all", "dict", "range", "enumerate", "zip", "isinstance", "str", "bool"]

/-! ### what defs promise -/
def spF (F : Mini.Fn) : Sp := fun vs H Q _ => ∃ O ds r, Trk H O ∧ RpL H O vs ds ∧ F ds = some r ∧ ∀ v H', Same H H' → Rp H' O v r → Q v H'
def spG (G : Mini.Gn) : Sp := fun vs H Q _ => ∃ O p c S us ds r S', vs = .ref p :: us ∧ SrcAt H p c S ∧ Trk H O ∧ RpL H (fun a => O a ∨ a = p ∨ a = c) us ds ∧ G S ds = some (r, S') ∧
  ∀ v H', (∀ b o, H b = some o → b ≠ p → b ≠ c → H' b = some o) → SrcAt H' p c S' → Rp H' (fun a => O a ∨ a = p ∨ a = c) v r → Q v H'
structure Good1 (X : Cx) (R : Nat) (T : Tab) (Fs : List Mini.Fn) (Gs : List Mini.Gn) : Prop where
  fn : ∀ (k : Nat) (nm : Str) (F : Mini.Fn), T.fN[k]? = some nm → Fs[k]? = some (F : Mini.Fn) → (nm == ("__debug__" : Str)) = false ∧ ∃ f fd ps, X.mg nm = some (.ref f) ∧ PySem.W.keepIn X.K (.ref f) = true ∧ Binds X.K fd ps [] ∧ FnG X.prog X.w X.K X.mg X.base R f fd ps (spF F)
  gn : ∀ (k : Nat) (nm : Str) (G : Mini.Gn), T.gN[k]? = some nm → Gs[k]? = some G → (nm == ("__debug__" : Str)) = false ∧ ∃ f fd ps, X.mg nm = some (.ref f) ∧ PySem.W.keepIn X.K (.ref f) = true ∧ Binds X.K fd ps [] ∧ FnG X.prog X.w X.K X.mg X.base R f fd ps (spG G)
  blt : ∀ y, y ∈ bltN → X.mg y = none
structure XOk (R : Nat) (T : Tab) (Fs : List Mini.Fn) (Gs : List Mini.Gn) (sc st : Scope) (X : Cx) : Prop where
  nN : X.N = T.N
  nd : X.N.Nodup
  scp : X.env.scope = sc
  sto : ∀ y, stoC st y = true → Loc X.env.scope y ∧ (X.fn y = true ∨ X.env.scope.names.lookup y = some .local)
  calm : X.calm = true
  room : Room R X.A
  one : 1 ≤ R
  gd : X.A.guards = some []
  good : Good1 X R T Fs Gs
structure COk (T : Tab) (C : Ctx) : Prop where
  si : ∀ i p c, C.sa = some (i, p, c) → i = T.si
  has : T.gN ≠ [] → ∃ p c, C.sa = some (T.si, p, c)
section
variable {R : Nat} {T : Tab} {Fs : List Mini.Fn} {Gs : List Mini.Gn} {sc st : Scope} {X : Cx} {C : Ctx}
theorem XOk.room1 (k : XOk R T Fs Gs sc st X) : Room 1 X.A := k.room.mono k.one
theorem XOk.gl (k : XOk R T Fs Gs sc st X) {y : Str} (h : glC sc y = true) : Gl X y := by
  show X.env.scope.names.lookup y = some .globalImplicit
  rw [k.scp]
  exact gl_of h
theorem XOk.vis (k : XOk R T Fs Gs sc st X) {y : Str} (h : visC sc y = true) : Vis X.env.scope y := by rw [k.scp]; exact vis_of h
/-- a name that is read -/
def nm (T : Tab) (sc : Scope) (i : Nat) (x : Expr) : Bool := match x with
  | .Name y _ => decide (T.N[i]? = some y) && visC sc y && !(y == ("__debug__" : Str)) && !(y == ("__classdict__" : Str))
  | _ => false
theorem nm_pe (k : XOk R T Fs Gs sc st X) {i : Nat} {x : Expr} (h : nm T sc i x = true) : PE X x (tVar i) := by
  unfold nm at h
  split at h
  · simp only [Bool.and_eq_true, decide_eq_true_eq, Bool.not_eq_true'] at h
    exact pe_var (by rw [k.nN]; exact h.1.1.1) (k.vis h.1.1.2) h.1.2 h.2
  · cases h
/-- a builtin's name -/
def bn (sc : Scope) (y : Str) (x : Expr) : Bool := match x with
  | .Name z _ => decide (z = y) && glC sc y
  | _ => false
theorem bn_of {y : Str} {x : Expr} (h : bn sc y x = true) : (∃ p, x = .Name y p) ∧ glC sc y = true := by
  unfold bn at h
  split at h
  · simp only [Bool.and_eq_true, decide_eq_true_eq] at h
    exact ⟨⟨_, by rw [h.1]⟩, h.2⟩
  · cases h
/-- no star -/
def noStar : Expr → Bool
  | .Starred _ _ => false
  | _ => true
theorem star_cons {e : Expr} {es : List Expr} {env : Env} (h : noStar e = true) : starEach (e :: es) env = (false, eval e env) :: starEach es env := by
  cases e <;> first | rfl | cases h
theorem star_none {pos : Pos} {env : Env} : ∀ {es : List Expr}, es.all noStar = true → (backTo pos (starEach es env)).any (·.1) = false
  | [], _ => rfl
  | e :: es, h => by
    rw [List.all_cons, Bool.and_eq_true] at h
    rw [star_cons h.1]
    show (false || (backTo pos (starEach es env)).any (·.1)) = false
    rw [star_none h.2]; rfl

/-! ### operands -/
def BqW (w : Bool) (C : Ctx) (A : Ow) (H : Hp) (v : V) (d : D) : Prop := Bq C A H v d ∧ (w = false → Rp H (OA C A) v d)
theorem BqW.kp {w : Bool} {A : Ow} {H H' : Hp} {v : V} {d : D} (k : Kp C H H') (h : BqW w C A H v d) : BqW w C A H' v d := ⟨h.1.kp k, fun e => Rp.mo (mo_kp k) _ _ (h.2 e)⟩
def tAW (w : Bool) (C : Ctx) (f : Fe) : TE := fun σ H Q => ∃ A ρ s d s', FR C A ρ s σ H ∧ f ρ s = some (d, s') ∧ ∀ v H', FR C A ρ s' σ H' → Kp C H H' → BqW w C A H' v d → Q v H'
theorem tAW_A {w : Bool} {x : Expr} {f : Fe} (h : PE X x (tAW w C f)) : PE X x (tA C f) := pe_imp h fun σ H Q ⟨A, ρ, s, d, s', F, e, q⟩ => ⟨A, ρ, s, d, s', F, e, fun v H' F' k r => q v H' F' k r.1⟩
theorem tE_AW {x : Expr} {f : Fe} (w : Bool) (h : PE X x (tE C f)) : PE X x (tAW w C f) := pe_imp h fun σ H Q ⟨A, ρ, s, d, s', F, e, q⟩ => ⟨A, ρ, s, d, s', F, e, fun v H' F' k r => q v H' F' k ⟨.of r, fun _ => r⟩⟩
abbrev Rec := E → Expr → Bool
/-- an operand: one's own list, too -/
def mA (T : Tab) (sc : Scope) (rec : Rec) (e : E) (x : Expr) : Bool := match e with
  | .own i => nm T sc i x
  | e => rec e x
theorem own_pe (k : XOk R T Fs Gs sc st X) {i : Nat} {x : Expr} {ev : Mini.Ev} (h : nm T sc i x = true) : PE X x (tAW true C fun ρ s => Mini.evA ev ρ (.own i) s) := by
  refine pe_imp (nm_pe k h) fun σ H Q ⟨A, ρ, s, d, s', F, e, q⟩ => ?_
  have e : (match ρ[i]? with
    | some (some (.own xs)) => some (Mini.D.lst xs, s)
    | some (some (.ownd kvs)) => some (.dic kvs, s)
    | _ => none) = some (d, s') := e
  split at e
  · rename_i xs er
    cases e
    obtain ⟨v, e1, a, vs, e2, rfl, e3, r⟩ := F.slot _ _ er
    exact ⟨_, e1, q _ _ F .refl ⟨⟨.lst e3 r, fun b hb => by cases hb; exact (F.own _ _ e2).2.1⟩, fun z => nomatch z⟩⟩
  · rename_i kvs er
    cases e
    obtain ⟨v, e1, a, vs, e2, rfl, e3, r⟩ := F.slot _ _ er
    exact ⟨_, e1, q _ _ F .refl ⟨⟨.dic (.inl e3) r, fun b hb => by cases hb; exact (F.own _ _ e2).2.1⟩, fun z => nomatch z⟩⟩
  · cases e
theorem mA_pe (k : XOk R T Fs Gs sc st X) {ev : Mini.Ev} {rec : Rec} (ih : ∀ e x, rec e x = true → PE X x (tE C fun ρ s => ev ρ e s)) {e : E} {x : Expr} (h : mA T sc rec e x = true) : PE X x (tAW (Mini.isOwn e) C fun ρ s => Mini.evA ev ρ e s) := by
  cases e <;> first | exact own_pe k h | exact tE_AW _ (ih _ _ h)

/-! ### lists of operands -/
def BqL (C : Ctx) (A : Ow) (H : Hp) : List Bool → List V → List D → Prop
  | [], [], [] => True
  | w :: ws, v :: vs, d :: ds => BqW w C A H v d ∧ BqL C A H ws vs ds
  | _, _, _ => False
def tAL (ws : List Bool) (C : Ctx) (f : Fl) : TA := fun σ H Q => ∃ A ρ s ds s', FR C A ρ s σ H ∧ f ρ s = some (ds, s') ∧ ∀ vs H', FR C A ρ s' σ H' → Kp C H H' → BqL C A H' ws vs ds → Q vs H'
def mL (rec : Rec) : List E → List Expr → Bool
  | [], [] => true
  | e :: es, x :: xs => rec e x && noStar x && mL rec es xs
  | _, _ => false
theorem mL_pa {ev : Mini.Env → E → Mini.S → Option (D × Mini.S)} {rec : Rec} {w : E → Bool} (ih : ∀ e x, rec e x = true → PE X x (tAW (w e) C fun ρ s => ev ρ e s)) : ∀ {es : List E} {xs : List Expr}, mL rec es xs = true →
    PA X xs (tAL (es.map w) C fun ρ s => Mini.evL (ev ρ) es s) ∧ xs.all noStar = true
  | [], [], _ => by
    refine ⟨pa_imp pa_nil fun σ H Q ⟨A, ρ, s, ds, s', F, e, q⟩ => ?_, rfl⟩
    have e : some (([] : List D), s) = some (ds, s') := e
    cases e
    exact q [] H F .refl trivial
  | e :: es, x :: xs, h => by
    rw [mL, Bool.and_eq_true, Bool.and_eq_true] at h
    obtain ⟨p, a⟩ := mL_pa ih (es := es) (xs := xs) h.2
    refine ⟨pa_imp (pa_cons (ih _ _ h.1.1) p (star_cons h.1.2)) fun σ H Q ⟨A, ρ, s, ds, s', F, q1, q⟩ => ?_, by rw [List.all_cons, h.1.2, a]; rfl⟩
    have q1 : ((ev ρ e s).bind fun p => (Mini.evL (ev ρ) es p.2).bind fun q => some (p.1 :: q.1, q.2)) = some (ds, s') := q1
    rw [Option.bind_eq_some_iff] at q1
    obtain ⟨⟨d, s1⟩, e1, q1⟩ := q1
    rw [Option.bind_eq_some_iff] at q1
    obtain ⟨⟨dr, s2⟩, e2, q1⟩ := q1
    cases q1
    refine ⟨A, ρ, s, d, s1, F, e1, fun v H1 F1 k1 b1 => ⟨A, ρ, s1, dr, s2, F1, e2, fun vs H2 F2 k2 b2 => ?_⟩⟩
    exact q _ _ F2 (k1.trans k2) ⟨b1.kp k2, b2⟩
  | [], _ :: _, h => by cases h
  | _ :: _, [], h => by cases h
theorem BqL.rp {A : Ow} {H : Hp} : ∀ {ws : List Bool} {vs : List V} {ds : List D}, BqL C A H ws vs ds → ws.any id = false → RpL H (OA C A) vs ds
  | [], [], [], _, _ => .nil
  | w :: ws, v :: vs, d :: ds, h, e => by
    rw [List.any_cons, Bool.or_eq_false_iff] at e
    exact .cons (h.1.2 e.1) (BqL.rp h.2 e.2)
  | [], [], _ :: _, h, _ => h.elim
  | [], _ :: _, _, h, _ => h.elim
  | _ :: _, [], _, h, _ => h.elim
  | _ :: _, _ :: _, [], h, _ => h.elim
/-- to a callee: the roots are not forbidden -/
theorem BqL.roots {A : Ow} {H : Hp} {O : Addr → Prop} (hO : ∀ a, O a → OA C A a) : ∀ {ws : List Bool} {vs : List V} {ds : List D}, BqL C A H ws vs ds → (∀ a, V.ref a ∈ vs → ¬ O a) → RpL H O vs ds
  | [], [], [], _, _ => .nil
  | w :: ws, v :: vs, d :: ds, h, n => by
    have m : Mo H H (OA C A) O := mo_less hO
    refine .cons ?_ (BqL.roots hO h.2 fun a ha => n a (List.mem_cons_of_mem _ ha))
    obtain ⟨⟨b, _⟩, _⟩ := h.1
    cases b with
    | of b => exact Rp.mo m _ _ b
    | lst e r => exact .lst (n _ List.mem_cons_self) e (RpL.mo m _ _ r)
    | dic e r => exact .dic (n _ List.mem_cons_self) e (RpK.mo m _ _ r)
  | [], [], _ :: _, h, _ => h.elim
  | [], _ :: _, _, h, _ => h.elim
  | _ :: _, [], _, h, _ => h.elim
  | _ :: _, _ :: _, [], h, _ => h.elim
theorem BqL.noO {A : Ow} {H : Hp} : ∀ {ws : List Bool} {vs : List V} {ds : List D}, BqL C A H ws vs ds → ws.any id = false → ∀ a, V.ref a ∈ vs → ¬ OA C A a := fun h e a ha => by
  have r := h.rp e
  clear h e
  revert ha
  intro ha
  obtain ⟨k, hk⟩ := List.mem_iff_getElem?.mp ha
  obtain ⟨d, _, rp⟩ := r.getV hk
  exact rp_notO rp
theorem BqL.noSrc {A : Ow} {H : Hp} : ∀ {ws : List Bool} {vs : List V} {ds : List D}, BqL C A H ws vs ds → ∀ a, V.ref a ∈ vs → ¬ isSrc C a
  | [], [], [], _, a, ha => by simp at ha
  | w :: ws, v :: vs, d :: ds, h, a, ha => by
    rcases List.mem_cons.mp ha with z | z
    · exact h.1.1.2 a z.symm
    · exact BqL.noSrc h.2 a z
  | [], [], _ :: _, h, _, _ => h.elim
  | [], _ :: _, _, h, _, _ => h.elim
  | _ :: _, [], _, h, _, _ => h.elim
  | _ :: _, _ :: _, [], h, _, _ => h.elim
mutual
/-- what has no list and no dict is nowhere one's own -/
theorem Rp.still {H : Hp} {O O' : Addr → Prop} (hT : ∀ p vs, H p = some (.tup vs) → ¬ O' p) : ∀ (d : D) (v : V), Rp H O v d → Mini.still d = true → Rp H O' v d
  | .non, _, h, _ => by cases h; exact .non
  | .bl _, _, h, _ => by cases h; exact .bl _
  | .int _, _, h, _ => by cases h; exact .int _
  | .str _, _, h, _ => by cases h; exact .str _
  | .rep _, _, h, _ => by cases h; exact .rep _
  | .lst _, _, _, e => by simp [Mini.still] at e
  | .dic _, _, _, e => by simp [Mini.still] at e
  | .tup ds, _, h, e => by
    rw [Mini.still] at e
    cases h with
    | tup n r l => exact .tup (hT _ _ r) r (RpL.still hT ds _ l e)
theorem RpL.still {H : Hp} {O O' : Addr → Prop} (hT : ∀ p vs, H p = some (.tup vs) → ¬ O' p) : ∀ (ds : List D) (vs : List V), RpL H O vs ds → Mini.stillL ds = true → RpL H O' vs ds
  | [], _, h, _ => by cases h; exact .nil
  | d :: ds, _, h, e => by
    rw [Mini.stillL, Bool.and_eq_true] at e
    cases h with
    | cons h1 h2 => exact .cons (Rp.still hT d _ h1 e.1) (RpL.still hT ds _ h2 e.2)
end

/-! ### calls of defs -/
def mC (T : Tab) (sc : Scope) (rec : Rec) (k : Nat) (es : List E) (x : Expr) : Bool := match x with
  | .Call (.Name y _) (z :: zs) [] _ => decide (T.fN[k]? = some y) && glC sc y && mL (mA T sc rec) es (z :: zs)
  | _ => false
theorem mC_pe (kx : XOk R T Fs Gs sc st X) {ev : Mini.Ev} {rec : Rec} (ih : ∀ e x, rec e x = true → PE X x (tE C fun ρ s => ev ρ e s)) {k : Nat} {es : List E} {x : Expr} (h : mC T sc rec k es x = true) :
    PE X x (tE C fun ρ s => Mini.bindS (Mini.evL (Mini.evA ev ρ) es s) fun xs s => (Fs[k]?).bind fun F => (F xs).bind fun r => if es.any Mini.isOwn && !Mini.still r then none else some (r, s)) := by
  unfold mC at h
  split at h
  · rename_i y p z zs pos
    simp only [Bool.and_eq_true, decide_eq_true_eq] at h
    obtain ⟨⟨hn, hg⟩, hl⟩ := h
    obtain ⟨pa, ns⟩ := mL_pa (ev := Mini.evA ev) (fun e x he => mA_pe kx ih he) hl
    cases hF : Fs[k]? with
    | none =>
      refine ⟨fun pins s σ H Q I ⟨A, ρ, s0, d, s', F, e, q⟩ => ?_⟩
      obtain ⟨xs, s1, _, e⟩ := bindS_some e
      cases e
    | some F0 =>
      obtain ⟨hd, f, fd, ps, hm, hk, hb, fg⟩ := kx.good.fn k y F0 hn hF
      refine pe_imp (pe_callG fg kx.gd kx.room (kx.gl hg) hm hk hb pa hd (star_none ns)) fun σ H Q ⟨A, ρ, s, d, s', F, e, q⟩ => ?_
      obtain ⟨xs, s1, e1, e⟩ := bindS_some e
      obtain ⟨r, e2, e⟩ := Option.bind_eq_some_iff.mp (show (F0 xs).bind _ = some (d, s') from e)
      refine ⟨A, ρ, s, xs, s1, F, e1, fun vs H1 F1 k1 b1 => ?_⟩
      have hO : ∀ a, (OA C A a ∧ V.ref a ∉ vs) → OA C A a := fun a z => z.1
      refine ⟨fun a => OA C A a ∧ V.ref a ∉ vs, xs, r, fun a ha => F1.trk ha.1, b1.roots hO fun a ha z => z.2 ha, e2, fun v H' sm rp => ?_⟩
      have F' := F1.same sm
      have hmap : (es.map Mini.isOwn).any id = es.any Mini.isOwn := by rw [List.any_map]; rfl
      cases ho : es.any Mini.isOwn with
      | false =>
        rw [ho, Bool.false_and, if_neg Bool.false_ne_true] at e
        cases e
        refine q v H' F' (k1.trans (.of sm)) (Rp.mo ⟨fun _ _ e _ => e, fun b o e z => ⟨z, fun hb => ?_⟩⟩ _ _ rp)
        exact b1.noO (hmap.trans ho) b hb z
      | true =>
        rw [ho, Bool.true_and] at e
        cases hs : Mini.still r with
        | false => rw [hs] at e; cases e
        | true =>
          rw [hs] at e
          cases e
          exact q v H' F' (k1.trans (.of sm)) (Rp.still (fun p vs hp => F'.notT hp) _ _ rp hs)
  · cases h
theorem FR.srcS {A : Ow} {ρ : Mini.Env} {s : Mini.S} {σ : St} {H : Hp} (F : FR C A ρ s σ H) {i : Nat} {p c : Addr} (h : C.sa = some (i, p, c)) : ∃ S, s = some S ∧ σ[i]? = some (some (.ref p)) ∧ SrcAt H p c S := by
  have z := F.src
  unfold SrcR at z
  rw [h] at z
  cases s with
  | none => exact z.elim
  | some S => exact ⟨S, rfl, z.1, z.2⟩
theorem src_pe (kx : XOk R T Fs Gs sc st X) {p c : Addr} (hs : C.sa = some (T.si, p, c)) {x : Expr} (h : nm T sc T.si x = true) : PE X x (fun σ H Q => ∃ A ρ s, FR C A ρ s σ H ∧ Q (.ref p) H) := by
  refine pe_imp (nm_pe kx h) fun σ H Q ⟨A, ρ, S, F, q⟩ => ?_
  obtain ⟨S, _, e, _⟩ := F.srcS hs
  exact ⟨_, e, q⟩
def mCS (T : Tab) (sc : Scope) (rec : Rec) (k : Nat) (es : List E) (x : Expr) : Bool := match x with
  | .Call (.Name y _) (z :: zs) [] _ => decide (T.gN[k]? = some y) && glC sc y && nm T sc T.si z && mL (mA T sc rec) es zs
  | _ => false
theorem nm_star {T : Tab} {sc : Scope} {i : Nat} {x : Expr} (h : nm T sc i x = true) : noStar x = true := by
  unfold nm at h
  split at h
  · rfl
  · cases h
theorem mCS_pe (kx : XOk R T Fs Gs sc st X) (kc : COk T C) {ev : Mini.Ev} {rec : Rec} (ih : ∀ e x, rec e x = true → PE X x (tE C fun ρ s => ev ρ e s)) {k : Nat} {es : List E} {x : Expr} (h : mCS T sc rec k es x = true) :
    PE X x (tE C fun ρ s => Mini.bindS (Mini.evL (Mini.evA ev ρ) es s) fun xs s => match s, Gs[k]? with
      | some src, some G => (G src xs).bind fun p => if es.any Mini.isOwn && !Mini.still p.1 then none else some (p.1, some p.2)
      | _, _ => none) := by
  unfold mCS at h
  split at h
  · rename_i y p z zs pos
    simp only [Bool.and_eq_true, decide_eq_true_eq] at h
    obtain ⟨⟨⟨hn, hg⟩, hz⟩, hl⟩ := h
    obtain ⟨pa, ns⟩ := mL_pa (ev := Mini.evA ev) (fun e x he => mA_pe kx ih he) hl
    cases hF : Gs[k]? with
    | none =>
      refine ⟨fun pins s σ H Q I ⟨A, ρ, s0, d, s', F, e, q⟩ => ?_⟩
      obtain ⟨xs, s1, _, e⟩ := bindS_some e
      simp only [hF] at e
      cases s1 <;> cases e
    | some G0 =>
      obtain ⟨hd, f, fd, ps, hm, hk, hb, fg⟩ := kx.good.gn k y G0 hn hF
      have nz := nm_star hz
      have ng : T.gN ≠ [] := fun z => by rw [z] at hn; simp at hn
      obtain ⟨p, c, hs⟩ := kc.has ng
      refine pe_imp (pe_callG fg kx.gd kx.room (kx.gl hg) hm hk hb (pa_cons (src_pe kx hs hz) pa (star_cons nz)) hd (star_none (by rw [List.all_cons, nz, ns]; rfl))) fun σ H Q ⟨A, ρ, s, d, s', F, e, q⟩ => ?_
      obtain ⟨xs, s1, e1, e⟩ := bindS_some e
      refine ⟨A, ρ, s, F, A, ρ, s, xs, s1, F, e1, fun vs H1 F1 k1 b1 => ?_⟩
      obtain ⟨S, rfl, eσ, sat⟩ := F1.srcS hs
      simp only [hF] at e
      obtain ⟨⟨r, S'⟩, e2, e⟩ := Option.bind_eq_some_iff.mp e
      have hsrc : ∀ a, isSrc C a ↔ a = p ∨ a = c := fun a => ⟨fun ⟨i, p', c', h1, h2⟩ => by rw [hs] at h1; cases h1; exact h2, fun z => ⟨_, p, c, hs, z⟩⟩
      have hO : ∀ a, ((OA C A a ∧ ¬ isSrc C a ∧ V.ref a ∉ vs) ∨ a = p ∨ a = c) → OA C A a := fun a z => z.elim (fun z => z.1) fun z => .inr (.inl ((hsrc a).mpr z))
      refine ⟨fun a => OA C A a ∧ ¬ isSrc C a ∧ V.ref a ∉ vs, p, c, S, vs, xs, r, S', rfl, sat, fun a ha => F1.trk ha.1, b1.roots hO fun a ha z => ?_, e2, fun v H' kp sat' rp => ?_⟩
      · rcases z with z | z
        · exact z.2.2 ha
        · exact b1.noSrc a ha ((hsrc a).mpr z)
      have kk : Kp C H1 H' := fun b o e n => kp b o e (fun z => n ((hsrc b).mpr (.inl z))) fun z => n ((hsrc b).mpr (.inr z))
      have F' : FR C A ρ (some S') σ H' := F1.step kk (by unfold SrcR; rw [hs]; exact ⟨eσ, sat'⟩)
      have hmap : (es.map Mini.isOwn).any id = es.any Mini.isOwn := by rw [List.any_map]; rfl
      cases ho : es.any Mini.isOwn with
      | false =>
        rw [ho, Bool.false_and, if_neg Bool.false_ne_true] at e
        cases e
        refine q v H' F' (k1.trans kk) (Rp.mo ⟨fun _ _ e _ => e, fun b o e z => ?_⟩ _ _ rp)
        by_cases zs : isSrc C b
        · exact .inr ((hsrc b).mp zs)
        · exact .inl ⟨z, zs, fun hb => b1.noO (hmap.trans ho) b hb z⟩
      | true =>
        rw [ho, Bool.true_and] at e
        cases hst : Mini.still r with
        | false => simp only [hst] at e; cases e
        | true =>
          simp only [hst] at e
          cases e
          exact q v H' F' (k1.trans kk) (Rp.still (fun p vs hp => F'.notT hp) _ _ rp hst)
  · cases h
end
end Snd

/-! ## SndK -/
set_option Elab.async false
set_option linter.all false
set_option maxRecDepth 100000
set_option maxHeartbeats 4000000
/-! SndK: targets, what is walked, comprehensions. -/
namespace Snd
open PySem PySem.Spec L2
open PyProof.Rows hiding St
open Mini (E T)

/-! ### frames that change -/
section
variable {C : Ctx} {A : Ow} {ρ : Mini.Env} {s s' : Mini.S} {σ σ' : St} {H H' : Hp}
theorem SrcR.of {σ1 : St} {H1 : Hp} (a : SrcR C σ s H) (b : SrcR C σ1 s' H1) : SrcR C σ s' H1 := by
  unfold SrcR at *
  cases hs : C.sa with
  | none =>
    rw [hs] at b
    cases s' with
    | none => trivial
    | some S' => exact b.elim
  | some t =>
    obtain ⟨i, p, c⟩ := t
    rw [hs] at a b
    cases s with
    | none => exact a.elim
    | some S =>
      cases s' with
      | none => exact b.elim
      | some S' => exact ⟨a.1, b.2⟩
theorem SrcR.set {i : Nat} {x : Option V} (n : ∀ j p c, C.sa = some (j, p, c) → j ≠ i) (a : SrcR C σ s H) : SrcR C (σ.set i x) s H := by
  unfold SrcR at *
  split at a
  · rename_i j p c S e1
    refine ⟨?_, a.2⟩
    rw [List.getElem?_set_ne (Ne.symm (n j p c e1))]
    exact a.1
  · trivial
  · exact a.elim
theorem FR.put (F : FR C A ρ s σ H) {i : Nat} {v : V} {d : D} (n : ∀ j p c, C.sa = some (j, p, c) → j ≠ i) (r : Rp H (OA C A) v d) : FR C A (ρ.set i (some (.val d))) s (σ.set i (some v)) H where
  len := by rw [List.length_set, List.length_set]; exact F.len
  slot := fun j x e => by
    by_cases hj : i = j
    · subst hj
      by_cases hl : i < ρ.length
      · rw [List.getElem?_set_self hl] at e
        cases e
        exact ⟨v, List.getElem?_set_self (by rw [← F.len]; exact hl), r⟩
      · rw [List.getElem?_eq_none (by rw [List.length_set]; omega)] at e
        cases e
    · rw [List.getElem?_set_ne hj] at e
      rw [List.getElem?_set_ne hj]
      exact F.slot j x e
  inj := F.inj
  own := F.own
  keep := F.keep
  src := F.src.set n
  fin := F.fin
theorem FR.forget (F : FR C A ρ s σ H) {i : Nat} (n : ∀ j p c, C.sa = some (j, p, c) → j ≠ i) : FR C A (ρ.set i none) s (σ.set i none) H where
  len := by rw [List.length_set, List.length_set]; exact F.len
  slot := fun j x e => by
    by_cases hj : i = j
    · subst hj
      by_cases hl : i < ρ.length
      · rw [List.getElem?_set_self hl] at e
        cases e
      · rw [List.getElem?_eq_none (by rw [List.length_set]; omega)] at e
        cases e
    · rw [List.getElem?_set_ne hj] at e
      rw [List.getElem?_set_ne hj]
      exact F.slot j x e
  inj := F.inj
  own := F.own
  keep := F.keep
  src := F.src.set n
  fin := F.fin
theorem FR.wipe (F : FR C A ρ s σ H) : ∀ {vs : List Nat}, (∀ j p c, C.sa = some (j, p, c) → j ∉ vs) → FR C A (Mini.wipe ρ vs) s (L2.wipe σ vs) H
  | [], _ => F
  | v :: vs, n => by
    have G := FR.wipe F (vs := vs) fun j p c e z => n j p c e (List.mem_cons_of_mem _ z)
    exact G.forget fun j p c e z => n j p c e (by rw [z]; exact List.mem_cons_self)
/-- a new object of one's own, at no slot -/
def addO (A : Ow) (k : Nat) (p : Addr) : Ow := fun i => if i = k then some p else A i
theorem oa_add {k : Nat} {p a : Addr} (hk : A k = none) : OA C (addO A k p) a ↔ OA C A a ∨ a = p := by
  constructor
  · rintro (h | h | ⟨i, h⟩)
    · exact .inl (.inl h)
    · exact .inl (.inr (.inl h))
    · unfold addO at h
      split at h
      · cases h; exact .inr rfl
      · exact .inl (.inr (.inr ⟨i, h⟩))
  · rintro ((h | h | ⟨i, h⟩) | h)
    · exact .inl h
    · exact .inr (.inl h)
    · refine .inr (.inr ⟨i, ?_⟩)
      unfold addO
      rw [if_neg (fun e => by rw [e, hk] at h; cases h)]
      exact h
    · exact .inr (.inr ⟨k, by unfold addO; rw [if_pos rfl, h]⟩)
theorem FR.h0 (F : FR C A ρ s σ H) {p : Addr} (h : H p = none) : C.H0 p = none ∧ ¬ isSrc C p := by
  have n : ¬ isSrc C p := fun z => by
    obtain ⟨o, e, _⟩ := F.srcT z
    rw [h] at e; cases e
  refine ⟨?_, n⟩
  cases e : C.H0 p with
  | none => rfl
  | some o => rw [F.keep _ _ e n] at h; cases h
theorem mo_add {k : Nat} {p : Addr} {o : HO} (hk : A k = none) (hp : H p = none) : Mo H (upd H p o) (OA C A) (OA C (addO A k p)) :=
  ⟨fun b u e _ => same_upd hp b u e, fun b u e z => (oa_add hk).mp z |>.elim id fun z => by rw [z, hp] at e; cases e⟩
theorem FR.add (F : FR C A ρ s σ H) {k : Nat} {p : Addr} {o : HO} (hk : A k = none) (hp : H p = none) (ho : ∀ vs, o ≠ .tup vs) : FR C (addO A k p) ρ s σ (upd H p o) where
  len := F.len
  slot := fun i x e => by
    obtain ⟨v, h1, h2⟩ := F.slot i x e
    refine ⟨v, h1, ?_⟩
    have m := mo_add (C := C) (o := o) hk hp
    have sm := same_upd (o := o) hp
    cases x with
    | val d => exact Rp.mo m _ _ h2
    | own ds =>
      obtain ⟨a, vs, ha, e1, e2, r⟩ := h2
      refine ⟨a, vs, ?_, e1, sm _ _ e2, RpL.mo m _ _ r⟩
      unfold addO; rw [if_neg (fun z => by rw [z, hk] at ha; cases ha)]; exact ha
    | ownd ds =>
      obtain ⟨a, vs, ha, e1, e2, r⟩ := h2
      refine ⟨a, vs, ?_, e1, sm _ _ e2, RpK.mo m _ _ r⟩
      unfold addO; rw [if_neg (fun z => by rw [z, hk] at ha; cases ha)]; exact ha
  inj := fun i j a e1 e2 => by
    have np : ∀ i, A i ≠ some p := fun i z => by
      obtain ⟨_, _, o, h, _⟩ := F.own i p z
      rw [hp] at h; cases h
    unfold addO at e1 e2
    split at e1 <;> split at e2
    · rename_i h1 h2; rw [h1, h2]
    · cases e1; exact absurd e2 (np j)
    · cases e2; exact absurd e1 (np i)
    · exact F.inj i j a e1 e2
  own := fun i a e => by
    unfold addO at e
    split at e
    · cases e
      exact ⟨(F.h0 hp).1, (F.h0 hp).2, o, upd_same, ho⟩
    · obtain ⟨h1, h2, u, h3, h4⟩ := F.own i a e
      exact ⟨h1, h2, u, same_upd hp _ _ h3, h4⟩
  keep := F.keep.trans (.of (same_upd hp))
  src := F.src.same (same_upd hp)
  fin := by
    obtain ⟨m, hm⟩ := F.fin
    refine ⟨max m (k + 1), fun i hi => ?_⟩
    unfold addO
    rw [if_neg (by omega)]
    exact hm i (by omega)
/-- one's own object, at no slot, written -/
theorem mo_own {k : Nat} {p : Addr} {o : HO} (hk : A k = some p) : Mo H (upd H p o) (OA C A) (OA C A) :=
  ⟨fun b u e n => by
    by_cases hb : b = p
    · exact absurd (.inr (.inr ⟨k, by rw [hb]; exact hk⟩)) n
    · rw [upd_ne hb]; exact e, fun _ _ _ z => z⟩
theorem FR.write (F : FR C A ρ s σ H) {k : Nat} {p : Addr} {o : HO} (hk : A k = some p) (hn : ∀ x, ρ[k]? = some (some x) → ∃ d, x = .val d) (ho : ∀ vs, o ≠ .tup vs) : FR C A ρ s σ (upd H p o) where
  len := F.len
  slot := fun i x e => by
    obtain ⟨v, h1, h2⟩ := F.slot i x e
    refine ⟨v, h1, ?_⟩
    have m := mo_own (C := C) (H := H) (o := o) hk
    have ne : ∀ a, A i = some a → (∀ d, x ≠ .val d) → a ≠ p := fun a ha hx z => by
      have := F.inj i k p (by rw [← z]; exact ha) hk
      subst this
      obtain ⟨d, hd⟩ := hn x e
      exact hx d hd
    cases x with
    | val d => exact Rp.mo m _ _ h2
    | own ds =>
      obtain ⟨a, vs, ha, e1, e2, r⟩ := h2
      exact ⟨a, vs, ha, e1, by rw [upd_ne (ne a ha (fun d z => nomatch z))]; exact e2, RpL.mo m _ _ r⟩
    | ownd ds =>
      obtain ⟨a, vs, ha, e1, e2, r⟩ := h2
      exact ⟨a, vs, ha, e1, by rw [upd_ne (ne a ha (fun d z => nomatch z))]; exact e2, RpK.mo m _ _ r⟩
  inj := F.inj
  own := fun i a e => by
    obtain ⟨h1, h2, u, h3, h4⟩ := F.own i a e
    by_cases ha : a = p
    · exact ⟨h1, h2, o, by rw [ha]; exact upd_same, ho⟩
    · exact ⟨h1, h2, u, by rw [upd_ne ha]; exact h3, h4⟩
  keep := fun b u e n => by
    have h0 := (F.own k p hk).1
    rw [upd_ne (fun z => by rw [z, h0] at e; cases e)]
    exact F.keep b u e n
  src := by
    have z := F.src
    have ns := (F.own k p hk).2.1
    unfold SrcR at z ⊢
    split at z
    · rename_i j q c S e1
      obtain ⟨z1, z2, z3, z4⟩ := z
      refine ⟨z1, z2, ?_, ?_⟩
      · rw [upd_ne (fun z => ns ⟨j, q, c, e1, .inl z.symm⟩)]; exact z3
      · rw [upd_ne (fun z => ns ⟨j, q, c, e1, .inr z.symm⟩)]; exact z4
    · trivial
    · exact z.elim
  fin := F.fin
end

/-! ### targets -/
section
variable {R : Nat} {T : Tab} {Fs : List Mini.Fn} {Gs : List Mini.Gn} {sc st : Scope} {X : Cx} {C : Ctx}
mutual
def idxT : Mini.T → List Nat
  | .var i => [i]
  | .tup ts => idxTs ts
def idxTs : List Mini.T → List Nat
  | [] => []
  | t :: ts => idxT t ++ idxTs ts
end
def Tch (ix : List Nat) (σ σ' : St) : Prop := σ'.length = σ.length ∧ ∀ j, j ∉ ix → σ'[j]? = σ[j]?
def gT (C : Ctx) (n : Nat) (t : Mini.T) : TG := fun v σ H Q => ∃ A ρ s d ρ', FR C A ρ s σ H ∧ Rp H (OA C A) v d ∧ Mini.bindT n t d ρ = some ρ' ∧ ∀ σ', FR C A ρ' s σ' H → Tch (idxT t) σ σ' → Q σ' H
def gTs (C : Ctx) (n : Nat) (ts : List Mini.T) : TGs := fun vs σ H Q => ∃ A ρ s ds ρ', FR C A ρ s σ H ∧ RpL H (OA C A) vs ds ∧ ds.length = ts.length ∧ (ts.zip ds).foldlM (fun ρ p => Mini.bindT n p.1 p.2 ρ) ρ = some ρ' ∧ ∀ σ', FR C A ρ' s σ' H → Tch (idxTs ts) σ σ' → Q σ' H
def nmS (T : Tab) (st : Scope) (i : Nat) (x : Expr) : Bool := match x with
  | .Name y _ => decide (T.N[i]? = some y) && stoC st y && decide (i ≠ T.si)
  | _ => false
def mTL (rec : Mini.T → Expr → Bool) : List Mini.T → List Expr → Bool
  | [], [] => true
  | t :: ts, x :: xs => rec t x && noStar x && mTL rec ts xs
  | _, _ => false
def tupX (f : List Expr → Bool) (x : Expr) : Bool := match x with
  | .Tuple xs _ _ => f xs
  | _ => false
theorem tupX_of {f : List Expr → Bool} {x : Expr} (h : tupX f x = true) : ∃ xs k pos, x = .Tuple xs k pos ∧ f xs = true := by
  unfold tupX at h
  split at h
  · exact ⟨_, _, _, rfl, h⟩
  · cases h
def mTg (T : Tab) (st : Scope) : Nat → Mini.T → Expr → Bool
  | 0, _, _ => false
  | n + 1, .var i, x => nmS T st i x
  | n + 1, .tup ts, x => tupX (mTL (mTg T st n) ts) x
theorem pg_imp {x : Expr} {t u : TG} (h : PG X x t) (i : ∀ v σ H Q, u v σ H Q → t v σ H Q) : PG X x u := ⟨fun pins s σ H v w Q I r q => h.run pins s σ H v w Q I r (i v σ H Q q)⟩
theorem pgs_imp {x : List Expr} {t u : TGs} (h : PGs X x t) (i : ∀ v σ H Q, u v σ H Q → t v σ H Q) : PGs X x u := ⟨fun pins s σ H v w Q I r q => h.run pins s σ H v w Q I r (i v σ H Q q)⟩
theorem pg_or {x : Expr} {t u : TG} (h : PG X x t) (k : PG X x u) : PG X x (fun v σ H Q => t v σ H Q ∨ u v σ H Q) := ⟨fun pins s σ H v w Q I r q => q.elim (fun q => h.run pins s σ H v w Q I r q) fun q => k.run pins s σ H v w Q I r q⟩
theorem asg_len {env : Env} : ∀ {es : List Expr}, (assignEach es env).length = es.length
  | [] => rfl
  | e :: es => by
    have h := asg_len (env := env) (es := es)
    cases e <;> simp [assignEach, h]
theorem asg_cons {e : Expr} {es : List Expr} {env : Env} (h : noStar e = true) : assignEach (e :: es) env = (false, assign e env) :: assignEach es env := by
  cases e <;> first | rfl | cases h
theorem asg_none {env : Env} : ∀ {es : List Expr}, es.all noStar = true → (assignEach es env).findIdx? (·.1) = none
  | [], _ => rfl
  | e :: es, h => by
    rw [List.all_cons, Bool.and_eq_true] at h
    rw [asg_cons h.1, List.findIdx?_cons]
    simp only [Bool.false_eq_true, if_false]
    rw [asg_none h.2]; rfl
theorem mTL_star {rec : Mini.T → Expr → Bool} : ∀ {ts : List Mini.T} {xs : List Expr}, mTL rec ts xs = true → xs.all noStar = true ∧ xs.length = ts.length
  | [], [], _ => ⟨rfl, rfl⟩
  | t :: ts, x :: xs, h => by
    rw [mTL, Bool.and_eq_true, Bool.and_eq_true] at h
    obtain ⟨a, b⟩ := mTL_star h.2
    exact ⟨by rw [List.all_cons, h.1.2, a]; rfl, by simp [b]⟩
  | [], _ :: _, h => by cases h
  | _ :: _, [], h => by cases h
theorem nmS_pg (kx : XOk R T Fs Gs sc st X) {i : Nat} {x : Expr} (h : nmS T st i x = true) : PG X x (gName i) ∧ i ≠ T.si := by
  unfold nmS at h
  split at h
  · simp only [Bool.and_eq_true, decide_eq_true_eq] at h
    obtain ⟨l, f⟩ := kx.sto _ h.1.2
    exact ⟨pg_name kx.nd (by rw [kx.nN]; exact h.1.1) l f, h.2⟩
  · cases h
theorem COk.ne (kc : COk T C) {i : Nat} (h : i ≠ T.si) : ∀ j p c, C.sa = some (j, p, c) → j ≠ i := fun j p c e z => h (by rw [← z]; exact kc.si j p c e)
theorem mTg_pg (kx : XOk R T Fs Gs sc st X) (kc : COk T C) : ∀ (n : Nat) (t : Mini.T) (x : Expr), mTg T st n t x = true → PG X x (gT C n t)
  | 0, _, _, h => by cases h
  | n + 1, .var i, x, h => by
    rw [mTg] at h
    obtain ⟨p, ne⟩ := nmS_pg kx h
    refine pg_imp p fun v σ H Q ⟨A, ρ, s, d, ρ', F, r, e, q⟩ => ?_
    rw [Mini.bindT] at e
    split at e
    · cases e
      refine q _ (F.put (kc.ne ne) r) ⟨List.length_set, fun j hj => List.getElem?_set_ne (fun z => hj ?_)⟩
      rw [idxT, z]; exact List.mem_singleton_self _
    · cases e
  | n + 1, .tup ts, x, h => by
    · obtain ⟨xs, k, pos, rfl, h⟩ := tupX_of (show tupX (mTL (mTg T st n) ts) x = true from h)
      have all : ∀ (ts : List Mini.T) (xs : List Expr), mTL (mTg T st n) ts xs = true → PGs X xs (gTs C n ts) := by
        intro ts
        induction ts with
        | nil =>
          intro xs h
          cases xs with
          | nil =>
            refine pgs_imp pgs_nil fun vs σ H Q ⟨A, ρ, s, ds, ρ', F, r, l, e, q⟩ => ?_
            cases ds with
            | cons _ _ => simp at l
            | nil =>
              cases r
              have e : some ρ = some ρ' := e
              cases e
              exact ⟨rfl, q σ F ⟨rfl, fun _ _ => rfl⟩⟩
          | cons _ _ => cases h
        | cons t ts ih =>
          intro xs h
          cases xs with
          | nil => cases h
          | cons x xs =>
            rw [mTL, Bool.and_eq_true, Bool.and_eq_true] at h
            refine pgs_imp (pgs_cons (mTg_pg kx kc n t x h.1.1) (ih xs h.2) (by rw [asg_cons h.1.2]; rfl)) fun vs σ H Q ⟨A, ρ, s, ds, ρ', F, r, l, e, q⟩ => ?_
            cases ds with
            | nil => simp at l
            | cons d ds =>
              cases r with
              | cons r1 r2 =>
                rw [List.zip_cons_cons, List.foldlM_cons] at e
                obtain ⟨ρ1, e1, e2⟩ := Option.bind_eq_some_iff.mp e
                refine ⟨_, _, rfl, A, ρ, s, d, ρ1, F, r1, e1, fun σ1 F1 c1 => ⟨A, ρ1, s, ds, ρ', F1, r2, by simpa using l, e2, fun σ2 F2 c2 => ?_⟩⟩
                refine q σ2 F2 ⟨c2.1.trans c1.1, fun j hj => ?_⟩
                rw [idxTs, List.mem_append, not_or] at hj
                rw [c2.2 j hj.2, c1.2 j hj.1]
      obtain ⟨ns, hl⟩ := mTL_star h
      have p1 := pg_tup (k := k) (pos := pos) (n := xs.length) kx.calm (all ts xs h) asg_len (asg_none ns)
      have p2 := pg_unl (k := k) (pos := pos) (n := xs.length) kx.calm (all ts xs h) asg_len (asg_none ns)
      refine pg_imp (pg_or p1 p2) fun v σ H Q ⟨A, ρ, s, d, ρ', F, r, e, q⟩ => ?_
      have fin : ∀ {vs : List V} {ds : List D}, RpL H (OA C A) vs ds → (if ds.length = ts.length then (ts.zip ds).foldlM (fun ρ p => Mini.bindT n p.1 p.2 ρ) ρ else none) = some ρ' → vs.length = xs.length ∧ gTs C n ts vs σ H Q := fun {vs ds} rl e => by
        split at e
        · rename_i hl2
          exact ⟨by rw [rl.length, hl2, hl], A, ρ, s, ds, ρ', F, rl, hl2, e, q⟩
        · cases e
      cases d with
      | tup ds =>
        cases r with
        | tup n r rl =>
          obtain ⟨z1, z2⟩ := fin rl e
          exact .inl ⟨_, _, rfl, .of r, z1, z2⟩
      | lst ds =>
        cases r with
        | lst n r rl =>
          obtain ⟨z1, z2⟩ := fin rl e
          exact .inr ⟨_, _, rfl, .of r, z1, z2⟩
      | _ => simp [Mini.bindT] at e

/-! ### what is walked -/
def JR (C : Ctx) (A : Ow) (w : Bool) (J : L2.It) (xs : List D) (H : Hp) : Prop := ∀ (M O' : Addr → Prop) (H' : Hp), (∀ b o, H b = some o → M b → if w = true then isSrc C b else OA C A b) → (∀ b o, H b = some o → O' b → OA C A b) →
  (∀ b, O' b → ∃ o, H' b = some o) → (∀ b o, H b = some o → ¬ M b → H' b = some o) →
  (∀ i d, xs[i]? = some d → J.go i H' ∧ ∀ x H'', J.yld i H' x H'' → Same H' H'' ∧ Rp H'' O' x d) ∧ ∀ i, xs.length ≤ i → J.stop i H'
def tI (w : Bool) (C : Ctx) (f : Fl) : TI := fun σ H Q => ∃ A ρ s xs s', FR C A ρ s σ H ∧ f ρ s = some (xs, s') ∧ ∀ J H', FR C A ρ s' σ H' → Kp C H H' → JR C A w J xs H' → Q J H'
theorem pi_imp {tg x : Expr} {t u : TI} (h : PI X tg x t) (i : ∀ σ H Q, u σ H Q → t σ H Q) : PI X tg x u := ⟨fun pins s σ H Q I q => h.run pins s σ H Q I (i σ H Q q)⟩
theorem pi_or {tg x : Expr} {t u : TI} (h : PI X tg x t) (k : PI X tg x u) : PI X tg x (fun σ H Q => t σ H Q ∨ u σ H Q) := ⟨fun pins s σ H Q I q => q.elim (fun q => h.run pins s σ H Q I q) fun q => k.run pins s σ H Q I q⟩
theorem jr_mo {A : Ow} {w : Bool} {H H' : Hp} {M O' : Addr → Prop} (h1 : ∀ b o, H b = some o → M b → if w = true then isSrc C b else OA C A b) (h2 : ∀ b o, H b = some o → O' b → OA C A b) (h4 : ∀ b o, H b = some o → ¬ M b → H' b = some o) : Mo H H' (OA C A) O' :=
  ⟨fun b o e n => h4 b o e fun z => by
    have q := h1 b o e z
    split at q
    · exact n (.inr (.inl q))
    · exact n q, h2⟩
theorem BqW.notM {A : Ow} {w : Bool} {H : Hp} {M : Addr → Prop} {a : Addr} {d : D} {o : HO} (b : BqW w C A H (.ref a) d) (e : H a = some o) (h1 : ∀ b o, H b = some o → M b → if w = true then isSrc C b else OA C A b) : ¬ M a := fun z => by
  have q := h1 a o e z
  cases w with
  | true => exact b.1.2 a rfl q
  | false => exact rp_notO (b.2 rfl) q
theorem itl_list {K : PySem.W.Frag} {H : Hp} {a : Addr} {vs ys : List V} (h : H a = some (.lst vs)) (k : SqL K H a ys) : True := trivial
theorem rpl_at {H : Hp} {O : Addr → Prop} {vs : List V} {ds : List D} {i : Nat} {d : D} (r : RpL H O vs ds) (e : ds[i]? = some d) : ∃ v, vs[i]? = some v ∧ Rp H O v d := r.get e
theorem jr_list {K : PySem.W.Frag} {A : Ow} {w : Bool} {H : Hp} {v : V} {ds : List D} (b : BqW w C A H v (.lst ds)) : ∃ a vs, v = .ref a ∧ SqL K H a vs ∧ JR C A w (Itl K a) ds H := by
  obtain ⟨a, vs, rfl, e, r⟩ := b.1.1.lstI
  refine ⟨a, vs, rfl, .of e, fun M O' H' h1 h2 h3 h4 => ?_⟩
  have e' := h4 a _ e (b.notM e h1)
  have r' := RpL.mo (jr_mo h1 h2 h4) _ _ r
  refine ⟨fun i d hd => ?_, fun i hi => ⟨vs, .of e', by rw [r.length]; exact hi⟩⟩
  obtain ⟨x, hx, rx⟩ := r'.get hd
  refine ⟨⟨vs, x, .of e', hx⟩, fun y H'' hy => ?_⟩
  obtain ⟨rfl, hy⟩ := hy
  have := hy vs (.of e')
  rw [hx] at this
  cases this
  exact ⟨Same.refl _, rx⟩
theorem jr_tup {K : PySem.W.Frag} {A : Ow} {w : Bool} {H : Hp} {v : V} {ds : List D} (b : BqW w C A H v (.tup ds)) : ∃ a vs, v = .ref a ∧ SqT K H a vs ∧ JR C A w (Itt K a) ds H := by
  obtain ⟨a, vs, rfl, n, e, r⟩ := b.1.1.tupI
  refine ⟨a, vs, rfl, .of e, fun M O' H' h1 h2 h3 h4 => ?_⟩
  have e' := h4 a _ e (b.notM e h1)
  have r' := RpL.mo (jr_mo h1 h2 h4) _ _ r
  refine ⟨fun i d hd => ?_, fun i hi => ⟨vs, .of e', by rw [r.length]; exact hi⟩⟩
  obtain ⟨x, hx, rx⟩ := r'.get hd
  refine ⟨⟨vs, x, .of e', hx⟩, fun y H'' hy => ?_⟩
  obtain ⟨rfl, hy⟩ := hy
  have := hy vs (.of e')
  rw [hx] at this
  cases this
  exact ⟨Same.refl _, rx⟩
theorem pi_seq {tg x : Expr} {w : Bool} {f : Fe} (h : PE X x (tAW w C f)) : PI X tg x (tI w C fun ρ s => (f ρ s).bind fun p => (Mini.itemsOf p.1).bind fun xs => some (xs, p.2)) := by
  refine pi_imp (pi_or (pi_list h) (pi_tup h)) fun σ H Q ⟨A, ρ, s, xs, s', F, e, q⟩ => ?_
  obtain ⟨⟨d, s1⟩, e1, e⟩ := Option.bind_eq_some_iff.mp e
  obtain ⟨ys, e2, e⟩ := Option.bind_eq_some_iff.mp e
  cases e
  cases d with
  | lst ds =>
    cases e2
    refine .inl ⟨A, ρ, s, _, s1, F, e1, fun v H1 F1 k1 b1 => ?_⟩
    obtain ⟨a, vs, rfl, hs, jr⟩ := jr_list (K := X.K) b1
    exact ⟨a, rfl, ⟨vs, hs⟩, q _ H1 F1 k1 jr⟩
  | tup ds =>
    cases e2
    refine .inr ⟨A, ρ, s, _, s1, F, e1, fun v H1 F1 k1 b1 => ?_⟩
    obtain ⟨a, vs, rfl, hs, jr⟩ := jr_tup (K := X.K) b1
    exact ⟨a, rfl, ⟨vs, hs⟩, q _ H1 F1 k1 jr⟩
  | _ => cases e2
theorem jr_range {A : Ow} {w : Bool} {H : Hp} {lo : Int} {n : Nat} : JR C A w (Itr lo n) ((List.range n).map fun (k : Nat) => Mini.D.int (lo + (k : Int))) H := fun M O' H' h1 h2 h3 h4 => by
  refine ⟨fun i d hd => ?_, fun i hi => show n ≤ i by simpa using hi⟩
  rw [List.getElem?_map, Option.map_eq_some_iff] at hd
  obtain ⟨k, hk, rfl⟩ := hd
  have hin : i < n := by
    rcases Nat.lt_or_ge i n with z | z
    · exact z
    · rw [List.getElem?_eq_none (by simpa using z)] at hk; cases hk
  rw [List.getElem?_range hin] at hk
  cases hk
  refine ⟨hin, fun y H'' hy => ?_⟩
  obtain ⟨rfl, rfl⟩ := hy
  exact ⟨Same.refl _, .int _⟩
end
end Snd

/-! ## SndL -/
set_option Elab.async false
set_option linter.all false
set_option maxRecDepth 100000
set_option maxHeartbeats 4000000
/-! SndL: enumerate of tuples; what is walked. -/
namespace Snd
open PySem PySem.Spec L2
open PyProof.Rows hiding St
open Mini (E T)

theorem meets_enum_tup (l : Addr) (items : Array Value) (n : Nat) (dct : Option Addr) (sl : Array (Option Value)) :
    Meets (Builtin.«enumerate.__new__» ⟨[.type "enumerate", .ref l], []⟩) (fun _ R s => s.heap.get? l = some { cls := .type "tuple", dict := dct, data := .seq items n, slots := sl } ∧
      R (.ok (.ret (.ref (s.heap.push { cls := .type "tuple_iterator", data := .fields #[.ref l, .int 0 0] }).objs.size)))
        { s with heap := (s.heap.push { cls := .type "tuple_iterator", data := .fields #[.ref l, .int 0 0] }).push { cls := .type "enumerate", data := .fields #[.none, .bool false, .ref s.heap.objs.size, rawInt 0, .none, .none] } }) :=
  .of_wp fun prog w A R s h => by
    obtain ⟨hp, g, d, tk, os⟩ := s; obtain ⟨hl, h⟩ := h
    have hsub := sub_enumerate
    have hL : Heap.IsTuple (Shared.heap ⟨hp, g, d, tk, os⟩) l items := ⟨_, hl, rfl, n, rfl⟩
    wp_walk using AutoSeq1.wpAny_loadPart' hl
    refine wpAny_stack_any fun st => wpAny_pure ?_
    split
    · rename_i c _ _ _ _ _
      cases (c == Value.type "enumerate")
      · wp_walk using AutoSeq1.wpAny_loadPart' hl, wpAny_pyIter_tuple hL
        exact ⟨_, rfl, h⟩
      · wp_walk using AutoSeq1.wpAny_loadPart' hl, wpAny_pyIter_tuple hL
        exact ⟨_, rfl, h⟩
    · wp_walk using AutoSeq1.wpAny_loadPart' hl, wpAny_pyIter_tuple hL
      exact ⟨_, rfl, h⟩
section
variable {prog : Program} {w : World} {A : Around} {E : Value → Shared → Prop} {s : Shared}
theorem call_enum_tup {l : Addr} {items : Array Value} {Q : Value → Shared → Prop} (hL : s.heap.IsTuple l items)
    (h : ∀ h', IsEnum h' (s.heap.objs.size + 1) s.heap.objs.size 0 .none → h'.IsTupleIter s.heap.objs.size l 0 → h'.objs.size = s.heap.objs.size + 2 →
      (∀ b o, s.heap.get? b = some o → h'.get? b = some o) → Q (.ref (s.heap.objs.size + 1)) { s with heap := h' }) :
    wpAny (model prog w) A (call (.type "enumerate") [.ref l]) Q E s := by
  obtain ⟨⟨c, dct, dt, sl⟩, hl, hc, n, hd⟩ := hL
  replace hc : c = .type "tuple" := hc
  replace hd : dt = .seq items n := hd
  subst hc hd
  refine callType_new F.called_enumerate (by decide) (F.typeCall_enumerate_1 _) (F.newCall_enumerate_1 _) (fun obj => F.args_object_init_2 obj _) F.entry_enumerate_new
    (meets_enum_tup l items n dct sl) ⟨hl, ?_⟩
  have hz : (s.heap.push { cls := .type "tuple_iterator", data := .fields #[.ref l, .int 0 0] }).objs.size = s.heap.objs.size + 1 := Heap.size_push ..
  show _ ∧ _
  rw [hz]
  have he : IsEnum ((s.heap.push { cls := .type "tuple_iterator", data := .fields #[.ref l, .int 0 0] }).push
      { cls := .type "enumerate", data := .fields #[.none, .bool false, .ref s.heap.objs.size, rawInt 0, .none, .none] }) (s.heap.objs.size + 1) s.heap.objs.size 0 .none := by
    have := Heap.get?_push_size (s.heap.push { cls := .type "tuple_iterator", data := .fields #[.ref l, .int 0 0] })
      (o := { cls := .type "enumerate", data := .fields #[.none, .bool false, .ref s.heap.objs.size, rawInt 0, .none, .none] }) rfl
    rw [hz] at this; exact this
  refine ⟨⟨_, he, rfl⟩, h _ he ⟨_, Heap.get?_push_of_some _ (Heap.get?_push_size _ rfl), rfl, rfl⟩ (by rw [Heap.size_push, hz]) fun b o x => Heap.get?_push_of_some _ (Heap.get?_push_of_some _ x)⟩
end
/-- the tuple at a, each item in a new pair -/
def IteT (K : PySem.W.Frag) (a : Addr) : It :=
  ⟨fun i H => ∃ (xs : List V) (x : V), SqT K H a xs ∧ xs[i]? = some x, fun i H v H' => ∃ T x, v = .ref T ∧ H T = none ∧ H' = upd H T (.tup [.int (i : Nat), x]) ∧ ∀ xs, SqT K H a xs → xs[i]? = some x, fun i H => ∃ xs : List V, SqT K H a xs ∧ xs.length ≤ i⟩
theorem turn_enumT {P : Program} {w : World} {K : PySem.W.Frag} {elts : List Expr} {kk : Nat} {tpos : Pos} (a e it : Addr) (hai : a ≠ it) :
    Turn P w K (.Tuple elts kk tpos) (IteT K a) [e, it] e (fun i h => (∃ old, IsEnum h e it ((i : Nat) : Int) old) ∧ h.IsTupleIter it a i ∧ e ≠ it) where
  mem := by simp
  obj := fun i h st b hb => by
    obtain ⟨⟨old, he⟩, ⟨o, ho, hc, hd⟩, _⟩ := st
    have e' : b = e ∨ b = it := by simpa using hb
    rcases e' with z | z
    · rw [z]; exact ⟨_, he, fun v q => nomatch q⟩
    · rw [z]; exact ⟨o, ho, fun v q => by rw [hd] at q; cases q⟩
  keep := fun i h h' st k => let ⟨⟨old, he⟩, hi, hne⟩ := st; ⟨⟨old, k e (by simp) _ he⟩, hi.at fun o q => k it (by simp) o q, hne⟩
  item := by
    intro X hP hw hK hc i pins s σ H E I hf st hg
    subst hP hw hK
    obtain ⟨⟨old, he⟩, hit, hne⟩ := st
    obtain ⟨xs, x, hq, hx⟩ := hg
    obtain ⟨its, rv, p, hz⟩ := I.tuple hq
    obtain ⟨u, hu, ru⟩ := rv.get hx
    have hel : e < s.heap.objs.size := Heap.lt_size he
    have hil : it < s.heap.objs.size := by obtain ⟨_, q, _⟩ := hit; exact Heap.lt_size q
    have hea : e ≠ a := fun z => by
      obtain ⟨o, ho, hc, n, hd⟩ := p
      subst z
      have he : s.heap.get? e = some _ := he
      rw [ho] at he
      cases he
      cases hd
    have D := Draws.tuple (prog := X.prog) (w := X.w) (A := X.A.in1) (I.ok.hd hc) it a hai its.toArray
    refine wpAny_pyNext_enum_itemD D he ⟨hit, p⟩ (by rw [List.size_toArray, ← rv.length]; exact (List.getElem?_eq_some_iff.mp hx).1) hne (by simp [hne, hea]) fun x' h' tk hx' ho hst' hT hsz hk => ?_
    have hu' : x' = u := by
      have q : its.toArray[i]? = some x' := hx'
      rw [List.getElem?_toArray, hu] at q
      cases q; rfl
    subst hu'
    refine ⟨_, rfl, wpAny_letOwnedTupleGo_enum (s := { s with heap := h', toks := tk + 1 }) ho fun h'' he' sb => ?_⟩
    have hT2 : h''.get? s.heap.objs.size = some { cls := .type "tuple", data := .seq #[.int i tk, x'] } := (sb.2 _ (Nat.ne_of_gt hel)).trans hT
    have new : ObjOk X.prog X.w (upd H s.heap.objs.size (.tup [.int (i : Nat), x])) h'' s.heap.objs.size (.tup [.int (i : Nat), x]) :=
      ⟨by show 2 ≤ sizeLine; decide, [.int i tk, x'], .cons ⟨_, rfl⟩ (.cons ru .nil), ⟨_, hT2, rfl, _, rfl⟩⟩
    have I1 : Inv X pins σ (upd H s.heap.objs.size (.tup [.int (i : Nat), x])) { s with heap := h'', toks := tk + 1 } :=
      I.turnedNew (ch := [e, it]) (fun b ob hb q => (sb.2 b (fun z => hb (by simp [z]))).trans (hk b ob (fun z => hb (by simp [z])) (fun z => hb (by simp [z])) q)) hf (Nat.le_refl _) new
    refine ⟨.ref s.heap.objs.size, _, I1, rfl, ⟨_, x, rfl, I.hok.fresh (Nat.le_refl _), rfl, fun ys hy => by rw [I.tuple_inj hy hq]; exact hx⟩, ⟨⟨x', ?_⟩, hst'.1.at fun o q => (sb.2 it (Ne.symm hne)).trans q, hne⟩, fun b hb => ?_⟩
    · have e1 : ((i + 1 : Nat) : Int) = (i : Int) + 1 := by omega
      rw [e1]; exact he'
    · have hb' : b < s.heap.objs.size := by
        have e' : b = e ∨ b = it := by simpa using hb
        rcases e' with z | z
        · rw [z]; exact hel
        · rw [z]; exact hil
      rw [upd_ne (Nat.ne_of_lt hb')]
      exact (hf b hb).1
  done := by
    intro X hP hw hK hc i pins s σ H E I hf st hg
    subst hP hw hK
    obtain ⟨⟨old, he⟩, hit, hne⟩ := st
    obtain ⟨xs, hq, hx⟩ := hg
    obtain ⟨its, rv, p, hz⟩ := I.tuple hq
    obtain ⟨f0, f1, f2, f3, f4, f5⟩ := hf it (by simp)
    have hl := rv.length
    have hh : X.A.in1.handled = none := I.ok.hd hc
    have hT : s.TypeIs (.ref e) "enumerate" := ⟨_, he, rfl⟩
    unfold pyNext
    refine wpAny_bind (wpAny_attempt (wpAny_callSpecial?_slot (name := Str.ofString "__next__") hT F.slot_enumerate_next
      (wpAny_call_entry F.slot_enumerate_next hT F.entry_enumerate_next ?_ (F.args_enumerate_next_1 _))))
    show wpAny _ _ (field (.ref e) 2 >>= _) _ _ _
    refine wpAny_bind (wpAny_field he rfl (x := .ref it) rfl ?_)
    refine wpAny_bind (wpAny_nextOf_tuple_end hh hit (show s.heap.IsTuple a its.toArray from p) (by simp; omega) fun h' x he' hx' => ?_)
    obtain ⟨o, ho, hc⟩ := hx'
    refine wpAny_bind (wpAny_isInstance (T := "StopIteration") (b := true) ⟨o, ho, hc⟩ isSubtype_stop ?_)
    exact wpAny_pure ⟨rfl, I.turned (t' := s.toks) (fun b o hb q => he' b o hb q) f0 f1 f3 f4 f5⟩
  self := fun A i s Q E st h => let ⟨⟨_, he⟩, _⟩ := st; wpAny_pyIter_enum he h
def iEnumT (K : PySem.W.Frag) (ta : TA) : TI := fun σ H R => ta σ H fun vs H1 => ∃ a xs, vs = [.ref a] ∧ SqT K H1 a xs ∧ R (IteT K a) H1
theorem pi_enumT {X : Cx} {e : Expr} {ta : TA} {p pos tpos : Pos} {elts : List Expr} {kk : Nat} (hg : Gl X "enumerate") (hm : X.mg "enumerate" = none) (ha : PA X [e] ta) (hs : starEach [e] X.env = [(false, eval e X.env)]) :
    PI X (.Tuple elts kk tpos) (.Call (.Name "enumerate" p) [e] [] pos) (iEnumT X.K ta) := by
  refine ⟨fun pins s σ H R I h => ?_⟩
  refine Call_ (ld_blt I hg hm boot_enumerate (PyProof.Rows.callWith_type1 (thn (ha.run pos pins s σ H _ I h) fun us s1 ⟨vs, H1, I1, r1, q1⟩ => ?_) hs rfl))
  obtain ⟨a, xs, ex, hq, q⟩ := q1
  subst ex
  cases r1 with
  | cons r rr =>
    cases rr
    cases r
    obtain ⟨its, rv, p', hz⟩ := I1.tuple hq
    obtain ⟨oa, hoa, _⟩ := id p'
    have hal : a < s1.heap.objs.size := Heap.lt_size hoa
    refine call_enum_tup (show s1.heap.IsTuple a its.toArray from p') fun h' he hit hsz hk => wpAny_pyIter_enum he ?_
    have I2 : Inv X pins σ H1 { s1 with heap := h' } := I1.kept (t' := s1.toks) hk
    refine ⟨s1.heap.objs.size + 1, [s1.heap.objs.size + 1, s1.heap.objs.size], _, _, H1, rfl, I2, turn_enumT a (s1.heap.objs.size + 1) s1.heap.objs.size (Nat.ne_of_lt hal), ⟨⟨.none, he⟩, hit, Nat.succ_ne_self _⟩, fun b hb => ?_, q⟩
    have e' : b = s1.heap.objs.size + 1 ∨ b = s1.heap.objs.size := by simpa using hb
    have hle : s1.heap.objs.size ≤ b := by
      rcases e' with z | z
      · rw [z]; exact Nat.le_add_right _ _
      · rw [z]; exact Nat.le_refl _
    exact I1.fpOk hle (I1.hok.fresh hle)

section
variable {R : Nat} {T : Tab} {Fs : List Mini.Fn} {Gs : List Mini.Gn} {sc st : Scope} {X : Cx} {C : Ctx}
theorem enumL_get {xs : List D} {i : Nat} {d : D} (h : (Mini.enumL xs)[i]? = some d) : ∃ x, xs[i]? = some x ∧ d = .tup [.int (i : Nat), x] := by
  unfold Mini.enumL at h
  rw [List.getElem?_map, Option.map_eq_some_iff] at h
  obtain ⟨⟨x, k⟩, e, rfl⟩ := h
  rw [List.getElem?_zipIdx, Option.map_eq_some_iff] at e
  obtain ⟨y, e, z⟩ := e
  cases z
  exact ⟨x, e, by simp⟩
theorem enumL_len {xs : List D} : (Mini.enumL xs).length = xs.length := by unfold Mini.enumL; simp
theorem zipL_get {xs ys : List D} {i : Nat} {d : D} (h : (Mini.zipL xs ys)[i]? = some d) : ∃ x y, xs[i]? = some x ∧ ys[i]? = some y ∧ d = .tup [x, y] := by
  unfold Mini.zipL at h
  rw [List.getElem?_map, Option.map_eq_some_iff] at h
  obtain ⟨⟨x, y⟩, e, rfl⟩ := h
  have e' := List.getElem?_zip_eq_some.mp e
  exact ⟨x, y, e'.1, e'.2, rfl⟩
theorem rp_pair {H H' : Hp} {O O' : Addr → Prop} {T : Addr} {x y : V} {d e : D} (h3 : ∀ b, O' b → ∃ o, H' b = some o) (hT : H' T = none) (rx : Rp H' O' x d) (ry : Rp H' O' y e) : Same H' (upd H' T (.tup [x, y])) ∧ Rp (upd H' T (.tup [x, y])) O' (.ref T) (.tup [d, e]) := by
  have sm := same_upd (o := .tup [x, y]) hT
  have m : Mo H' (upd H' T (.tup [x, y])) O' O' := ⟨fun b o e _ => sm b o e, fun _ _ _ z => z⟩
  refine ⟨sm, .tup (fun z => ?_) upd_same (.cons (Rp.mo m _ _ rx) (.cons (Rp.mo m _ _ ry) .nil))⟩
  obtain ⟨o, e⟩ := h3 T z
  rw [hT] at e; cases e
theorem jr_enum {K : PySem.W.Frag} {A : Ow} {w : Bool} {H : Hp} {v : V} {ds : List D} (b : BqW w C A H v (.lst ds)) : ∃ a vs, v = .ref a ∧ SqL K H a vs ∧ JR C A w (Ite K a) (Mini.enumL ds) H := by
  obtain ⟨a, vs, rfl, e, r⟩ := b.1.1.lstI
  refine ⟨a, vs, rfl, .of e, fun M O' H' h1 h2 h3 h4 => ?_⟩
  have e' := h4 a _ e (b.notM e h1)
  have r' := RpL.mo (jr_mo h1 h2 h4) _ _ r
  refine ⟨fun i d hd => ?_, fun i hi => ⟨vs, .of e', by rw [r.length]; rw [enumL_len] at hi; exact hi⟩⟩
  obtain ⟨z, hz, rfl⟩ := enumL_get hd
  obtain ⟨x, hx, rx⟩ := r'.get hz
  refine ⟨⟨vs, x, .of e', hx⟩, fun y H'' hy => ?_⟩
  obtain ⟨T, x', rfl, hT, rfl, hy⟩ := hy
  have := hy vs (.of e')
  rw [hx] at this
  cases this
  exact rp_pair (O := OA C A) (H := H') h3 hT (.int _) rx
theorem jr_enumT {K : PySem.W.Frag} {A : Ow} {w : Bool} {H : Hp} {v : V} {ds : List D} (b : BqW w C A H v (.tup ds)) : ∃ a vs, v = .ref a ∧ SqT K H a vs ∧ JR C A w (IteT K a) (Mini.enumL ds) H := by
  obtain ⟨a, vs, rfl, n, e, r⟩ := b.1.1.tupI
  refine ⟨a, vs, rfl, .of e, fun M O' H' h1 h2 h3 h4 => ?_⟩
  have e' := h4 a _ e (b.notM e h1)
  have r' := RpL.mo (jr_mo h1 h2 h4) _ _ r
  refine ⟨fun i d hd => ?_, fun i hi => ⟨vs, .of e', by rw [r.length]; rw [enumL_len] at hi; exact hi⟩⟩
  obtain ⟨z, hz, rfl⟩ := enumL_get hd
  obtain ⟨x, hx, rx⟩ := r'.get hz
  refine ⟨⟨vs, x, .of e', hx⟩, fun y H'' hy => ?_⟩
  obtain ⟨T, x', rfl, hT, rfl, hy⟩ := hy
  have := hy vs (.of e')
  rw [hx] at this
  cases this
  exact rp_pair (O := OA C A) (H := H') h3 hT (.int _) rx
theorem zipL_len {xs ys : List D} {i : Nat} (h : (Mini.zipL xs ys).length ≤ i) : xs.length ≤ i ∨ ys.length ≤ i := by
  unfold Mini.zipL at h
  rw [List.length_map, List.length_zip] at h
  omega
theorem jr_zip {K : PySem.W.Frag} {A : Ow} {w w2 : Bool} {H : Hp} {v v2 : V} {ds es : List D} (b : BqW w C A H v (.lst ds)) (c : BqW w2 C A H v2 (.lst es)) :
    ∃ a vs a2 vs2, v = .ref a ∧ v2 = .ref a2 ∧ SqL K H a vs ∧ SqL K H a2 vs2 ∧ JR C A (w || w2) (Itz K a a2) (Mini.zipL ds es) H := by
  obtain ⟨a, vs, rfl, e, r⟩ := b.1.1.lstI
  obtain ⟨a2, vs2, rfl, e2, r2⟩ := c.1.1.lstI
  refine ⟨a, vs, a2, vs2, rfl, rfl, .of e, .of e2, fun M O' H' h1 h2 h3 h4 => ?_⟩
  have k1 : ∀ b o, H b = some o → M b → if w = true then isSrc C b else OA C A b := fun b o e z => by
    have q := h1 b o e z
    cases w with
    | true => simpa using q
    | false => simp only [Bool.false_or] at q; split at q <;> first | exact .inr (.inl q) | exact q
  have k2 : ∀ b o, H b = some o → M b → if w2 = true then isSrc C b else OA C A b := fun b o e z => by
    have q := h1 b o e z
    cases w2 with
    | true => simpa using q
    | false => simp only [Bool.or_false] at q; split at q <;> first | exact .inr (.inl q) | exact q
  have e' := h4 a _ e (b.notM e k1)
  have e2' := h4 a2 _ e2 (c.notM e2 k2)
  have r' := RpL.mo (jr_mo h1 h2 h4) _ _ r
  have r2' := RpL.mo (jr_mo h1 h2 h4) _ _ r2
  refine ⟨fun i d hd => ?_, fun i hi => ⟨vs, vs2, .of e', .of e2', by rw [r.length, r2.length]; exact zipL_len hi⟩⟩
  obtain ⟨z, z2, hz, hd2, rfl⟩ := zipL_get hd
  obtain ⟨x, hx, rx⟩ := r'.get hz
  obtain ⟨x2, hx2, rx2⟩ := r2'.get hd2
  refine ⟨⟨vs, vs2, x, x2, .of e', .of e2', hx, hx2⟩, fun y H'' hy => ?_⟩
  obtain ⟨T, x', y', rfl, hT, rfl, hy, hy2⟩ := hy
  have := hy vs (.of e')
  rw [hx] at this
  cases this
  have := hy2 vs2 (.of e2')
  rw [hx2] at this
  cases this
  exact rp_pair (O := OA C A) (H := H') h3 hT rx rx2
theorem jr_zipT {K : PySem.W.Frag} {A : Ow} {w w2 : Bool} {H : Hp} {v v2 : V} {ds es : List D} (b : BqW w C A H v (.tup ds)) (c : BqW w2 C A H v2 (.tup es)) :
    ∃ a vs a2 vs2, v = .ref a ∧ v2 = .ref a2 ∧ SqT K H a vs ∧ SqT K H a2 vs2 ∧ JR C A (w || w2) (RZ.ItzT K a a2) (Mini.zipL ds es) H := by
  obtain ⟨a, vs, rfl, n, e, r⟩ := b.1.1.tupI
  obtain ⟨a2, vs2, rfl, n2, e2, r2⟩ := c.1.1.tupI
  refine ⟨a, vs, a2, vs2, rfl, rfl, .of e, .of e2, fun M O' H' h1 h2 h3 h4 => ?_⟩
  have mo := jr_mo h1 h2 h4
  have e' := mo.keep a _ e n
  have e2' := mo.keep a2 _ e2 n2
  have r' := RpL.mo mo _ _ r
  have r2' := RpL.mo mo _ _ r2
  refine ⟨fun i d hd => ?_, fun i hi => ⟨vs, vs2, .of e', .of e2', by rw [r.length, r2.length]; exact zipL_len hi⟩⟩
  obtain ⟨z, z2, hz, hd2, rfl⟩ := zipL_get hd
  obtain ⟨x, hx, rx⟩ := r'.get hz
  obtain ⟨x2, hx2, rx2⟩ := r2'.get hd2
  refine ⟨⟨vs, vs2, x, x2, .of e', .of e2', hx, hx2⟩, fun y H'' hy => ?_⟩
  obtain ⟨T, x', y', rfl, hT, rfl, hy, hy2⟩ := hy
  have := hy vs (.of e')
  rw [hx] at this
  cases this
  have := hy2 vs2 (.of e2')
  rw [hx2] at this
  cases this
  exact rp_pair (O := OA C A) (H := H') h3 hT rx rx2
end
end Snd

/-! ## SndM -/
set_option Elab.async false
set_option linter.all false
set_option maxRecDepth 100000
set_option maxHeartbeats 4000000
/-! SndM: what is walked, comprehensions. -/
namespace Snd
open PySem PySem.Spec L2
open PyProof.Rows hiding St
open Mini (E T It)
section
variable {R : Nat} {T : Tab} {Fs : List Mini.Fn} {Gs : List Mini.Gn} {sc st : Scope} {X : Cx} {C : Ctx}
def isTupX : Expr → Bool
  | .Tuple _ _ _ => true
  | _ => false
theorem isTupX_of {x : Expr} (h : isTupX x = true) : ∃ es k p, x = .Tuple es k p := by
  cases x <;> first | exact ⟨_, _, _, rfl⟩ | cases h
/-- f(a), f(a, b) of a builtin -/
def call1 (sc : Scope) (y : Str) (f : Expr → Bool) (x : Expr) : Bool := match x with
  | .Call g [z] [] _ => bn sc y g && noStar z && f z
  | _ => false
def call2 (sc : Scope) (y : Str) (f g : Expr → Bool) (x : Expr) : Bool := match x with
  | .Call h [z, u] [] _ => bn sc y h && noStar z && noStar u && f z && g u
  | _ => false
theorem call1_of {y : Str} {f : Expr → Bool} {x : Expr} (h : call1 sc y f x = true) : ∃ p z pos, x = .Call (.Name y p) [z] [] pos ∧ glC sc y = true ∧ noStar z = true ∧ f z = true := by
  unfold call1 at h
  split at h
  · simp only [Bool.and_eq_true] at h
    obtain ⟨⟨p, rfl⟩, g⟩ := bn_of h.1.1
    exact ⟨p, _, _, rfl, g, h.1.2, h.2⟩
  · cases h
theorem call2_of {y : Str} {f g : Expr → Bool} {x : Expr} (h : call2 sc y f g x = true) : ∃ p z u pos, x = .Call (.Name y p) [z, u] [] pos ∧ glC sc y = true ∧ noStar z = true ∧ noStar u = true ∧ f z = true ∧ g u = true := by
  unfold call2 at h
  split at h
  · simp only [Bool.and_eq_true] at h
    obtain ⟨⟨p, rfl⟩, g⟩ := bn_of h.1.1.1.1
    exact ⟨p, _, _, _, rfl, g, h.1.1.1.2, h.1.1.2, h.1.2, h.2⟩
  · cases h
theorem star1 {z : Expr} {env : Env} (h : noStar z = true) : starEach [z] env = [(false, eval z env)] := by rw [star_cons h]; rfl
theorem star2 {z u : Expr} {env : Env} (h : noStar z = true) : starEach [z, u] env = (false, eval z env) :: starEach [u] env := star_cons h
theorem plain1 {u : Expr} {env : Env} {pos : Pos} (h : noStar u = true) : (backTo pos (starEach [u] env)).any (·.1) = false := star_none (by rw [List.all_cons, h]; rfl)
def mI (T : Tab) (sc : Scope) (rec : Rec) (it : Mini.It) (tg x : Expr) : Bool := match it with
  | .seq a => mA T sc rec a x
  | .range a => call1 sc "range" (rec a) x
  | .range2 a b => call2 sc "range" (rec a) (rec b) x
  | .enum a => isTupX tg && call1 sc "enumerate" (mA T sc rec a) x
  | .zip a b => isTupX tg && call2 sc "zip" (mA T sc rec a) (mA T sc rec b) x
  | _ => false
theorem rangeL_some {lo hi : Int} {xs : List D} (h : Mini.rangeL lo hi = some xs) : (-(2 ^ 30) ≤ lo ∧ lo < 2 ^ 30) ∧ (-(2 ^ 30) ≤ hi ∧ hi < 2 ^ 30) ∧ (hi - lo).toNat ≤ Mini.LIM ∧ xs = (List.range (hi - lo).toNat).map fun (k : Nat) => Mini.D.int (lo + (k : Int)) := by
  unfold Mini.rangeL Mini.small62 at h
  split at h
  · rename_i c
    simp only [Bool.and_eq_true, decide_eq_true_eq] at c
    cases h
    exact ⟨c.1.1, c.1.2, c.2, rfl⟩
  · cases h
theorem mI_pi (kx : XOk R T Fs Gs sc st X) {ev : Mini.Ev} {rec : Rec} (ih : ∀ e x, rec e x = true → PE X x (tE C fun ρ s => ev ρ e s)) {it : Mini.It} {tg x : Expr} (h : mI T sc rec it tg x = true) :
    PI X tg x (tI (Mini.itOwn it) C fun ρ s => Mini.evI ev ρ it s) := by
  cases it with
  | seq a => exact pi_seq (mA_pe kx ih h)
  | range a =>
    obtain ⟨p, z, pos, rfl, g, n, h⟩ := call1_of h
    refine pi_imp (pi_range1 (kx.gl g) (kx.good.blt _ (by decide)) (pa_cons (ih _ _ h) pa_nil (star_cons n)) (star1 n)) fun σ H Q ⟨A, ρ, s, xs, s', F, e, q⟩ => ?_
    obtain ⟨⟨d, s1⟩, e1, e⟩ := Option.bind_eq_some_iff.mp (show ((ev ρ a s).bind fun p => match p.1 with
      | .int j => (Mini.rangeL 0 j).bind fun xs => some (xs, p.2)
      | _ => none) = some (xs, s') from e)
    cases d with
    | int j =>
      obtain ⟨ys, e2, e⟩ := Option.bind_eq_some_iff.mp (show ((Mini.rangeL 0 j).bind fun xs => some (xs, s1)) = some (xs, s') from e)
      cases e
      obtain ⟨b1, b2, b3, rfl⟩ := rangeL_some e2
      refine ⟨A, ρ, s, _, _, F, e1, fun v H1 F1 k1 r1 => ⟨j, by rw [r1.intI], by omega, by omega, q _ H1 F1 k1 ?_⟩⟩
      have := jr_range (C := C) (A := A) (w := Mini.itOwn (.range a)) (H := H1) (lo := 0) (n := j.toNat)
      simpa using this
    | _ => cases e
  | range2 a b =>
    obtain ⟨p, z, u, pos, rfl, g, n, n2, h, h2⟩ := call2_of h
    refine pi_imp (pi_range2 (kx.gl g) (kx.good.blt _ (by decide)) (pa_cons (ih _ _ h) (pa_cons (ih _ _ h2) pa_nil (star_cons n2)) (star_cons n)) (by rw [star2 n, star1 n2]) (star1 n2)) fun σ H Q ⟨A, ρ, s, xs, s', F, e, q⟩ => ?_
    obtain ⟨⟨d, s1⟩, e1, e⟩ := Option.bind_eq_some_iff.mp (show ((ev ρ a s).bind fun p => (ev ρ b p.2).bind fun q => match p.1, q.1 with
      | .int i, .int j => (Mini.rangeL i j).bind fun xs => some (xs, q.2)
      | _, _ => none) = some (xs, s') from e)
    obtain ⟨⟨d2, s2⟩, e2, e⟩ := Option.bind_eq_some_iff.mp e
    cases d with
    | int i =>
      cases d2 with
      | int j =>
        obtain ⟨ys, e3, e⟩ := Option.bind_eq_some_iff.mp (show ((Mini.rangeL i j).bind fun xs => some (xs, s2)) = some (xs, s') from e)
        cases e
        obtain ⟨b1, b2, b3, rfl⟩ := rangeL_some e3
        refine ⟨A, ρ, s, _, _, F, e1, fun v H1 F1 k1 r1 => ⟨A, ρ, s1, _, _, F1, e2, fun v2 H2 F2 k2 r2 => ⟨i, j, by rw [r1.intI, r2.intI], ⟨by omega, by omega, by omega, by omega⟩, q _ H2 F2 (k1.trans k2) jr_range⟩⟩⟩
      | _ => cases e
    | _ => cases e
  | enum a =>
    rw [mI, Bool.and_eq_true] at h
    obtain ⟨es, k, tp, rfl⟩ := isTupX_of h.1
    obtain ⟨p, z, pos, rfl, g, n, h⟩ := call1_of h.2
    have pa := pa_cons (mA_pe kx ih h) pa_nil (star_cons n)
    refine pi_imp (pi_or (pi_enum (kx.gl g) (kx.good.blt _ (by decide)) pa (star1 n)) (pi_enumT (kx.gl g) (kx.good.blt _ (by decide)) pa (star1 n))) fun σ H Q ⟨A, ρ, s, xs, s', F, e, q⟩ => ?_
    obtain ⟨⟨d, s1⟩, e1, e⟩ := Option.bind_eq_some_iff.mp (show ((Mini.evA ev ρ a s).bind fun p => (Mini.itemsOf p.1).bind fun xs => if xs.length ≤ Mini.LIM then some (Mini.enumL xs, p.2) else none) = some (xs, s') from e)
    obtain ⟨ys, e2, e⟩ := Option.bind_eq_some_iff.mp e
    split at e
    · cases e
      cases d with
      | lst ds =>
        cases e2
        refine .inl ⟨A, ρ, s, _, s1, F, e1, fun v H1 F1 k1 b1 => ?_⟩
        obtain ⟨a, vs, rfl, hs, jr⟩ := jr_enum (K := X.K) b1
        exact ⟨a, vs, rfl, hs, q _ H1 F1 k1 jr⟩
      | tup ds =>
        cases e2
        refine .inr ⟨A, ρ, s, _, s1, F, e1, fun v H1 F1 k1 b1 => ?_⟩
        obtain ⟨a, vs, rfl, hs, jr⟩ := jr_enumT (K := X.K) b1
        exact ⟨a, vs, rfl, hs, q _ H1 F1 k1 jr⟩
      | _ => cases e2
    · cases e
  | zip a b =>
    rw [mI, Bool.and_eq_true] at h
    obtain ⟨es, k, tp, rfl⟩ := isTupX_of h.1
    obtain ⟨p, z, u, pos, rfl, g, n, n2, h, h2⟩ := call2_of h.2
    refine pi_imp (RZ.pi_zipA (kx.gl g) (kx.good.blt _ (by decide)) (pa_cons (mA_pe kx ih h) (pa_cons (mA_pe kx ih h2) pa_nil (star_cons n2)) (star_cons n)) (star2 n) (plain1 n2)) fun σ H Q ⟨A, ρ, s, xs, s', F, e, q⟩ => ?_
    obtain ⟨⟨d, s1⟩, e1, e⟩ := Option.bind_eq_some_iff.mp (show ((Mini.evA ev ρ a s).bind fun p => (Mini.evA ev ρ b p.2).bind fun q => match p.1, q.1 with
      | .lst xs, .lst ys => some (Mini.zipL xs ys, q.2)
      | .tup xs, .tup ys => some (Mini.zipL xs ys, q.2)
      | _, _ => none) = some (xs, s') from e)
    obtain ⟨⟨d2, s2⟩, e2, e⟩ := Option.bind_eq_some_iff.mp e
    refine ⟨A, ρ, s, _, _, F, e1, fun v H1 F1 k1 r1 => ⟨A, ρ, s1, _, _, F1, e2, fun v2 H2 F2 k2 r2 => ?_⟩⟩
    cases d with
    | lst ds =>
      cases d2 with
      | lst es =>
        cases e
        obtain ⟨a1, vs1, a2, vs2, rfl, rfl, h1, h2, jr⟩ := jr_zip (K := X.K) (r1.kp k2) r2
        exact ⟨a1, a2, vs1, vs2, rfl, .inl ⟨h1, h2, q _ H2 F2 (k1.trans k2) jr⟩⟩
      | _ => cases e
    | tup ds =>
      cases d2 with
      | tup es =>
        cases e
        obtain ⟨a1, vs1, a2, vs2, rfl, rfl, h1, h2, jr⟩ := jr_zipT (K := X.K) (r1.kp k2) r2
        exact ⟨a1, a2, vs1, vs2, rfl, .inr ⟨h1, h2, q _ H2 F2 (k1.trans k2) jr⟩⟩
      | _ => cases e
    | _ => cases e
  | _ => cases h

/-! ### comprehensions -/
theorem wipe_inn {σ : St} {i : Nat} : ∀ {vs : List Nat}, i ∈ vs → (L2.wipe σ vs)[i]? = if i < σ.length then some none else none
  | v :: vs, h => by
    unfold L2.wipe
    by_cases hv : v = i
    · subst hv
      by_cases hl : v < σ.length
      · rw [if_pos hl, List.getElem?_set_self (by rw [L2.wipe_length]; exact hl)]
      · rw [if_neg hl, List.getElem?_eq_none (by rw [List.length_set, L2.wipe_length]; omega)]
    · rw [List.getElem?_set_ne hv]
      exact wipe_inn ((List.mem_cons.mp h).resolve_left (Ne.symm hv))
theorem wipe_eq {σ σ' : St} {vs : List Nat} (hl : σ'.length = σ.length) (h : ∀ j, j ∉ vs → σ'[j]? = σ[j]?) : L2.wipe σ' vs = L2.wipe σ vs := by
  apply List.ext_getElem?
  intro j
  by_cases hj : j ∈ vs
  · rw [wipe_inn hj, wipe_inn hj, hl]
  · rw [wipe_out hj, wipe_out hj, h j hj]
theorem wipe_wipe {σ : St} {vs : List Nat} : L2.wipe (L2.wipe σ vs) vs = L2.wipe σ vs := wipe_eq (L2.wipe_length _ _) fun j hj => wipe_out hj
def tTs (C : Ctx) (f : Mini.Env → Mini.S → Option (Bool × Mini.S)) : TT := tB C f
theorem comp_read {fi : Fl} {ev : Mini.Ev} {elt : E} {tg : Mini.T} {ifs : List E} {vs : List Nat} {w : Bool} (hix : ∀ j, j ∈ idxT tg → j ∈ vs) (hsi : ∀ j p c, C.sa = some (j, p, c) → j ∉ vs) {σ : St} {H : Hp} {Q : VK}
    (h : tN C (fun ρ s => Mini.bindS (fi ρ s) fun xs s => if xs.length ≤ Mini.LIM then Mini.bindS (Mini.compL ev (Mini.wipe ρ vs) elt tg ifs xs s) fun ys s => some (.lst ys, s) else none) σ H Q) :
    tLc (tI w C fi) (gT C 9 tg) (tB C fun ρ s => Mini.testsL ev ρ ifs s) (tE C fun ρ s => ev ρ elt s) vs σ H Q := by
  obtain ⟨A, ρ, s, d, s', F, e, q⟩ := h
  obtain ⟨xs, s1, e1, e⟩ := bindS_some e
  split at e
  case isFalse => cases e
  rename_i hlim
  obtain ⟨ys, s2, e2, e⟩ := bindS_some e
  cases e
  refine ⟨A, ρ, s, xs, s1, F, e1, fun J H1 F1 k1 jr D hD => ?_⟩
  obtain ⟨k0, hk0⟩ := F1.fin
  have hk : A k0 = none := hk0 k0 (Nat.le_refl _)
  have hD' : addO A k0 D k0 = some D := by unfold addO; rw [if_pos rfl]
  have W0 := (F1.wipe hsi).add (o := .lst []) hk hD (fun _ z => nomatch z)
  have hnv : ∀ x, (Mini.wipe ρ vs)[k0]? = some (some x) → ∃ d, x = .val d := fun x hx => by
    obtain ⟨v, _, sl⟩ := (F1.wipe hsi).slot k0 x hx
    cases x with
    | val d => exact ⟨d, rfl⟩
    | own ds => obtain ⟨a, _, ha, _⟩ := sl; rw [hk] at ha; cases ha
    | ownd ds => obtain ⟨a, _, ha, _⟩ := sl; rw [hk] at ha; cases ha
  refine ⟨fun i m H' => m = xs.length - i ∧ i ≤ xs.length ∧ ∃ si acc rest ys1, FR C (addO A k0 D) (Mini.wipe ρ vs) si (L2.wipe σ vs) H' ∧ H' D = some (.lst acc) ∧ RpL H' (OA C (addO A k0 D)) acc ys1 ∧
    Mini.compL ev (Mini.wipe ρ vs) elt tg ifs (xs.drop i) si = some (rest, s') ∧ ys1 ++ rest = ys ∧ ys1.length ≤ i ∧ Kp C H1 H', ⟨_, rfl, Nat.zero_le _, s1, [], ys, [], W0, upd_same, .nil, e2, rfl, Nat.zero_le _, .of (same_upd hD)⟩, ?_⟩
  rintro i m H' ⟨rfl, hi, si, acc, rest, ys1, F', hDl, rl, ec, ey, hyl, kp⟩
  have jr' := jr (fun b => isSrc C b ∨ b = D) (OA C (addO A k0 D)) H' (fun b o e z => by
      rcases z with z | z
      · cases w with
        | true => exact z
        | false => exact .inr (.inl z)
      · rw [z, hD] at e; cases e) (fun b o e z => ((oa_add hk).mp z).elim id fun z => by rw [z, hD] at e; cases e)
    (fun b z => let ⟨o, e, _⟩ := F'.trk z; ⟨o, e⟩) (fun b o e n => kp b o e fun z => n (.inl z))
  by_cases hlt : i < xs.length
  · right
    have hx : xs[i]? = some xs[i] := List.getElem?_eq_getElem hlt
    obtain ⟨hgo, hy⟩ := jr'.1 i _ hx
    rw [List.drop_eq_getElem_cons hlt] at ec
    generalize xs[i] = x at hx hy ec
    have ec : ((Mini.bindT 9 tg x (Mini.wipe ρ vs)).bind fun ρ' => (Mini.testsL ev ρ' ifs si).bind fun p =>
      if p.1 then (ev ρ' elt p.2).bind fun q => (Mini.compL ev (Mini.wipe ρ vs) elt tg ifs (xs.drop (i + 1)) q.2).bind fun r => some (q.1 :: r.1, r.2)
      else Mini.compL ev (Mini.wipe ρ vs) elt tg ifs (xs.drop (i + 1)) p.2) = some (rest, s') := ec
    obtain ⟨ρ', eb, ec⟩ := Option.bind_eq_some_iff.mp ec
    obtain ⟨⟨b, s3⟩, et, ec⟩ := Option.bind_eq_some_iff.mp ec
    refine ⟨hgo, fun H'' => ∃ m', m' = xs.length - (i + 1) ∧ i + 1 ≤ xs.length ∧ ∃ si acc rest ys1, FR C (addO A k0 D) (Mini.wipe ρ vs) si (L2.wipe σ vs) H'' ∧ H'' D = some (.lst acc) ∧ RpL H'' (OA C (addO A k0 D)) acc ys1 ∧
      Mini.compL ev (Mini.wipe ρ vs) elt tg ifs (xs.drop (i + 1)) si = some (rest, s') ∧ ys1 ++ rest = ys ∧ ys1.length ≤ i + 1 ∧ Kp C H1 H'', fun H'' ⟨m', em, r⟩ => ⟨m', by omega, em, r⟩, fun y H2 hyy => ?_⟩
    obtain ⟨sm, ry⟩ := hy y H2 hyy
    have F2 := F'.same sm
    refine ⟨_, _, si, x, ρ', F2, ry, eb, fun σ2 F3 ch => ⟨?_, _, ρ', si, b, s3, F3, et, fun H3 F4 k3 => ?_⟩⟩
    · rw [wipe_eq ch.1 fun j hj => ch.2 j fun z => hj (hix j z), wipe_wipe]
    have nsD := (F'.own k0 D hD').2.1
    have hD3 : H3 D = some (.lst acc) := k3 _ _ (sm _ _ hDl) nsD
    have k13 : Kp C H1 H3 := kp.trans (Kp.trans (.of sm) k3)
    cases b with
    | true =>
      show tE C (fun ρ s => ev ρ elt s) σ2 H3 _
      have ec : ((ev ρ' elt s3).bind fun q => (Mini.compL ev (Mini.wipe ρ vs) elt tg ifs (xs.drop (i + 1)) q.2).bind fun r => some (q.1 :: r.1, r.2)) = some (rest, s') := ec
      obtain ⟨⟨yd, s4⟩, ee, ec⟩ := Option.bind_eq_some_iff.mp ec
      obtain ⟨⟨rest', s5⟩, ec2, e5⟩ := Option.bind_eq_some_iff.mp ec
      cases e5
      refine ⟨_, ρ', s3, yd, s4, F4, ee, fun y4 H4 F5 k4 r4 => ?_⟩
      have hD4 : H4 D = some (.lst acc) := k4 _ _ hD3 nsD
      have k24 : Kp C H' H4 := Kp.trans (.of sm) (k3.trans k4)
      have F6 : FR C (addO A k0 D) (Mini.wipe ρ vs) s4 (L2.wipe σ vs) H4 := F'.step k24 (F'.src.of F5.src)
      have F7 := F6.write (o := .lst (acc ++ [y4])) hD' hnv (fun _ z => nomatch z)
      have m7 := mo_own (C := C) (H := H4) (o := .lst (acc ++ [y4])) hD'
      refine ⟨acc, hD4, ?_, _, rfl, hlt, s4, acc ++ [y4], rest', ys1 ++ [yd], F7, upd_same, ?_, ec2, by simpa using ey, by simp; omega, ?_⟩
      · rw [rl.length]
        have := lim_line hlim
        have := hlim
        rw [sizeLine_eq]
        have hL : Mini.LIM = 1000000 := rfl
        omega
      · exact RpL.mo m7 _ _ (RpL.append (.cons r4 .nil) (RpL.mo (mo_kp k24) _ _ rl))
      · intro b o e n
        rw [upd_ne (fun z => by rw [z, hD] at e; cases e)]
        exact (k13.trans k4) b o e n
    | false =>
      show ∃ m', _
      have k23 : Kp C H' H3 := Kp.trans (.of sm) k3
      exact ⟨_, rfl, hlt, s3, acc, rest, ys1, F'.step k23 (F'.src.of F4.src), hD3, RpL.mo (mo_kp k23) _ _ rl, ec, ey, by omega, k13⟩
  · left
    have hie : i = xs.length := by omega
    rw [List.drop_eq_nil_of_le (by omega)] at ec
    have ec : some (([] : List Snd.D), si) = some (rest, s') := ec
    cases ec
    rw [List.append_nil] at ey
    subst ey
    refine ⟨jr'.2 i (by omega), q _ H' (F1.step kp (F1.src.of F'.src)) (k1.trans kp) ?_⟩
    refine ⟨D, acc, rfl, F1.back k1 hD, hDl, RpL.mo (mo_less fun a z => ?_) _ _ rl⟩
    exact (oa_add hk).mpr z
/-- a clause's tests -/
def mTs (rec : Rec) : List E → List Expr → Bool
  | [], [] => true
  | [e], [x] => rec e x
  | _, _ => false
end
end Snd

/-! ## SndN -/
set_option Elab.async false
set_option linter.all false
set_option maxRecDepth 100000
set_option maxHeartbeats 4000000
/-! SndN: more functions of one value; reversed slices; tests. -/
namespace Snd
open PySem PySem.Spec L2
open PyProof.Rows hiding St
open Mini (E T It)
section
variable {X : Cx} {O : Addr → Prop} {C : Ctx}
theorem call_list_rd (hc : X.calm = true) : CallR X (.type "list") (fun xs H Q => ∃ d kvs, xs = [V.ref d] ∧ Rd H d (.dK kvs) ∧ ∀ q, H q = none → Q (.ref q) (upd H q (.lst (kvs.map fun kv => kV kv.1)))) := by
  intro pins s σ H xs us Q I rx h
  obtain ⟨d, kvs, rfl, hk, q⟩ := h
  obtain ⟨u, rfl, ru⟩ := vals1 rx
  obtain rfl : u = Value.ref d := ru
  obtain ⟨hz, lo, ws, kv, dof⟩ := dk_rd I.hok hk
  obtain ⟨ep, hat⟩ := dof.dictAt
  have hlen : kvs.length = ws.length := Paired.length kv
  refine PySem.W.kdl_call (PySem.W.kdl_dict (knd := mixKind X.prog X.w) (kvs := ws) (ep := ep) lo) (I.ok.hd hc) hat (by rw [← hlen]; exact hz) fun hp tk got cap keep at_ items => ?_
  refine ⟨.ref s.heap.objs.size, _, I.laid keep (Nat.le_refl _) (show ObjOk X.prog X.w _ _ _ (.lst (kvs.map fun kv => kV kv.1)) from ⟨by rw [List.length_map]; exact hz, got.toList, cap, ?_, by rw [Array.toArray_toList]; exact at_⟩), rfl, q _ (I.hok.fresh (Nat.le_refl _))⟩
  refine vals_of_at (by simp [items.1, hlen]) fun j x w e1 e2 => ?_
  obtain ⟨k, y, e3, ki⟩ := items.2 j w (by rw [← Array.getElem?_toList]; exact e2)
  have e4 : (kvs.map (·.1))[j]? = some k := by rw [KV.keys kv, List.getElem?_map, e3]; rfl
  rw [List.getElem?_map, Option.map_eq_some_iff] at e4
  obtain ⟨p, e5, rfl⟩ := e4
  rw [List.getElem?_map, e5] at e1
  cases e1
  exact keyIs_rel ki
theorem f1_listA (hc : X.calm = true) : CallR X (.type "list") (rF1 O (Mini.f1D .list)) := by
  intro pins s σ H xs us Q I rx ⟨v, d, r, e, hx, hf, ht, q⟩
  cases d with
  | dic l =>
    cases hf
    obtain ⟨a, kvs, rfl, h1, r1⟩ := hx.dicI
    exact call_list_rd hc pins s σ H xs us Q I rx ⟨a, kvs, e, h1, fun p hp => q _ _ (same_upd hp) (nw_lst hp (rpL_keys r1))⟩
  | _ => exact f1_list (O := O) hc pins s σ H xs us Q I rx ⟨v, _, r, e, hx, hf, ht, q⟩
theorem keys_ints {H : Hp} : ∀ {kvs : List (Key × V)} {ds : List (D × D)} {is : List Int}, RpK H O kvs ds → Mini.intsOf (ds.map (·.1)) = some is → kvs.map (·.1) = is.map Sum.inl
  | _, _, is, .nil, e => by
    have e : some [] = some is := e
    cases e; rfl
  | _, _, is, .cons (c := c) h0 h1 h2, e => by
    rw [List.map_cons] at e
    cases c with
    | int i =>
      simp only [Mini.intsOf, Option.map_eq_some_iff] at e
      obtain ⟨l, e1, rfl⟩ := e
      cases h0
      rw [List.map_cons, List.map_cons, keys_ints h2 e1]
    | _ => simp [Mini.intsOf] at e
theorem f1_sortedA (hc : X.calm = true) (hr : Room 1 X.A) : CallR X (.builtin "sorted") (rF1 O (Mini.f1D .sorted)) := by
  intro pins s σ H xs us Q I rx ⟨v, d, r, e, hx, hf, ht, q⟩
  have hf : Mini.sortD false d = some r := hf
  cases d with
  | lst l =>
    rw [Mini.sortD] at hf
    split at hf
    · split at hf
      · rename_i is hi
        rw [if_neg Bool.false_ne_true] at hf
        exact f1_sortedI (O := O) pins s σ H xs us Q I rx ⟨v, _, r, e, hx, by simp only [hi, Option.map_some]; exact hf, ht, q⟩
      · split at hf
        · rename_i lt hl
          exact f1_sortedT (O := O) hr pins s σ H xs us Q I rx ⟨v, _, r, e, hx, by simp only [hl, Option.map_some]; exact hf, ht, q⟩
        · cases hf
    · cases hf
  | dic kvs =>
    rw [Mini.sortD] at hf
    split at hf
    · rename_i is hi
      split at hf
      · cases hf
      · rename_i hn
        cases hf
        obtain ⟨a, ws, rfl, h1, r1⟩ := hx.dicI
        refine call_sortedDI hc pins s σ H xs us Q I rx ⟨a, ws, is, e, h1, keys_ints r1 hi, by simp at hn; omega, fun ys p hp ho hn => ?_⟩
        rw [sortI_of hp ho]
        exact q _ _ (same_upd hn) (nw_lst hn (RpL.ofInts _))
    · cases hf
  | _ => cases hf
theorem rpL_pairs {H : Hp} : ∀ {ds : List D} {vs : List V} {kvs : List (D × D)}, RpL H O vs ds → Mini.pairsD ds = some kvs → ∃ (ps : List Addr) (ks : List (Key × V)), vs = ps.map V.ref ∧ (∀ K : PySem.W.Frag, Paired (fun p kv => SqT K H p [kV kv.1, kv.2]) ps ks) ∧ RpK H O ks kvs
  | [], _, kvs, .nil, e => by
    have e : some [] = some kvs := e
    cases e
    exact ⟨[], [], rfl, fun _ => .nil, .nil⟩
  | d :: ds, _, kvs, .cons h1 h2, e => by
    unfold Mini.pairsD at e
    split at e
    · cases ‹d :: ds = []›
    · rename_i k v r ez
      cases ez
      split at e
      · rename_i hk
        rw [Option.map_eq_some_iff] at e
        obtain ⟨r', e1, rfl⟩ := e
        obtain ⟨ps, ks, rfl, pr, rk⟩ := rpL_pairs h2 e1
        obtain ⟨kk, ek⟩ := kD_some hk
        cases h1 with
        | tup n hr rl =>
          cases rl with
          | cons a1 rl =>
            cases rl with
            | cons a2 rl =>
              cases rl
              have := bp_key (.of a1) ek
              subst this
              exact ⟨_ :: ps, (kk, _) :: ks, rfl, fun K => .cons (.of hr) (pr K), .cons ek a2 rk⟩
      · cases e
    · cases e
theorem RpK.merge {H : Hp} : ∀ {more : List (Key × V)} {ds : List (D × D)}, RpK H O more ds → ∀ {kvs : List (Key × V)} {es : List (D × D)}, RpK H O kvs es → RpK H O (mergeK kvs more) (Mini.mergeD es ds)
  | _, _, .nil, _, _, r => r
  | _, _, .cons h0 h1 h2, _, _, r => by
    show RpK H O (mergeK (L2.putK _ _ _) _) (Mini.mergeD (Mini.putK _ _ _) _)
    exact RpK.merge h2 (RpK.put h0 h1 r)
theorem f1_dict (hc : X.calm = true) : CallR X (.type "dict") (rF1 O (Mini.f1D .dict)) := by
  intro pins s σ H xs us Q I rx ⟨v, d, r, e, hx, hf, ht, q⟩
  cases d with
  | lst l =>
    have hf : ((Mini.pairsD l).bind fun kvs => if l.length ≤ Mini.LIM then some (Mini.D.dic (Mini.mergeD [] kvs)) else none) = some r := hf
    obtain ⟨kvs, e1, hf⟩ := Option.bind_eq_some_iff.mp hf
    split at hf
    · cases hf
      obtain ⟨a, vs, rfl, h1, r1⟩ := hx.lstI
      obtain ⟨ps, ks, rfl, pr, rk⟩ := rpL_pairs r1 e1
      exact call_dictP hc pins s σ H xs us Q I rx ⟨a, ps, ks, e, .of h1, pr _, fun p hp => q _ _ (same_upd hp) (nw_dic hp (RpK.merge rk .nil))⟩
    · cases hf
  | _ => cases hf
/-- t[::-1] -/
def tRevT (K : PySem.W.Frag) (te : TE) : TE := fun σ H Q => te σ H fun x H1 => ∃ a xs, x = .ref a ∧ SqT K H1 a xs ∧ ∀ p, H1 p = none → Q (.ref p) (upd H1 p (.tup xs.reverse))
theorem pe_revT {e : Expr} {te : TE} {k : Nat} {p1 p2 p3 pos : Pos} (hx : PE X e te) : PE X (.Subscript e (.Slice none none (some (.UnaryOp .USub (.Constant (.int 1) k p1) p2)) p3) pos) (tRevT X.K te) := by
  refine ⟨fun pins s σ H Q I h => ?_⟩
  refine Subscript_ (thn (hx.run pins s σ H _ I h) fun v t1 ⟨y, G1, J1, rv, a, xs, ey, hq, q⟩ => ?_)
  subst ey
  cases rv
  have step : PO X (some (.UnaryOp .USub (.Constant (.int 1) k p1) p2)) (tPart (tUn (rU fun i => .int (-i)) (tC (.int 1)))) := po_some (pe_un un_neg pe_int)
  refine wpAny_Slice (thn (po_none.run pins t1 σ G1 (fun o G2 => o = none ∧ G2 = G1) J1 ⟨rfl, rfl⟩) fun vl t2 ⟨l, G2, J2, pl, el, eG⟩ => ?_)
  subst el eG
  refine thn (po_none.run pins t2 σ G2 (fun o G3 => o = none ∧ G3 = G2) J2 ⟨rfl, rfl⟩) fun vu t3 ⟨u, G3, J3, pu, eu, eG⟩ => ?_
  subst eu eG
  refine thn (step.run pins t3 σ G3 (fun o G4 => o = some (-1) ∧ G4 = G3) J3 ⟨1, rfl, -1, rfl, rfl, rfl⟩) fun vs t4 ⟨o, G4, J4, ps, eo, eG⟩ => ?_
  subst eo eG
  have J5 : Inv X pins σ G4 { t4 with heap := t4.heap.push { cls := .type "slice", data := .fields #[vl, vu, vs] } } := J4.kept (t' := t4.toks) fun b ob z => Heap.get?_push_of_some _ z
  obtain ⟨its, rs, ht, hz⟩ := J5.tuple hq
  have hlen := rs.length
  show wpAny (model X.prog X.w) X.A (subscriptTail e (.Slice none none (some (.UnaryOp .USub (.Constant (.int 1) k p1) p2)) p3) (.ref a) (.ref t4.heap.objs.size)) (EP X pins σ Q) X.xe { t4 with heap := t4.heap.push { cls := .type "slice", data := .fields #[vl, vu, vs] } }
  refine tail_any (ops := [.ref a, .ref t4.heap.objs.size]) ht.typeIs (PyProof.Rows.slot_tuple_getitem.lookup) ?_ (by with_unfolding_all rfl)
  refine getItem_tuple_rev ht (Heap.IsSliceOf.new _ vl vu vs) pl pu ps ?_ (by rw [List.size_toArray]; omega)
  refine ⟨.ref _, _, J5.laid (t' := t4.toks) (o := .tup xs.reverse) (fun b ob z => Heap.get?_push_of_some _ z) (Nat.le_refl _) ?_, rfl, q _ (J5.hok.fresh (Nat.le_refl _))⟩
  exact ⟨by rw [List.length_reverse]; exact hz, its.reverse, rs.reverse, IsTup.new _ _⟩
theorem pe_or2 {x : Expr} {t u : TE} (h : PE X x t) (k : PE X x u) : PE X x (fun σ H Q => t σ H Q ∨ u σ H Q) := ⟨fun pins s σ H Q I q => q.elim (fun q => h.run pins s σ H Q I q) fun q => k.run pins s σ H Q I q⟩

/-! ### tests -/
def tst (ev : Mini.Ev) (e : E) : Mini.Env → Mini.S → Option (Bool × Mini.S) := fun ρ s => (ev ρ e s).bind fun p => (Mini.asBl p.1).map fun b => (b, p.2)
theorem tst_some {ev : Mini.Ev} {e : E} {ρ : Mini.Env} {s s' : Mini.S} {b : Bool} (h : tst ev e ρ s = some (b, s')) : ev ρ e s = some (.bl b, s') := by
  unfold tst at h
  obtain ⟨⟨d, s1⟩, e1, h⟩ := Option.bind_eq_some_iff.mp h
  rw [Option.map_eq_some_iff] at h
  obtain ⟨c, e2, h⟩ := h
  cases h
  have := asBl_some e2
  subst this
  exact e1
theorem tst_of {ev : Mini.Ev} {e : E} {ρ : Mini.Env} {s s' : Mini.S} {b : Bool} (h : ev ρ e s = some (.bl b, s')) : tst ev e ρ s = some (b, s') := by
  unfold tst; rw [h]; rfl
structure So (X : Cx) (C : Ctx) (ev : Mini.Ev) (e : E) (x : Expr) : Prop where
  pe : PE X x (tE C fun ρ s => ev ρ e s)
  pt : PT X x (tB C (tst ev e))
  pn : Mini.fresh e = true → PE X x (tN C fun ρ s => ev ρ e s)
def plainT : Expr → Bool
  | .UnaryOp .Not _ _ => false
  | .BoolOp _ _ _ => false
  | .IfExp _ _ _ _ => false
  | .Compare _ _ _ _ => false
  | _ => true
theorem plainT_is {x : Expr} {env : Env} (h : plainT x = true) (whole : Sem Value) : isTrue x env whole = (do let v ← whole; standAt x.pos; holding [v] (truthy v)) := by
  cases x with
  | UnaryOp op a p => cases op <;> first | rfl | cases h
  | BoolOp op a p => cases h
  | IfExp a b c p => cases h
  | Compare a b c p => cases h
  | _ => rfl
theorem tB_val {ev : Mini.Ev} {e : E} {σ : St} {H : Hp} {Q : Bool → Hp → Prop} (h : tB C (tst ev e) σ H Q) : tE C (fun ρ s => ev ρ e s) σ H (fun x H' => ∃ k, x = .bl k ∧ Q k H') := by
  obtain ⟨A, ρ, s, b, s', F, e1, q⟩ := h
  exact ⟨A, ρ, s, _, s', F, tst_some e1, fun v H' F' k r => ⟨b, r.blI, q H' F' k⟩⟩
theorem tE_N {f : Fe} {σ : St} {H : Hp} {Q : VK} (h : tE C f σ H Q) : tN C f σ H Q := by
  obtain ⟨A, ρ, s, b, s', F, e1, q⟩ := h
  exact ⟨A, ρ, s, _, s', F, e1, fun v H' F' k r => q v H' F' k (r.rp fun p hp => F.notO hp)⟩
theorem so_e {ev : Mini.Ev} {e : E} {x : Expr} (h : PE X x (tE C fun ρ s => ev ρ e s)) (hp : plainT x = true) (hf : Mini.fresh e = false) : So X C ev e x :=
  ⟨h, pt_imp (pt_val h (plainT_is hp)) fun σ H Q z => tB_val z, fun z => by rw [hf] at z; cases z⟩
theorem so_n {ev : Mini.Ev} {e : E} {x : Expr} (h : PE X x (tN C fun ρ s => ev ρ e s)) (hp : plainT x = true) : So X C ev e x :=
  ⟨tN_E h, pt_imp (pt_val (tN_E h) (plainT_is hp)) fun σ H Q z => tB_val z, fun _ => h⟩
end
end Snd

/-! ## SndO -/
set_option Elab.async false
set_option linter.all false
set_option maxRecDepth 100000
set_option maxHeartbeats 4000000
/-! SndO: expressions are what mini says. -/
namespace Snd
open PySem PySem.Spec L2
open PyProof.Rows hiding St
open Mini (E T It)
abbrev RecS := Scope → Scope → E → Expr → Bool
def oneT : E → Expr → (E → Expr → Bool) → Bool := fun e x f => f e x
/-! ### the forms -/
def isNon : Expr → Bool
  | .Constant .none _ _ => true
  | _ => false
def isBl (b : Bool) : Expr → Bool
  | .Constant (.bool c) _ _ => c == b
  | _ => false
def isInt (i : Int) : Expr → Bool
  | .Constant (.int j) _ _ => decide (j = i)
  | _ => false
def isStr (z : String) : Expr → Bool
  | .Constant (.str y) _ _ => decide (y = Str.ofString z)
  | _ => false
def binX (o : Operator) (f g : Expr → Bool) : Expr → Bool
  | .BinOp l op r _ => decide (op = o) && f l && g r
  | _ => false
def unX (f : Expr → Bool) : Expr → Bool
  | .UnaryOp .USub a _ => f a
  | _ => false
def notX (f : Expr → Bool) : Expr → Bool
  | .UnaryOp .Not a _ => f a
  | _ => false
def andX (f g : Expr → Bool) : Expr → Bool
  | .BoolOp .And (a :: b :: r) p => f a && (if r.isEmpty then g b else g (.BoolOp .And (b :: r) p))
  | _ => false
def orX (f g : Expr → Bool) : Expr → Bool
  | .BoolOp .Or (a :: b :: r) p => f a && (if r.isEmpty then g b else g (.BoolOp .Or (b :: r) p))
  | _ => false
def cmpX (o : CmpOp) (f g : Expr → Bool) : Expr → Bool
  | .Compare l [op] [r] _ => decide (op = o) && f l && g r && !behindInMarks op r
  | _ => false
def cmp2X (o p : CmpOp) (f g h : Expr → Bool) : Expr → Bool
  | .Compare l [op, op2] [r, r2] _ => decide (op = o) && decide (op2 = p) && f l && g r && h r2 && !lastMarks [op, op2] [r, r2]
  | _ => false
def iteX (f g h : Expr → Bool) : Expr → Bool
  | .IfExp c a b _ => f c && g a && h b
  | _ => false
def lstX (f : List Expr → Bool) : Expr → Bool
  | .List xs _ => f xs
  | _ => false
def dict0X : Expr → Bool
  | .Dict [] [] _ => true
  | _ => false
def notSlice : Expr → Bool
  | .Slice _ _ _ _ => false
  | _ => true
def idxX (f g : Expr → Bool) : Expr → Bool
  | .Subscript l r _ => f l && g r && notSlice r
  | _ => false
def optX (f : E → Expr → Bool) : Option E → Option Expr → Bool
  | none, none => true
  | some e, some x => f e x
  | _, _ => false
def sliceX (f : Expr → Bool) (g h : Option Expr → Bool) : Expr → Bool
  | .Subscript l (.Slice lo hi none _) _ => f l && g lo && h hi
  | _ => false
def revX (f : Expr → Bool) : Expr → Bool
  | .Subscript l (.Slice none none (some (.UnaryOp .USub (.Constant (.int 1) _ _) _)) _) _ => f l
  | _ => false
def compX (f : Expr → Expr → Expr → List Expr → Scope → Bool) : Expr → Bool
  | .ListComp elt [⟨tg, it, ifs, 0⟩] scope _ => f elt tg it ifs scope
  | _ => false
def methX (m : Str) (f g : Expr → Bool) : Expr → Bool
  | .Call (.Attribute o name ap) [z] [] cp => decide (name = m) && f o && g z && noStar z && (ap.endLine == cp.line) && (match o with | .Call _ _ _ _ => false | _ => true)
  | _ => false
def notSet : Expr → Bool
  | .Set _ _ _ => false
  | _ => true
def f1S : Mini.F1 → Option Str
  | .len => some "len" | .tuple => some "tuple" | .list => some "list" | .sorted => some "sorted" | .sum => some "sum" | .max => some "max" | .min => some "min" | .abs => some "abs" | .int => some "int" | .repr => some "repr" | .all => some "all" | .dict => some "dict"
  | .sortedRev => none
def tyN : Mini.Ty → Str
  | .int => "int" | .bool => "bool" | .str => "str" | .tuple => "tuple" | .list => "list"
def srcKey : Nat → Str
  | 0 => "left"
  | 1 => "mixed"
  | _ => "turn"
/-- source['key'] -/
def srcX (T : Tab) (sc : Scope) (key : Str) : Expr → Bool
  | .Subscript o (.Constant (.str y) _ _) _ => nm T sc T.si o && decide (y = key)
  | _ => false
def ownOf (N : List Str) (vs : List Nat) : List (Str × Nat) := vs.map fun i => (N.getD i "", i)
def rngX (sc : Scope) (rec : Rec) (tu : Bool) (lo : Option E) (hi : E) (x : Expr) : Bool :=
  call1 sc (if tu then "tuple" else "list") (fun z => match lo with
    | none => call1 sc "range" (rec hi) z
    | some l => call2 sc "range" (rec l) (rec hi) z) x
def mStep (T : Tab) (rec : RecS) (sc st : Scope) (e : E) (x : Expr) : Bool := match e with
  | .non => isNon x
  | .bl b => isBl b x
  | .int i => isInt i x
  | .str z => isStr z x
  | .var i => nm T sc i x
  | .own _ => false
  | .bin o a b => binX (opB o) (mA T sc (rec sc st) a) (mA T sc (rec sc st) b) x
  | .neg a => unX (rec sc st a) x
  | .not a => notX (rec sc st a) x
  | .and a b => andX (rec sc st a) (rec sc st b) x
  | .or a b => orX (rec sc st a) (rec sc st b) x
  | .cmp o a b => cmpX (opC o) (mA T sc (rec sc st) a) (mA T sc (rec sc st) b) x
  | .cmp2 o p a b c => cmp2X (opC o) (opC p) (mA T sc (rec sc st) a) (mA T sc (rec sc st) b) (mA T sc (rec sc st) c) x
  | .ite c a b => iteX (rec sc st c) (rec sc st a) (rec sc st b) x
  | .tup es => tupX (mL (rec sc st) es) x
  | .lst es => lstX (mL (rec sc st) es) x
  | .rng tu lo hi => rngX sc (rec sc st) tu lo hi x
  | .dic0 => dict0X x
  | .dicPut _ _ _ => false
  | .idx a i => idxX (mA T sc (rec sc st) a) (rec sc st i) x
  | .slice a lo hi => sliceX (mA T sc (rec sc st) a) (optX (rec sc st) lo) (optX (rec sc st) hi) x
  | .rev a => revX (mA T sc (rec sc st) a) x
  | .comp elt tg it vs ifs => compX (fun elt' tg' it' ifs' scope => blkC T.N sc scope (ownOf T.N vs) && mI T sc (rec sc st) it tg' it' && mTg T scope 9 tg tg' && notSet it' && decide (T.si ∉ vs) && (idxT tg).all (fun j => decide (j ∈ vs)) &&
      mTs (rec (relS scope sc) scope) ifs ifs' && rec (relS scope sc) scope elt elt') x
  | .f1 f a => match f1S f with
    | some y => call1 sc y (mA T sc (rec sc st) a) x
    | none => false
  | .f2 f a b => match f with
    | .max => call2 sc "max" (mA T sc (rec sc st) a) (mA T sc (rec sc st) b) x
    | .min => call2 sc "min" (mA T sc (rec sc st) a) (mA T sc (rec sc st) b) x
    | .index => methX "index" (mA T sc (rec sc st) a) (mA T sc (rec sc st) b) x
    | .count => methX "count" (mA T sc (rec sc st) a) (mA T sc (rec sc st) b) x
  | .isi a t => call2 sc "isinstance" (mA T sc (rec sc st) a) (bn sc (tyN t)) x
  | .call k es => mC T sc (rec sc st) k es x
  | .callS k es => mCS T sc (rec sc st) k es x
  | .srcI k => decide (T.gN ≠ []) && srcX T sc (srcKey k) x
  | .srcN => decide (T.gN ≠ []) && call1 sc "len" (srcX T sc "cells") x
def mE (T : Tab) : Nat → RecS
  | 0 => fun _ _ _ _ => false
  | n + 1 => mStep T (mE T n)

section
variable {R : Nat} {T : Tab} {Fs : List Mini.Fn} {Gs : List Mini.Gn} {sc st : Scope} {X : Cx} {C : Ctx}
/-- within a block -/
theorem XOk.blk (kx : XOk R T Fs Gs sc st X) {scope : Scope} (s : Shared) (H : Hp) (Ca : Addr) (cl : List (Str × Addr)) (fp : List Addr) : XOk R T Fs Gs (relS scope sc) scope (X.blk s H scope (compEnvC scope cl Ca X.env) fp) where
  nN := kx.nN
  nd := kx.nd
  scp := by
    show relabel scope X.env = relS scope sc
    rw [← kx.scp]
    rfl
  sto := fun y hy => by
    have e : (compEnvC scope cl Ca X.env).scope = relS scope X.env.scope := rfl
    show Loc (compEnvC scope cl Ca X.env).scope y ∧ ((scope.names.lookup y == some .cell) = true ∨ (compEnvC scope cl Ca X.env).scope.names.lookup y = some .local)
    rw [e]
    rcases sto_of hy with z | z
    · have q := lookup_relS_keep (sc := X.env.scope) (k := NameKind.local) (by decide) z
      exact ⟨.inl q, .inr q⟩
    · have q := lookup_relS_keep (sc := X.env.scope) (k := NameKind.cell) (by decide) z
      exact ⟨.inr q, .inl (by rw [z]; rfl)⟩
  calm := kx.calm
  room := kx.room
  one := kx.one
  gd := kx.gd
  good := ⟨kx.good.fn, kx.good.gn, kx.good.blt⟩

/-! ### readings -/
theorem rd_const {x : Expr} {v : V} {d : D} (h : PE X x (tC v)) (r : ∀ H O, Rp H O v d) : PE X x (tE C fun _ s => some (d, s)) := pe_imp h fun σ H Q ⟨A, ρ, s, d', s', F, e, q⟩ => by
  cases e
  exact q v H F .refl (r _ _)
theorem rd_var {i : Nat} {x : Expr} (h : PE X x (tVar i)) : PE X x (tE C fun ρ s => match ρ[i]? with
    | some (some (.val d)) => some (d, s)
    | _ => none) := pe_imp h fun σ H Q ⟨A, ρ, s, d', s', F, e, q⟩ => by
  dsimp only at e
  split at e
  · rename_i d er
    cases e
    obtain ⟨v, e1, r⟩ := F.slot _ _ er
    exact ⟨v, e1, q v H F .refl r⟩
  · cases e
theorem pw_of {op : BoolOp} {vs : List Expr} {p : Pos} {t : TT} (h : PT X (.BoolOp op vs p) t) : PW X (.BoolOp op vs p) t := ⟨fun wh pins s σ H Q I q => h.run pins s σ H Q I q⟩
theorem mL_rp {ev : Mini.Ev} {rec : Rec} (ih : ∀ e x, rec e x = true → PE X x (tE C fun ρ s => ev ρ e s)) {es : List E} {xs : List Expr} (h : mL rec es xs = true) : PA X xs (tL C fun ρ s => Mini.evL (ev ρ) es s) := by
  obtain ⟨p, _⟩ := mL_pa (ev := ev) (w := fun _ => false) (fun e x he => tE_AW false (ih e x he)) h
  refine pa_imp p fun σ H Q ⟨A, ρ, s, ds, s', F, e, q⟩ => ⟨A, ρ, s, ds, s', F, e, fun vs H' F' k b => q vs H' F' k (b.rp ?_)⟩
  simp
theorem opt_po {ev : Mini.Ev} {rec : Rec} (ih : ∀ e x, rec e x = true → PE X x (tE C fun ρ s => ev ρ e s)) {e : Option E} {x : Option Expr} (h : optX rec e x = true) :
    PO X x (fun σ H Q => ∃ A ρ s d s' i, FR C A ρ s σ H ∧ Mini.evO (ev ρ) e s = some (d, s') ∧ (match d with | none => some none | some (.int i) => some (some i) | _ => none) = some i ∧ ∀ H', FR C A ρ s' σ H' → Kp C H H' → Q i H') := by
  cases e with
  | none =>
    cases x with
    | none =>
      refine ⟨fun pins s σ H Q I ⟨A, ρ, s0, d, s', i, F, e, ed, q⟩ => po_none.run pins s σ H Q I ?_⟩
      have e : some (none, s0) = some (d, s') := e
      cases e
      cases ed
      exact q H F .refl
    | some x => cases h
  | some e =>
    cases x with
    | none => cases h
    | some x =>
      refine ⟨fun pins s σ H Q I ⟨A, ρ, s0, d, s', i, F, e1, ed, q⟩ => (po_some (ih e x h)).run pins s σ H Q I ?_⟩
      obtain ⟨⟨d', s1⟩, e2, e1⟩ := Option.bind_eq_some_iff.mp (show ((ev ρ e s0).bind fun p => some (some p.1, p.2)) = some (d, s') from e1)
      cases e1
      refine ⟨A, ρ, s0, d', s1, F, e2, fun v H1 F1 k1 r1 => ?_⟩
      cases d' with
      | int j => cases ed; exact ⟨j, r1.intI, q H1 F1 k1⟩
      | _ => cases ed
theorem sl_read {fa : Fe} {fl fh : Mini.Env → Mini.S → Option (Option D × Mini.S)} {σ : St} {H : Hp} {Q : VK}
    (h : tN C (fun ρ s => Mini.bindS (fa ρ s) fun x s => Mini.bindS (fl ρ s) fun l s => Mini.bindS (fh ρ s) fun h s => Mini.retO (Mini.sliceD x l h) s) σ H Q) :
    tSl (fun x lo hi H Q => ∃ O, rSlD O x lo hi H Q) (tA C fa)
      (fun σ H Q => ∃ A ρ s d s' i, FR C A ρ s σ H ∧ fl ρ s = some (d, s') ∧ (match d with | none => some none | some (.int i) => some (some i) | _ => none) = some i ∧ ∀ H', FR C A ρ s' σ H' → Kp C H H' → Q i H')
      (fun σ H Q => ∃ A ρ s d s' i, FR C A ρ s σ H ∧ fh ρ s = some (d, s') ∧ (match d with | none => some none | some (.int i) => some (some i) | _ => none) = some i ∧ ∀ H', FR C A ρ s' σ H' → Kp C H H' → Q i H') σ H Q := by
  obtain ⟨A, ρ, s, d, s', F, e, q⟩ := h
  obtain ⟨x, s1, e1, e⟩ := bindS_some e
  obtain ⟨l, s2, e2, e⟩ := bindS_some e
  obtain ⟨u, s3, e3, e⟩ := bindS_some e
  obtain ⟨e4, rfl⟩ := retO_some e
  have e4 : Mini.sliceD x l u = some d := e4
  unfold Mini.sliceD at e4
  split at e4
  · rename_i lo hi el eh
    refine ⟨A, ρ, s, x, s1, F, e1, fun v H1 F1 k1 b1 => ⟨A, ρ, s1, l, s2, lo, F1, e2, ?_, fun H2 F2 k2 => ⟨A, ρ, s2, u, s3, hi, F2, e3, ?_, fun H3 F3 k3 => ?_⟩⟩⟩
    · cases l with
      | none => cases el; rfl
      | some l =>
        cases l with
        | int i => dsimp only at el; split at el <;> first | (cases el; rfl) | cases el
        | _ => cases el
    · cases u with
      | none => cases eh; rfl
      | some u =>
        cases u with
        | int i => dsimp only at eh; split at eh <;> first | (cases eh; rfl) | cases eh
        | _ => cases eh
    · refine ⟨OA C A, x, d, ((b1.kp k2).kp k3).1, (by cases x <;> first | exact e4 | cases e4), fun a ha => F3.trk ha, fun w H4 sm nw => q w H4 (F3.same sm) (k1.trans (k2.trans (k3.trans (.of sm)))) (nw.back fun p hp => F3.back (k1.trans (k2.trans k3)) hp)⟩
  · cases e4
theorem plainIx {r : Expr} (h : notSlice r = true) : PlainIx r := fun o i => by
  cases r <;> first | rfl | cases h
theorem mTs_pt {ev : Mini.Ev} {rec : Rec} (ih : ∀ e x, rec e x = true → PT X x (tB C (tst ev e))) : ∀ {es : List E} {xs : List Expr}, mTs rec es xs = true → PTs X xs (tB C fun ρ s => Mini.testsL ev ρ es s)
  | [], [], _ => by
    refine ⟨fun pins s σ H Q I ⟨A, ρ, s0, b, s', F, e, q⟩ => pts_nil.run pins s σ H Q I ?_⟩
    have e : some (true, s0) = some (b, s') := e
    cases e
    exact q H F .refl
  | [e], [x], h => by
    refine ⟨fun pins s σ H Q I ⟨A, ρ, s0, b, s', F, e1, q⟩ => (pts_one (ih e x h)).run pins s σ H Q I ⟨A, ρ, s0, b, s', F, ?_, q⟩⟩
    obtain ⟨⟨d, s1⟩, e2, e1⟩ := Option.bind_eq_some_iff.mp (show ((ev ρ e s0).bind fun p => (Mini.asBl p.1).bind fun b => if b then Mini.testsL ev ρ [] p.2 else some (false, p.2)) = some (b, s') from e1)
    obtain ⟨c, e3, e1⟩ := Option.bind_eq_some_iff.mp e1
    unfold tst
    rw [e2]
    show (Mini.asBl d).map (fun b => (b, s1)) = _
    rw [e3]
    cases c with
    | true => exact e1
    | false => exact e1
  | _ :: _ :: _, _, h => by simp [mTs] at h
  | [], _ :: _, h => by simp [mTs] at h
  | [_], [], h => by simp [mTs] at h
  | [_], _ :: _ :: _, h => by simp [mTs] at h
theorem pt_if {c a b : Expr} {p : Pos} {tc ta tb : TT} (hc : PT X c tc) (ha : PT X a ta) (hb : PT X b tb) : PT X (.IfExp c a b p) (fun σ H Q => tc σ H fun k H1 => if k = true then ta σ H1 Q else tb σ H1 Q) := by
  refine ⟨fun pins s σ H Q I h => ?_⟩
  show wpAny _ _ (do if ← isTrue c X.env (eval c X.env) then isTrue a X.env (eval a X.env) else isTrue b X.env (eval b X.env)) _ _ _
  refine wpAny_bind (thn (hc.run pins s σ H _ I h) fun k s1 ⟨H1, I1, q1⟩ => ?_)
  cases k with
  | true => exact ha.run pins s1 σ H1 Q I1 q1
  | false => exact hb.run pins s1 σ H1 Q I1 q1
end
end Snd

/-! ## SndP -/
set_option Elab.async false
set_option linter.all false
set_option maxRecDepth 100000
set_option maxHeartbeats 4000000
/-! SndP: expressions are what mini says. -/
namespace Snd
open PySem PySem.Spec L2
open PyProof.Rows hiding St
open Mini (E T It)
section
variable {R : Nat} {T : Tab} {Fs : List Mini.Fn} {Gs : List Mini.Gn} {sc st : Scope} {X : Cx} {C : Ctx}
theorem boolOf_and {f g : Expr → Bool} {x : Expr} (h : andX f g x = true) : ∃ a b r p, x = .BoolOp .And (a :: b :: r) p ∧ f a = true ∧ (r = [] ∧ g b = true ∨ r ≠ [] ∧ g (.BoolOp .And (b :: r) p) = true) := by
  unfold andX at h
  split at h
  · rename_i a b r p
    rw [Bool.and_eq_true] at h
    refine ⟨a, b, r, p, rfl, h.1, ?_⟩
    cases r with
    | nil => exact .inl ⟨rfl, h.2⟩
    | cons _ _ => exact .inr ⟨by simp, h.2⟩
  · cases h
theorem boolOf_or {f g : Expr → Bool} {x : Expr} (h : orX f g x = true) : ∃ a b r p, x = .BoolOp .Or (a :: b :: r) p ∧ f a = true ∧ (r = [] ∧ g b = true ∨ r ≠ [] ∧ g (.BoolOp .Or (b :: r) p) = true) := by
  unfold orX at h
  split at h
  · rename_i a b r p
    rw [Bool.and_eq_true] at h
    refine ⟨a, b, r, p, rfl, h.1, ?_⟩
    cases r with
    | nil => exact .inl ⟨rfl, h.2⟩
    | cons _ _ => exact .inr ⟨by simp, h.2⟩
  · cases h
theorem boot_f1 {f : Mini.F1} {y : Str} (h : f1S f = some y) : y ∈ bltN ∧ y ≠ "__name__" ∧ (y == ("__debug__" : Str)) = false := by
  cases f <;> first | (cases h; exact ⟨by decide, by decide, by decide⟩) | cases h
theorem so_and {ev : Mini.Ev} {a b : E} {xa xb : Expr} {r : List Expr} {p : Pos} (ha : So X C ev a xa) (hb : PE X (.BoolOp .And (xb :: r) p) (tE C fun ρ s => ev ρ b s) ∧ PW X (.BoolOp .And (xb :: r) p) (tB C (tst ev b))) {e : E} (hf : Mini.fresh e = false)
    {ev' : Mini.Ev} (he : ∀ ρ s, ev' ρ e s = Mini.bindS (ev ρ a s) fun x s => (Mini.asBl x).bind fun c => if c then Mini.bindS (ev ρ b s) fun y s => Mini.retO ((Mini.asBl y).map .bl) s else some (.bl false, s)) : So X C ev' e (.BoolOp .And (xa :: xb :: r) p) := by
  refine ⟨pe_imp (pe_and ha.pe hb.1) fun σ H Q ⟨A, ρ, s, d, s', F, e1, q⟩ => ?_, pt_imp (pw_and ha.pt hb.2).pt fun σ H Q ⟨A, ρ, s, k, s', F, e1, q⟩ => ?_, fun z => by rw [hf] at z; cases z⟩
  · have g0 := (he ρ s).symm.trans e1
    obtain ⟨x, s1, e2, g1⟩ := bindS_some g0
    obtain ⟨c, e3, g2⟩ := Option.bind_eq_some_iff.mp g1
    cases asBl_some e3
    refine ⟨A, ρ, s, _, s1, F, e2, fun v H1 F1 k1 r1 => ⟨c, r1.blI, ?_⟩⟩
    cases c with
    | true =>
      simp only [if_true, Bool.false_eq_true, if_false] at g2
      obtain ⟨y, s2, e4, g3⟩ := bindS_some g2
      obtain ⟨e5, rfl⟩ := retO_some g3
      obtain ⟨k, e6, e7⟩ := Option.map_eq_some_iff.mp e5
      cases asBl_some e6
      cases e7
      exact ⟨A, ρ, s1, _, s2, F1, e4, fun v H2 F2 k2 r2 => q v H2 F2 (k1.trans k2) r2⟩
    | false =>
      simp only [if_true, Bool.false_eq_true, if_false] at g2
      cases g2
      exact q _ H1 F1 k1 (.bl _)
  · have g0 := (he ρ s).symm.trans (tst_some e1)
    obtain ⟨x, s1, e2, g1⟩ := bindS_some g0
    obtain ⟨c, e3, g2⟩ := Option.bind_eq_some_iff.mp g1
    cases asBl_some e3
    refine ⟨A, ρ, s, c, s1, F, tst_of e2, fun H1 F1 k1 => ?_⟩
    cases c with
    | true =>
      simp only [if_true, Bool.false_eq_true, if_false] at g2
      obtain ⟨y, s2, e4, g3⟩ := bindS_some g2
      obtain ⟨e5, rfl⟩ := retO_some g3
      obtain ⟨k', e6, e7⟩ := Option.map_eq_some_iff.mp e5
      cases asBl_some e6
      cases e7
      exact ⟨A, ρ, s1, _, s2, F1, tst_of e4, fun H2 F2 k2 => q H2 F2 (k1.trans k2)⟩
    | false =>
      simp only [if_true, Bool.false_eq_true, if_false] at g2
      cases g2
      exact q H1 F1 k1
theorem so_or {ev : Mini.Ev} {a b : E} {xa xb : Expr} {r : List Expr} {p : Pos} (ha : So X C ev a xa) (hb : PE X (.BoolOp .Or (xb :: r) p) (tE C fun ρ s => ev ρ b s) ∧ PW X (.BoolOp .Or (xb :: r) p) (tB C (tst ev b))) {e : E} (hf : Mini.fresh e = false)
    {ev' : Mini.Ev} (he : ∀ ρ s, ev' ρ e s = Mini.bindS (ev ρ a s) fun x s => (Mini.asBl x).bind fun c => if c then some (.bl true, s) else Mini.bindS (ev ρ b s) fun y s => Mini.retO ((Mini.asBl y).map .bl) s) : So X C ev' e (.BoolOp .Or (xa :: xb :: r) p) := by
  refine ⟨pe_imp (pe_or ha.pe hb.1) fun σ H Q ⟨A, ρ, s, d, s', F, e1, q⟩ => ?_, pt_imp (pw_or ha.pt hb.2).pt fun σ H Q ⟨A, ρ, s, k, s', F, e1, q⟩ => ?_, fun z => by rw [hf] at z; cases z⟩
  · have g0 := (he ρ s).symm.trans e1
    obtain ⟨x, s1, e2, g1⟩ := bindS_some g0
    obtain ⟨c, e3, g2⟩ := Option.bind_eq_some_iff.mp g1
    cases asBl_some e3
    refine ⟨A, ρ, s, _, s1, F, e2, fun v H1 F1 k1 r1 => ⟨c, r1.blI, ?_⟩⟩
    cases c with
    | false =>
      simp only [if_true, Bool.false_eq_true, if_false] at g2
      obtain ⟨y, s2, e4, g3⟩ := bindS_some g2
      obtain ⟨e5, rfl⟩ := retO_some g3
      obtain ⟨k, e6, e7⟩ := Option.map_eq_some_iff.mp e5
      cases asBl_some e6
      cases e7
      exact ⟨A, ρ, s1, _, s2, F1, e4, fun v H2 F2 k2 r2 => q v H2 F2 (k1.trans k2) r2⟩
    | true =>
      simp only [if_true, Bool.false_eq_true, if_false] at g2
      cases g2
      exact q _ H1 F1 k1 (.bl _)
  · have g0 := (he ρ s).symm.trans (tst_some e1)
    obtain ⟨x, s1, e2, g1⟩ := bindS_some g0
    obtain ⟨c, e3, g2⟩ := Option.bind_eq_some_iff.mp g1
    cases asBl_some e3
    refine ⟨A, ρ, s, c, s1, F, tst_of e2, fun H1 F1 k1 => ?_⟩
    cases c with
    | false =>
      simp only [if_true, Bool.false_eq_true, if_false] at g2
      obtain ⟨y, s2, e4, g3⟩ := bindS_some g2
      obtain ⟨e5, rfl⟩ := retO_some g3
      obtain ⟨k', e6, e7⟩ := Option.map_eq_some_iff.mp e5
      cases asBl_some e6
      cases e7
      exact ⟨A, ρ, s1, _, s2, F1, tst_of e4, fun H2 F2 k2 => q H2 F2 (k1.trans k2)⟩
    | true =>
      simp only [if_true, Bool.false_eq_true, if_false] at g2
      cases g2
      exact q H1 F1 k1
theorem so_not {ev : Mini.Ev} {a : E} {xa : Expr} {p : Pos} (ha : So X C ev a xa) {e : E} (hf : Mini.fresh e = false)
    {ev' : Mini.Ev} (he : ∀ ρ s, ev' ρ e s = Mini.bindS (ev ρ a s) fun x s => Mini.retO ((Mini.asBl x).map fun b => .bl (!b)) s) : So X C ev' e (.UnaryOp .Not xa p) := by
  refine ⟨pe_imp (pe_not ha.pe) fun σ H Q ⟨A, ρ, s, d, s', F, e1, q⟩ => ?_, pt_imp (pt_not ha.pt) fun σ H Q ⟨A, ρ, s, k, s', F, e1, q⟩ => ?_, fun z => by rw [hf] at z; cases z⟩
  · have g0 := (he ρ s).symm.trans e1
    obtain ⟨x, s1, e2, g1⟩ := bindS_some g0
    obtain ⟨e5, rfl⟩ := retO_some g1
    obtain ⟨k, e6, rfl⟩ := Option.map_eq_some_iff.mp e5
    cases asBl_some e6
    exact ⟨A, ρ, s, _, s1, F, e2, fun v H1 F1 k1 r1 => ⟨k, r1.blI, q _ H1 F1 k1 (.bl _)⟩⟩
  · have g0 := (he ρ s).symm.trans (tst_some e1)
    obtain ⟨x, s1, e2, g1⟩ := bindS_some g0
    obtain ⟨e5, rfl⟩ := retO_some g1
    obtain ⟨k', e6, e7⟩ := Option.map_eq_some_iff.mp e5
    cases asBl_some e6
    cases e7
    exact ⟨A, ρ, s, _, s1, F, tst_of e2, fun H1 F1 k1 => q H1 F1 k1⟩
theorem so_ite {ev : Mini.Ev} {c a b : E} {xc xa xb : Expr} {p : Pos} (hc : So X C ev c xc) (ha : So X C ev a xa) (hb : So X C ev b xb) {e : E} (hf : Mini.fresh e = false)
    {ev' : Mini.Ev} (he : ∀ ρ s, ev' ρ e s = Mini.bindS (ev ρ c s) fun x s => (Mini.asBl x).bind fun t => if t then ev ρ a s else ev ρ b s) : So X C ev' e (.IfExp xc xa xb p) := by
  refine ⟨pe_imp (pe_ifExp hc.pt ha.pe hb.pe) fun σ H Q ⟨A, ρ, s, d, s', F, e1, q⟩ => ?_, pt_imp (pt_if hc.pt ha.pt hb.pt) fun σ H Q ⟨A, ρ, s, k, s', F, e1, q⟩ => ?_, fun z => by rw [hf] at z; cases z⟩
  · have g0 := (he ρ s).symm.trans e1
    obtain ⟨x, s1, e2, g1⟩ := bindS_some g0
    obtain ⟨c, e3, g2⟩ := Option.bind_eq_some_iff.mp g1
    cases asBl_some e3
    refine ⟨A, ρ, s, _, s1, F, tst_of e2, fun H1 F1 k1 => ?_⟩
    cases c with
    | true => exact ⟨A, ρ, s1, _, s', F1, g2, fun v H2 F2 k2 r2 => q v H2 F2 (k1.trans k2) r2⟩
    | false => exact ⟨A, ρ, s1, _, s', F1, g2, fun v H2 F2 k2 r2 => q v H2 F2 (k1.trans k2) r2⟩
  · have g0 := (he ρ s).symm.trans (tst_some e1)
    obtain ⟨x, s1, e2, g1⟩ := bindS_some g0
    obtain ⟨c, e3, g2⟩ := Option.bind_eq_some_iff.mp g1
    cases asBl_some e3
    refine ⟨A, ρ, s, c, s1, F, tst_of e2, fun H1 F1 k1 => ?_⟩
    cases c with
    | true => exact ⟨A, ρ, s1, _, s', F1, tst_of g2, fun H2 F2 k2 => q H2 F2 (k1.trans k2)⟩
    | false => exact ⟨A, ρ, s1, _, s', F1, tst_of g2, fun H2 F2 k2 => q H2 F2 (k1.trans k2)⟩
theorem so_cmp (kx : XOk R T Fs Gs sc st X) {o : Mini.CO} {fa fb : Fe} {xa xb : Expr} {p : Pos} (ha : PE X xa (tA C fa)) (hb : PE X xb (tA C fb)) (hm : behindInMarks (opC o) xb = false) {e : E} (hf : Mini.fresh e = false)
    {ev' : Mini.Ev} (he : ∀ ρ s, ev' ρ e s = Mini.bindS (fa ρ s) fun x s => Mini.bindS (fb ρ s) fun y s => Mini.retO ((Mini.cmpD o x y).map .bl) s) : So X C ev' e (.Compare xa [opC o] [xb] p) := by
  have op := opr_ex fun O => op_cmp (X := X) (O := O) kx.room1 o
  refine ⟨pe_imp (pe_cmpR op ha hb hm) fun σ H Q ⟨A, ρ, s, d, s', F, e1, q⟩ => rd2 ⟨A, ρ, s, d, s', F, ?_, fun v H' F' k r => q v H' F' k (r.rp fun p hp => F.notO hp)⟩,
    pt_imp (pt_cmpR op ha hb hm) fun σ H Q h => ?_, fun z => by rw [hf] at z; cases z⟩
  · exact (he ρ s).symm.trans e1
  · obtain ⟨A, ρ, s, d, s', F, e1, q⟩ := tE_N (tB_val h)
    exact rd2 ⟨A, ρ, s, d, s', F, (he ρ s).symm.trans e1, q⟩
theorem chain_read (O' : Unit) {o o2 : Mini.CO} {fa fb fc : Fe} {σ : St} {H : Hp} {Q : VK}
    (h : tE C (fun ρ s => Mini.bindS (fa ρ s) fun x s => Mini.bindS (fb ρ s) fun y s => (Mini.cmpD o x y).bind fun t => if t then Mini.bindS (fc ρ s) fun z s => Mini.retO ((Mini.cmpD o2 y z).map .bl) s else some (.bl false, s)) σ H Q) :
    tChain (fun x y H Q => ∃ O, rD O (fun a b => bO (Mini.cmpD o a b)) x y H Q) (fun x y H Q => ∃ O, rD O (fun a b => bO (Mini.cmpD o2 a b)) x y H Q) (tA C fa) (tA C fb) (tA C fc) σ H Q := by
  obtain ⟨A, ρ, s, d, s', F, e, q⟩ := h
  obtain ⟨x, s1, e1, e⟩ := bindS_some e
  obtain ⟨y, s2, e2, e⟩ := bindS_some e
  obtain ⟨t, e3, e⟩ := Option.bind_eq_some_iff.mp e
  refine ⟨A, ρ, s, x, s1, F, e1, fun v H1 F1 k1 r1 => ⟨A, ρ, s1, y, s2, F1, e2, fun w H2 F2 k2 r2 => ?_⟩⟩
  refine ⟨OA C A, x, y, .bl t, (r1.kp k2).1, r2.1, (by show (Mini.cmpD o x y).map Mini.D.bl = _; rw [e3]; rfl), fun a ha => F2.trk ha, fun u H3 sm nw => ⟨t, ?_, ?_⟩⟩
  · exact Rp.blI nw
  have F3 := F2.same sm
  have k3 : Kp C H H3 := k1.trans (k2.trans (.of sm))
  cases t with
  | true =>
    simp only [if_true] at e
    obtain ⟨z, s3, e4, e⟩ := bindS_some e
    obtain ⟨e5, rfl⟩ := retO_some e
    refine ⟨A, ρ, s2, z, s3, F3, e4, fun w3 H4 F4 k4 r4 => ?_⟩
    refine ⟨OA C A, y, z, d, ((r2.kp (.of sm)).kp k4).1, r4.1, e5, fun a ha => F4.trk ha, fun u5 H5 sm5 nw5 => ?_⟩
    exact q u5 H5 (F4.same sm5) (k3.trans (k4.trans (.of sm5))) (nw5.rp fun p hp => F4.notO hp)
  | false =>
    simp only [Bool.false_eq_true, if_false] at e
    cases e
    exact q _ H3 F3 k3 (.bl _)
theorem so_cmp2 (kx : XOk R T Fs Gs sc st X) {o o2 : Mini.CO} {fa fb fc : Fe} {xa xb xc : Expr} {p : Pos} (ha : PE X xa (tA C fa)) (hb : PE X xb (tA C fb)) (hc : PE X xc (tA C fc)) (hm : lastMarks [opC o, opC o2] [xb, xc] = false) {e : E} (hf : Mini.fresh e = false)
    {ev' : Mini.Ev} (he : ∀ ρ s, ev' ρ e s = Mini.bindS (fa ρ s) fun x s => Mini.bindS (fb ρ s) fun y s => (Mini.cmpD o x y).bind fun t => if t then Mini.bindS (fc ρ s) fun z s => Mini.retO ((Mini.cmpD o2 y z).map .bl) s else some (.bl false, s)) :
    So X C ev' e (.Compare xa [opC o, opC o2] [xb, xc] p) := by
  have op := opr_ex fun O => op_cmp (X := X) (O := O) kx.room1 o
  have op2 := opr_ex fun O => op_cmp (X := X) (O := O) kx.room1 o2
  refine ⟨pe_imp (pe_chain op op2 ha hb hc hm) fun σ H Q ⟨A, ρ, s, d, s', F, e1, q⟩ => chain_read () ⟨A, ρ, s, d, s', F, (he ρ s).symm.trans e1, q⟩,
    pt_imp (pt_chain op op2 ha hb hc hm) fun σ H Q h => ?_, fun z => by rw [hf] at z; cases z⟩
  obtain ⟨A, ρ, s, d, s', F, e1, q⟩ := tB_val h
  exact chain_read () ⟨A, ρ, s, d, s', F, (he ρ s).symm.trans e1, q⟩
end
end Snd

/-! ## SndQ -/
set_option Elab.async false
set_option linter.all false
set_option maxRecDepth 100000
set_option maxHeartbeats 4000000
/-! SndQ: expressions are what mini says: the theorem. -/
namespace Snd
open PySem PySem.Spec L2
open PyProof.Rows hiding St
open Mini (E T It)
section
variable {R : Nat} {T : Tab} {Fs : List Mini.Fn} {Gs : List Mini.Gn} {sc st : Scope} {X : Cx} {C : Ctx}
theorem c1_pe {f : Value} {y : Str} {g : D → Option D} {fa : Fe} {z : Expr} {p pos : Pos} (kx : XOk R T Fs Gs sc st X) (hf : (∃ id, f = .builtin id) ∨ ∃ t, f = .type t) (hc : ∀ O, CallR X f (rF1 O g)) (hg : glC sc y = true) (hy : y ∈ bltN) (hv : bootBuiltins y = some f) (hn : y ≠ "__name__")
    (hd : (y == ("__debug__" : Str)) = false) (ha : PE X z (tA C fa)) (ns : noStar z = true) : PE X (.Call (.Name y p) [z] [] pos) (tN C fun ρ s => Mini.bindS (fa ρ s) fun x s => Mini.retO (g x) s) := by
  rcases hf with ⟨id, rfl⟩ | ⟨t, rfl⟩
  · exact pe_imp (pe_callB (callr_ex hc) (kx.gl hg) (kx.good.blt _ hy) hv (pa_cons ha pa_nil (star_cons ns)) hn hd (star_cons ns) rfl) fun σ H Q h => rc1 h
  · exact pe_imp (pe_callTy (callr_ex hc) (kx.gl hg) (kx.good.blt _ hy) hv (pa_cons ha pa_nil (star_cons ns)) hn hd (star_cons ns) rfl) fun σ H Q h => rc1 h
theorem c2_pe {id : String} {y : Str} {g : D → D → Option D} {fa fb : Fe} {z u : Expr} {p pos : Pos} (kx : XOk R T Fs Gs sc st X) (hc : ∀ O, CallR X (.builtin id) (rF2 O g)) (hg : glC sc y = true) (hy : y ∈ bltN) (hv : bootBuiltins y = some (.builtin id)) (hn : y ≠ "__name__")
    (hd : (y == ("__debug__" : Str)) = false) (ha : PE X z (tA C fa)) (hb : PE X u (tA C fb)) (ns : noStar z = true) (nu : noStar u = true) : PE X (.Call (.Name y p) [z, u] [] pos) (tN C fun ρ s => Mini.bindS (fa ρ s) fun x s => Mini.bindS (fb ρ s) fun y s => Mini.retO (g x y) s) :=
  pe_imp (pe_callB (callr_ex hc) (kx.gl hg) (kx.good.blt _ hy) hv (pa_cons ha (pa_cons hb pa_nil (star_cons nu)) (star_cons ns)) hn hd (star_cons ns) (star_none (by rw [List.all_cons, nu]; rfl))) fun σ H Q h => rc2 h
theorem so_f1 (kx : XOk R T Fs Gs sc st X) {ev : Mini.Ev} {rec : Rec} (ih : ∀ e x, rec e x = true → PE X x (tE C fun ρ s => ev ρ e s)) {f : Mini.F1} {a : E} {x : Expr} {y : Str} (hy : f1S f = some y) (h : call1 sc y (mA T sc rec a) x = true) :
    PE X x (tN C fun ρ s => Mini.bindS (Mini.evA ev ρ a s) fun x s => Mini.retO (Mini.f1D f x) s) ∧ plainT x = true := by
  obtain ⟨p, z, pos, rfl, hg, ns, h⟩ := call1_of h
  have ha := tAW_A (mA_pe kx ih h)
  have hb := boot_f1 hy
  refine ⟨?_, rfl⟩
  cases f with
  | len => cases hy; exact c1_pe kx (.inl ⟨_, rfl⟩) (fun O => f1_len) hg hb.1 boot_len hb.2.1 hb.2.2 ha ns
  | tuple => cases hy; exact c1_pe kx (.inr ⟨_, rfl⟩) (fun O => f1_tuple) hg hb.1 boot_tuple hb.2.1 hb.2.2 ha ns
  | list => cases hy; exact c1_pe kx (.inr ⟨_, rfl⟩) (fun O => f1_listA kx.calm) hg hb.1 boot_list hb.2.1 hb.2.2 ha ns
  | sorted => cases hy; exact c1_pe kx (.inl ⟨_, rfl⟩) (fun O => f1_sortedA kx.calm kx.room1) hg hb.1 boot_sorted hb.2.1 hb.2.2 ha ns
  | sum => cases hy; exact c1_pe kx (.inl ⟨_, rfl⟩) (fun O => f1_sum kx.calm) hg hb.1 boot_sum hb.2.1 hb.2.2 ha ns
  | max => cases hy; exact c1_pe kx (.inl ⟨_, rfl⟩) (fun O => f1_max kx.calm) hg hb.1 boot_max hb.2.1 hb.2.2 ha ns
  | min =>
    cases hy
    refine pe_imp (c1_pe kx (.inl ⟨_, rfl⟩) (fun O => f1_min kx.calm) hg hb.1 boot_min hb.2.1 hb.2.2 ha ns) fun σ H Q ⟨A, ρ, s, d, s', F, e, q⟩ => ⟨A, ρ, s, d, s', F, ?_, q⟩
    obtain ⟨v, s1, e1, e⟩ := bindS_some e
    show Mini.bindS (Mini.evA ev ρ a s) _ = _
    rw [e1]
    cases v with
    | _ => exact e
  | abs => cases hy; exact c1_pe kx (.inl ⟨_, rfl⟩) (fun O => f1_abs) hg hb.1 boot_abs hb.2.1 hb.2.2 ha ns
  | int => cases hy; exact c1_pe kx (.inr ⟨_, rfl⟩) (fun O => f1_int) hg hb.1 boot_int hb.2.1 hb.2.2 ha ns
  | repr => cases hy; exact c1_pe kx (.inl ⟨_, rfl⟩) (fun O => f1_repr kx.gd kx.room1) hg hb.1 boot_repr hb.2.1 hb.2.2 ha ns
  | all => cases hy; exact c1_pe kx (.inl ⟨_, rfl⟩) (fun O => f1_all kx.calm) hg hb.1 boot_all hb.2.1 hb.2.2 ha ns
  | dict => cases hy; exact c1_pe kx (.inr ⟨_, rfl⟩) (fun O => f1_dict kx.calm) hg hb.1 boot_dict hb.2.1 hb.2.2 ha ns
  | sortedRev => cases hy
theorem rgV_map (i j : Int) : ∀ {H : Hp} {O : Addr → Prop}, RpL H O (rgV i j) ((List.range (j - i).toNat).map fun (k : Nat) => Mini.D.int (i + (k : Int))) := by
  intro H O
  unfold rgV
  induction (List.range (j - i).toNat) with
  | nil => exact .nil
  | cons k r ih => exact .cons (.int _) ih
theorem rng_pe (kx : XOk R T Fs Gs sc st X) {ev : Mini.Ev} {rec : Rec} (ih : ∀ e x, rec e x = true → PE X x (tE C fun ρ s => ev ρ e s)) {tu : Bool} {lo : Option E} {hi : E} {x : Expr} (h : rngX sc rec tu lo hi x = true) :
    PE X x (tN C fun ρ s => Mini.bindS (Mini.evO (ev ρ) lo s) fun l s => Mini.bindS (ev ρ hi s) fun h s => match (match l with | none => some 0 | some (.int i) => some i | _ => none), h with
    | some i, .int j => (Mini.rangeL i j).bind fun xs => some (if tu then .tup xs else .lst xs, s)
    | _, _ => none) ∧ plainT x = true := by
  obtain ⟨p, z, pos, rfl, hg, ns, h⟩ := call1_of h
  refine ⟨?_, rfl⟩
  -- the range
  have rg : PRg X z (fun σ H Q => ∃ A ρ s i j s', FR C A ρ s σ H ∧ (∃ l s1, Mini.evO (ev ρ) lo s = some (l, s1) ∧ (match l with | none => some 0 | some (.int i) => some i | _ => none) = some i ∧ ev ρ hi s1 = some (.int j, s')) ∧ ∀ H', FR C A ρ s' σ H' → Kp C H H' → Q i j H') := by
    cases lo with
    | none =>
      obtain ⟨p2, u, pos2, rfl, hg2, ns2, h⟩ := call1_of h
      intro pins s σ H Q I ⟨A, ρ, s0, i, j, s', F, ⟨l, s1, e1, e2, e3⟩, q⟩
      refine prg_1 (kx.gl hg2) (kx.good.blt _ (by decide)) (ih _ _ h) (star1 ns2) pins s σ H Q I ?_
      have e1 : some (none, s0) = some (l, s1) := e1
      cases e1
      cases e2
      exact ⟨A, ρ, s0, _, s', F, e3, fun v H1 F1 k1 r1 => ⟨j, r1.intI, q H1 F1 k1⟩⟩
    | some l =>
      obtain ⟨p2, u, u2, pos2, rfl, hg2, ns2, ns3, h, h2⟩ := call2_of h
      intro pins s σ H Q I ⟨A, ρ, s0, i, j, s', F, ⟨l, s1, e1, e2, e3⟩, q⟩
      refine prg_2 (kx.gl hg2) (kx.good.blt _ (by decide)) (ih _ _ h) (ih _ _ h2) (star2 ns2) (star1 ns3) (plain1 ns3) pins s σ H Q I ?_
      obtain ⟨⟨d, s2⟩, e4, e1⟩ := Option.bind_eq_some_iff.mp e1
      cases e1
      cases d with
      | int i' =>
        cases e2
        exact ⟨A, ρ, s0, _, _, F, e4, fun v H1 F1 k1 r1 => ⟨A, ρ, _, _, s', F1, e3, fun w H2 F2 k2 r2 => ⟨_, _, r1.intI, r2.intI, q H2 F2 (k1.trans k2)⟩⟩⟩
      | _ => cases e2
  have fin : ∀ (σ : St) (H : Hp) (Q : VK) (o : List V → HO) (mk : List D → D), (∀ H1 p vs ds O, H1 p = none → Trk H1 O → RpL H1 O vs ds → Nw H1 (upd H1 p (o vs)) O (.ref p) (mk ds)) →
      tN C (fun ρ s => Mini.bindS (Mini.evO (ev ρ) lo s) fun l s => Mini.bindS (ev ρ hi s) fun h s => match (match l with | none => some 0 | some (.int i) => some i | _ => none), h with
        | some i, .int j => (Mini.rangeL i j).bind fun xs => some (mk xs, s)
        | _, _ => none) σ H Q → ∃ A ρ s i j s', FR C A ρ s σ H ∧ (∃ l s1, Mini.evO (ev ρ) lo s = some (l, s1) ∧ (match l with | none => some 0 | some (.int i) => some i | _ => none) = some i ∧ ev ρ hi s1 = some (.int j, s')) ∧
          ∀ H', FR C A ρ s' σ H' → Kp C H H' → RgOk i j ∧ ∀ p, H' p = none → Q (.ref p) (upd H' p (o (rgV i j))) := fun σ H Q o mk hmk ⟨A, ρ, s, d, s', F, e, q⟩ => by
    obtain ⟨l, s1, e1, e⟩ := bindS_some e
    obtain ⟨h, s2, e2, e⟩ := bindS_some e
    generalize hlo : (match l with | none => some 0 | some (Mini.D.int i) => some i | _ => none) = lo' at e
    cases lo' with
    | none => cases e
    | some i =>
    cases h with
    | int j =>
      obtain ⟨xs, e3, e⟩ := Option.bind_eq_some_iff.mp (show ((Mini.rangeL i j).bind fun xs => some (mk xs, s2)) = some (d, s') from e)
      cases e
      obtain ⟨b1, b2, b3, rfl⟩ := rangeL_some e3
      have hL : Mini.LIM = 1000000 := rfl
      refine ⟨A, ρ, s, i, j, _, F, ⟨l, s1, e1, hlo, e2⟩, fun H1 F1 k1 => ⟨⟨by omega, by omega, by omega, by omega, by omega⟩, fun p hp => q _ _ (F1.same (same_upd hp)) (k1.trans (.of (same_upd hp))) ?_⟩⟩
      exact (hmk H1 p _ _ _ hp (fun a ha => F1.trk ha) (rgV_map i j)).back fun p hp => F1.back k1 hp
    | _ => cases e
  cases tu with
  | true => exact pe_imp (pe_tupRg kx.calm (kx.gl hg) (kx.good.blt _ (by decide)) rg (star1 ns)) fun σ H Q h => fin σ H Q .tup .tup (fun H1 p vs ds O hp ht r => rp_tup ht hp r) h
  | false => exact pe_imp (pe_listRg kx.calm (kx.gl hg) (kx.good.blt _ (by decide)) rg (star1 ns)) fun σ H Q h => fin σ H Q .lst .lst (fun H1 p vs ds O hp ht r => nw_lst hp r) h
theorem mth_of {m : Str} {f g : Expr → Bool} {x : Expr} (h : methX m f g x = true) : ∃ o ap z cp, x = .Call (.Attribute o m ap) [z] [] cp ∧ f o = true ∧ g z = true ∧ noStar z = true ∧ (ap.endLine == cp.line) = true ∧ ∀ env, attributeBase o m env (eval o env) = eval o env := by
  unfold methX at h
  split at h
  · rename_i o name ap z cp
    simp only [Bool.and_eq_true, decide_eq_true_eq] at h
    obtain ⟨⟨⟨⟨⟨rfl, h1⟩, h2⟩, h3⟩, h4⟩, h5⟩ := h
    refine ⟨o, ap, z, cp, rfl, h1, h2, h3, h4, fun env => ?_⟩
    cases o <;> first | rfl | cases h5
  · cases h
theorem few1 {z : Expr} {env : Env} {cp : Pos} (ns : noStar z = true) : ((backTo cp (starEach [z] env)).all (fun x => !x.1) && (backToKw cp (keywordEach [] env)).all (fun x => x.1.isSome)
      && decide (([z] : List Expr).length + ([] : List Keyword).length + (if ([] : List Keyword).isEmpty then 0 else 1) < 30)) = true := by
  rw [star_cons ns]; rfl
theorem cmpX_of {o : CmpOp} {f g : Expr → Bool} {x : Expr} (h : cmpX o f g x = true) : ∃ l r p, x = .Compare l [o] [r] p ∧ f l = true ∧ g r = true ∧ behindInMarks o r = false := by
  unfold cmpX at h
  split at h
  · rename_i l op r p
    simp only [Bool.and_eq_true, decide_eq_true_eq, Bool.not_eq_true'] at h
    obtain ⟨⟨⟨rfl, h1⟩, h2⟩, h3⟩ := h
    exact ⟨l, r, p, rfl, h1, h2, h3⟩
  · cases h
theorem cmp2X_of {o o2 : CmpOp} {f g k : Expr → Bool} {x : Expr} (h : cmp2X o o2 f g k x = true) : ∃ l r r2 p, x = .Compare l [o, o2] [r, r2] p ∧ f l = true ∧ g r = true ∧ k r2 = true ∧ lastMarks [o, o2] [r, r2] = false := by
  unfold cmp2X at h
  split at h
  · rename_i l op op2 r r2 p
    simp only [Bool.and_eq_true, decide_eq_true_eq, Bool.not_eq_true'] at h
    obtain ⟨⟨⟨⟨⟨rfl, rfl⟩, h1⟩, h2⟩, h3⟩, h4⟩ := h
    exact ⟨l, r, r2, p, rfl, h1, h2, h3, h4⟩
  · cases h
theorem compX_of {f : Expr → Expr → Expr → List Expr → Scope → Bool} {x : Expr} (h : compX f x = true) : ∃ elt tg it ifs scope p, x = .ListComp elt [⟨tg, it, ifs, 0⟩] scope p ∧ f elt tg it ifs scope = true := by
  unfold compX at h
  split at h
  · exact ⟨_, _, _, _, _, _, rfl, h⟩
  · cases h
theorem fold_pure {it : Expr} {env : Env} (h : notSet it = true) (x : Value) : foldedSetIterable it env x = pure x := by
  cases it <;> first | rfl | cases h
theorem own_ix (N : List Str) (vs : List Nat) : (ownOf N vs).map (·.2) = vs := by
  unfold ownOf
  rw [List.map_map]
  exact List.map_id _
/-- the block of a comprehension, for pe_lc and ps_setLc -/
structure LcOk (T : Tab) (sc st : Scope) (X : Cx) (C : Ctx) (ev : Mini.Ev) (elt : E) (tg : Mini.T) (it : Mini.It) (vs : List Nat) (ifs : List E) (elt' tg' it' : Expr) (ifs' : List Expr) (scope : Scope) : Prop where
  pi : PI X tg' it' (tI (Mini.itOwn it) C fun ρ s => Mini.evI ev ρ it s)
  ok : BlkOk X.N X.env.scope scope (ownOf T.N vs)
  pg : ∀ (s : Shared) (H : Hp) (Ca : Addr) (cl : List (Str × Addr)) (fp : List Addr), PG (X.blk s H scope (compEnvC scope cl Ca X.env) fp) tg' (gT C 9 tg)
  pt : ∀ (s : Shared) (H : Hp) (Ca : Addr) (cl : List (Str × Addr)) (fp : List Addr), PTs (X.blk s H scope (compEnvC scope cl Ca X.env) fp) ifs' (tB C fun ρ s => Mini.testsL ev ρ ifs s)
  pe : ∀ (s : Shared) (H : Hp) (Ca : Addr) (cl : List (Str × Addr)) (fp : List Addr), PE (X.blk s H scope (compEnvC scope cl Ca X.env) fp) elt' (tE C fun ρ s => ev ρ elt s)
  fold : ∀ x, foldedSetIterable it' X.env x = pure x
  ix : ∀ j, j ∈ idxT tg → j ∈ vs
  si : ∀ j p c, C.sa = some (j, p, c) → j ∉ vs
theorem lcOk (kc : COk T C) {ev : Mini.Ev} {rec : RecS} (ih : ∀ (X : Cx) (sc st : Scope) (e : E) (x : Expr), XOk R T Fs Gs sc st X → rec sc st e x = true → So X C ev e x) (kx : XOk R T Fs Gs sc st X)
    {elt : E} {tg : Mini.T} {it : Mini.It} {vs : List Nat} {ifs : List E} {elt' tg' it' : Expr} {ifs' : List Expr} {scope : Scope}
    (h : (blkC T.N sc scope (ownOf T.N vs) && mI T sc (rec sc st) it tg' it' && mTg T scope 9 tg tg' && notSet it' && decide (T.si ∉ vs) && (idxT tg).all (fun j => decide (j ∈ vs)) &&
      mTs (rec (relS scope sc) scope) ifs ifs' && rec (relS scope sc) scope elt elt') = true) : LcOk T sc st X C ev elt tg it vs ifs elt' tg' it' ifs' scope := by
  simp only [Bool.and_eq_true, decide_eq_true_eq, List.all_eq_true] at h
  obtain ⟨⟨⟨⟨⟨⟨⟨h1, h2⟩, h3⟩, h4⟩, h5⟩, h6⟩, h7⟩, h8⟩ := h
  refine ⟨mI_pi kx (fun e x he => (ih X sc st e x kx he).pe) h2, blkOk_by (by rw [kx.nN, kx.scp]; exact h1), fun s H Ca cl fp => mTg_pg (kx.blk s H Ca cl fp) kc 9 tg tg' h3,
    fun s H Ca cl fp => mTs_pt (fun e x he => (ih _ _ _ e x (kx.blk s H Ca cl fp) he).pt) h7, fun s H Ca cl fp => (ih _ _ _ elt elt' (kx.blk s H Ca cl fp) h8).pe, fold_pure h4, h6, fun j p c e z => h5 ?_⟩
  rw [← kc.si j p c e]; exact z
theorem srcX_of {key : Str} {x : Expr} (h : srcX T sc key x = true) : ∃ o i p q, x = .Subscript o (.Constant (.str key) i p) q ∧ nm T sc T.si o = true := by
  unfold srcX at h
  split at h
  · rw [Bool.and_eq_true, decide_eq_true_eq] at h
    obtain ⟨h1, rfl⟩ := h
    exact ⟨_, _, _, _, rfl, h1⟩
  · cases h
/-- source['key'], as a value of the heap -/
def tSrcV (C : Ctx) (key : Str) : TE := fun σ H Q => ∃ A ρ S p c, FR C A ρ (some S) σ H ∧ C.sa = some (T.si, p, c) ∧ ∃ v, valV (srcK c S) (Sum.inr key) = some v ∧ Q v H
theorem srcV_pe (kx : XOk R T Fs Gs sc st X) {key : Str} {x : Expr} (h : srcX T sc key x = true) : PE X x (tSrcV (T := T) C key) := by
  obtain ⟨o, i, p, q, rfl, hn⟩ := srcX_of h
  refine pe_imp (pe_ix (ix_dict (by have := kx.room1.un; omega)) (nm_pe kx hn) pe_str (plainIx rfl)) fun σ H Q ⟨A, ρ, S, p, c, F, hs, v, hv, q⟩ => ?_
  obtain ⟨S', e, h1, h2, h3, h4⟩ := F.srcS hs
  cases e
  exact ⟨.ref p, h1, p, v, rfl, by rw [← hv]; exact DGet.k (k := Sum.inr key) h3, q⟩
theorem srcK_get (c : Addr) (S : Mini.Src) (k : Nat) : valV (srcK c S) (Sum.inr (srcKey k)) = some (.int (S.get k)) := by
  match k with
  | 0 => rfl
  | 1 => rfl
  | _ + 2 => rfl
theorem srcK_cells (c : Addr) (S : Mini.Src) : valV (srcK c S) (Sum.inr ("cells" : Str)) = some (.ref c) := rfl
theorem so_step (kc : COk T C) {ev : Mini.Ev} {rec : RecS} (ih : ∀ (X : Cx) (sc st : Scope) (e : E) (x : Expr), XOk R T Fs Gs sc st X → rec sc st e x = true → So X C ev e x) (kx : XOk R T Fs Gs sc st X) {e : E} {x : Expr} (h : mStep T rec sc st e x = true) :
    So X C (Mini.step Fs Gs ev) e x := by
  have ihE : ∀ e x, rec sc st e x = true → PE X x (tE C fun ρ s => ev ρ e s) := fun e x he => (ih X sc st e x kx he).pe
  have ihA : ∀ {e x}, mA T sc (rec sc st) e x = true → PE X x (tA C fun ρ s => Mini.evA ev ρ e s) := fun {e x} he => tAW_A (mA_pe kx ihE he)
  cases e with
  | non =>
    cases x with
    | Constant c j p =>
      cases c with
      | none => exact so_e (rd_const pe_non fun _ _ => .non) rfl rfl
      | _ => cases h
    | _ => cases h
  | bl b =>
    cases x with
    | Constant c j p =>
      cases c with
      | bool c =>
        have : c = b := by simpa [mStep, isBl] using h
        subst this
        exact so_e (rd_const pe_bl fun _ _ => .bl _) rfl rfl
      | _ => cases h
    | _ => cases h
  | int i =>
    cases x with
    | Constant c j p =>
      cases c with
      | int c =>
        have : c = i := by simpa [mStep, isInt] using h
        subst this
        exact so_e (rd_const pe_int fun _ _ => .int _) rfl rfl
      | _ => cases h
    | _ => cases h
  | str z =>
    cases x with
    | Constant c j p =>
      cases c with
      | str c =>
        have : c = Str.ofString z := by simpa [mStep, isStr] using h
        subst this
        exact so_e (rd_const pe_str fun _ _ => .str _) rfl rfl
      | _ => cases h
    | _ => cases h
  | var i =>
    have hp : plainT x = true := by
      have h : nm T sc i x = true := h
      unfold nm at h
      split at h
      · rfl
      · cases h
    exact so_e (rd_var (nm_pe kx h)) hp rfl
  | own i => cases h
  | bin o a b =>
    have h : binX _ _ _ x = true := h
    unfold binX at h
    split at h
    · simp only [Bool.and_eq_true, decide_eq_true_eq] at h
      obtain ⟨⟨rfl, h1⟩, h2⟩ := h
      exact so_n (pe_imp (pe_op (opr_ex fun O => op_bin o) (ihA h1) (ihA h2)) fun σ H Q h => rd2 h) rfl
    · cases h
  | neg a =>
    have h : unX _ x = true := h
    unfold unX at h
    split at h
    · refine so_e (pe_imp (pe_un un_neg (ihE _ _ h)) fun σ H Q ⟨A, ρ, s, d, s', F, e, q⟩ => ?_) rfl rfl
      obtain ⟨v, s1, e1, e⟩ := bindS_some (show Mini.bindS (ev ρ a s) (fun x s => match x with | .int i => some (Mini.D.int (-i), s) | _ => none) = some (d, s') from e)
      cases v with
      | int i =>
        cases e
        exact ⟨A, ρ, s, _, _, F, e1, fun v H1 F1 k1 r1 => ⟨i, r1.intI, q _ H1 F1 k1 (.int _)⟩⟩
      | _ => cases e
    · cases h
  | not a =>
    have h : notX _ x = true := h
    unfold notX at h
    split at h
    · exact so_not (ih X sc st _ _ kx h) rfl fun ρ s => rfl
    · cases h
  | and a b =>
    obtain ⟨xa, xb, r, p, rfl, h1, h2⟩ := boolOf_and h
    refine so_and (b := b) (ih X sc st _ _ kx h1) ?_ rfl fun ρ s => rfl
    rcases h2 with ⟨rfl, h2⟩ | ⟨_, h2⟩
    · have := ih X sc st _ _ kx h2
      exact ⟨pe_one this.pe, pw_and1 this.pt⟩
    · have := ih X sc st _ _ kx h2
      exact ⟨this.pe, pw_of this.pt⟩
  | or a b =>
    obtain ⟨xa, xb, r, p, rfl, h1, h2⟩ := boolOf_or h
    refine so_or (b := b) (ih X sc st _ _ kx h1) ?_ rfl fun ρ s => rfl
    rcases h2 with ⟨rfl, h2⟩ | ⟨_, h2⟩
    · have := ih X sc st _ _ kx h2
      exact ⟨pe_one this.pe, pw_or1 this.pt⟩
    · have := ih X sc st _ _ kx h2
      exact ⟨this.pe, pw_of this.pt⟩
  | cmp o a b =>
    obtain ⟨l, r, p, rfl, h1, h2, hm⟩ := cmpX_of h
    exact so_cmp kx (ihA h1) (ihA h2) hm rfl fun ρ s => rfl
  | cmp2 o o2 a b c =>
    obtain ⟨l, r, r2, p, rfl, h1, h2, h3, hm⟩ := cmp2X_of h
    exact so_cmp2 kx (ihA h1) (ihA h2) (ihA h3) hm rfl fun ρ s => rfl
  | ite c a b =>
    have h : iteX _ _ _ x = true := h
    unfold iteX at h
    split at h
    · simp only [Bool.and_eq_true] at h
      exact so_ite (ih X sc st _ _ kx h.1.1) (ih X sc st _ _ kx h.1.2) (ih X sc st _ _ kx h.2) rfl fun ρ s => rfl
    · cases h
  | tup es =>
    obtain ⟨xs, k, pos, rfl, h⟩ := tupX_of (show tupX _ x = true from h)
    refine so_e (pe_imp (pe_tup (mL_rp ihE h)) fun σ H Q ⟨A, ρ, s, d, s', F, e, q⟩ => ?_) rfl rfl
    obtain ⟨ds, s1, e1, e⟩ := bindS_some (show Mini.bindS (Mini.evL (ev ρ) es s) (fun xs s => if xs.length ≤ Mini.LIM then some (Mini.D.tup xs, s) else none) = some (d, s') from e)
    split at e
    · rename_i hl
      cases e
      exact ⟨A, ρ, s, _, _, F, e1, fun vs H1 F1 k1 r1 => ⟨by rw [r1.length]; exact lim_line hl, fun p hp => q _ _ (F1.same (same_upd hp)) (k1.trans (.of (same_upd hp))) (rp_tup (fun a ha => F1.trk ha) hp r1)⟩⟩
    · cases e
  | lst es =>
    have h : lstX _ x = true := h
    unfold lstX at h
    split at h
    · refine so_n (pe_imp (pe_lst (mL_rp ihE h)) fun σ H Q ⟨A, ρ, s, d, s', F, e, q⟩ => ?_) rfl
      obtain ⟨ds, s1, e1, e⟩ := bindS_some (show Mini.bindS (Mini.evL (ev ρ) es s) (fun xs s => if xs.length ≤ Mini.LIM then some (Mini.D.lst xs, s) else none) = some (d, s') from e)
      split at e
      · rename_i hl
        cases e
        exact ⟨A, ρ, s, _, _, F, e1, fun vs H1 F1 k1 r1 => ⟨by rw [r1.length]; exact lim_line hl, fun p hp => q _ _ (F1.same (same_upd hp)) (k1.trans (.of (same_upd hp))) ((nw_lst hp r1).back fun p hp => F1.back k1 hp)⟩⟩
      · cases e
    · cases h
  | rng tu lo hi =>
    have h : rngX sc (rec sc st) tu lo hi x = true := h
    exact so_n (rng_pe kx ihE h).1 (rng_pe kx ihE h).2
  | dic0 =>
    have hx : ∃ p, x = .Dict [] [] p := by
      have h : dict0X x = true := h
      unfold dict0X at h
      split at h
      · exact ⟨_, rfl⟩
      · cases h
    obtain ⟨p, rfl⟩ := hx
    refine so_n (pe_imp pe_dnewK fun σ H Q ⟨A, ρ, s, d, s', F, e, q⟩ => ?_) rfl
    cases e
    intro p hp
    exact q _ _ (F.same (same_upd hp)) (.of (same_upd hp)) (nw_dic hp .nil)
  | dicPut a k v => cases h
  | idx a i =>
    have h : idxX _ _ x = true := h
    unfold idxX at h
    split at h
    · simp only [Bool.and_eq_true] at h
      exact so_e (pe_imp (pe_ix (ixr_ex fun O => ix_data kx.room1) (ihA h.1.1) (tE_A (ihE _ _ h.1.2)) (plainIx h.2)) fun σ H Q h => rd2E h) rfl rfl
    · cases h
  | slice a lo hi =>
    have h : sliceX _ _ _ x = true := h
    unfold sliceX at h
    split at h
    · simp only [Bool.and_eq_true] at h
      exact so_n (pe_imp (pe_slice (slr_ex fun O => sl_data) (ihA h.1.1) (opt_po ihE h.1.2) (opt_po ihE h.2)) fun σ H Q h => sl_read h) rfl
    · cases h
  | rev a =>
    have h : revX _ x = true := h
    unfold revX at h
    split at h
    · refine so_n (pe_imp (pe_or2 (pe_revL (ihA h)) (pe_revT (ihA h))) fun σ H Q ⟨A, ρ, s, d, s', F, e, q⟩ => ?_) rfl
      obtain ⟨v, s1, e1, e⟩ := bindS_some (show Mini.bindS (Mini.evA ev ρ a s) (fun x s => Mini.retO (Mini.revD x) s) = some (d, s') from e)
      obtain ⟨e2, rfl⟩ := retO_some e
      cases v with
      | lst l =>
        cases e2
        refine .inl ⟨A, ρ, s, _, _, F, e1, fun v H1 F1 k1 b1 => ?_⟩
        obtain ⟨a, vs, rfl, ha, rl⟩ := b1.1.lstI
        exact ⟨a, vs, rfl, .of ha, fun p hp => q _ _ (F1.same (same_upd hp)) (k1.trans (.of (same_upd hp))) ((nw_lst hp rl.reverse).back fun p hp => F1.back k1 hp)⟩
      | tup l =>
        cases e2
        refine .inr ⟨A, ρ, s, _, _, F, e1, fun v H1 F1 k1 b1 => ?_⟩
        obtain ⟨a, vs, rfl, _, ha, rl⟩ := b1.1.tupI
        exact ⟨a, vs, rfl, .of ha, fun p hp => q _ _ (F1.same (same_upd hp)) (k1.trans (.of (same_upd hp))) (rp_tup (fun a ha => F1.trk ha) hp rl.reverse)⟩
      | _ => cases e2
    · cases h
  | comp elt tg it vs ifs =>
    obtain ⟨elt', tg', it', ifs', scope, p, rfl, h⟩ := compX_of h
    have lk := lcOk kc ih kx h
    refine so_n (pe_imp (pe_lc kx.calm kx.nd lk.pi lk.ok lk.pg lk.pt lk.pe lk.fold) fun σ H Q h => ?_) rfl
    rw [own_ix]
    exact comp_read lk.ix lk.si h
  | f1 f a =>
    cases hy : f1S f with
    | none => simp [mStep, hy] at h
    | some y =>
      have h : call1 sc y (mA T sc (rec sc st) a) x = true := by simpa [mStep, hy] using h
      obtain ⟨p, hp⟩ := so_f1 kx ihE hy h
      exact so_n p hp
  | f2 f a b =>
    cases f with
    | max =>
      obtain ⟨p, z, u, pos, rfl, hg, ns, nu, h1, h2⟩ := call2_of (show call2 sc "max" _ _ x = true from h)
      exact so_n (c2_pe kx (fun O => f2_max kx.calm) hg (by decide) boot_max (by decide) (by decide) (ihA h1) (ihA h2) ns nu) rfl
    | min =>
      obtain ⟨p, z, u, pos, rfl, hg, ns, nu, h1, h2⟩ := call2_of (show call2 sc "min" _ _ x = true from h)
      exact so_n (c2_pe kx (fun O => f2_min kx.calm) hg (by decide) boot_min (by decide) (by decide) (ihA h1) (ihA h2) ns nu) rfl
    | index =>
      obtain ⟨o, ap, z, cp, rfl, h1, h2, ns, hl, hb⟩ := mth_of (show methX "index" _ _ x = true from h)
      have e : Mini.f2D .index = fun d e => match d with
        | .lst xs => if Mini.flat e && xs.all Mini.flat then (Mini.indexL e xs).map fun (k : Nat) => .int (k : Int) else none
        | _ => none := by funext d e; cases d <;> rfl
      have m : ∀ O, MtR X "list.index" (rM1 O (Mini.f2D .index)) := fun O => by rw [e]; exact m_index
      refine so_n (pe_imp (pe_bm PySem.F.plainAttrs_list PySem.F.slot_list_index PySem.F.type_list_index (mtr_ex m) (ihA h1) (pa_cons (ihA h2) pa_nil (star_cons ns)) (hb _) (few1 ns) hl (star_cons ns) rfl) fun σ H Q h => rm1 (fun x y hx => ?_) h) rfl
      cases x <;> first | rfl | exact absurd rfl (hx _)
    | count =>
      obtain ⟨o, ap, z, cp, rfl, h1, h2, ns, hl, hb⟩ := mth_of (show methX "count" _ _ x = true from h)
      refine so_n (pe_imp (pe_bm PySem.F.plainAttrs_list PySem.F.slot_list_count PySem.F.type_list_count (mtr_ex fun O => m_count) (ihA h1) (pa_cons (ihA h2) pa_nil (star_cons ns)) (hb _) (few1 ns) hl (star_cons ns) rfl) fun σ H Q h => rm1 (fun x y hx => ?_) h) rfl
      cases x <;> first | rfl | exact absurd rfl (hx _)
  | isi a t =>
    obtain ⟨p, z, u, pos, rfl, hg, ns, nu, h1, h2⟩ := call2_of (show call2 sc "isinstance" _ _ x = true from h)
    obtain ⟨⟨pu, rfl⟩, hg2⟩ := bn_of h2
    have pt : PE X (.Name (tyN t) pu) (tC (.ty (tyS t))) := by
      cases t
      · exact pe_bltn (kx.gl hg2) (kx.good.blt _ (by decide)) boot_int rfl (by decide) (by decide)
      · exact pe_bltn (kx.gl hg2) (kx.good.blt _ (by decide)) boot_bool rfl (by decide) (by decide)
      · exact pe_bltn (kx.gl hg2) (kx.good.blt _ (by decide)) boot_str rfl (by decide) (by decide)
      · exact pe_bltn (kx.gl hg2) (kx.good.blt _ (by decide)) boot_tuple rfl (by decide) (by decide)
      · exact pe_bltn (kx.gl hg2) (kx.good.blt _ (by decide)) boot_list rfl (by decide) (by decide)
    refine so_e (pe_imp (pe_callB (callr_ex fun O => call_isD (O := O) t) (kx.gl hg) (kx.good.blt _ (by decide)) boot_isinstance (pa_cons (ihA h1) (pa_cons pt pa_nil (star_cons nu)) (star_cons ns)) (by decide) (by decide) (star_cons ns) (star_none (by rw [List.all_cons, nu]; rfl))) fun σ H Q ⟨A, ρ, s, d, s', F, e, q⟩ => ?_) rfl rfl
    obtain ⟨v, s1, e1, e⟩ := bindS_some (show Mini.bindS (Mini.evA ev ρ a s) (fun x s => Mini.retO ((Mini.isTy t x).map Mini.D.bl) s) = some (d, s') from e)
    obtain ⟨e2, rfl⟩ := retO_some e
    obtain ⟨b, e3, rfl⟩ := Option.map_eq_some_iff.mp e2
    exact ⟨A, ρ, s, v, s1, F, e1, fun w H1 F1 k1 b1 => ⟨OA C A, w, v, b, rfl, b1.1, e3, q _ H1 F1 k1 (.bl _)⟩⟩
  | call k es =>
    have hp : plainT x = true := by
      have h : mC T sc (rec sc st) k es x = true := h
      unfold mC at h
      split at h
      · rfl
      · cases h
    exact so_e (mC_pe kx ihE h) hp rfl
  | callS k es =>
    have hp : plainT x = true := by
      have h : mCS T sc (rec sc st) k es x = true := h
      unfold mCS at h
      split at h
      · rfl
      · cases h
    exact so_e (mCS_pe kx kc ihE h) hp rfl
  | srcI k =>
    have h : (decide (T.gN ≠ []) && srcX T sc (srcKey k) x) = true := h
    rw [Bool.and_eq_true, decide_eq_true_eq] at h
    obtain ⟨p, c, hs⟩ := kc.has h.1
    have hp : plainT x = true := by obtain ⟨_, _, _, _, rfl, _⟩ := srcX_of h.2; rfl
    refine so_e (pe_imp (srcV_pe (C := C) kx h.2) fun σ H Q ⟨A, ρ, s, d, s', F, e, q⟩ => ?_) hp rfl
    obtain ⟨S, rfl, _, _⟩ := F.srcS hs
    have e : some (Mini.D.int (S.get k), some S) = some (d, s') := e
    cases e
    exact ⟨A, ρ, S, p, c, F, hs, _, srcK_get c S k, q _ H F .refl (.int _)⟩
  | srcN =>
    have h : (decide (T.gN ≠ []) && call1 sc "len" (srcX T sc "cells") x) = true := h
    rw [Bool.and_eq_true, decide_eq_true_eq] at h
    obtain ⟨p, c, hs⟩ := kc.has h.1
    obtain ⟨p2, z, pos, rfl, hg, ns, hx⟩ := call1_of h.2
    refine so_e (pe_imp (pe_callB call_len_seq (kx.gl hg) (kx.good.blt _ (by decide)) boot_len (pa_cons (srcV_pe (C := C) kx hx) pa_nil (star_cons ns)) (by decide) (by decide) (star_cons ns) rfl) fun σ H Q ⟨A, ρ, s, d, s', F, e, q⟩ => ?_) rfl rfl
    obtain ⟨S, rfl, _, _, _, hc⟩ := F.srcS hs
    have e : some (Mini.D.int (S.cells.length : Int), some S) = some (d, s') := e
    cases e
    refine ⟨A, ρ, S, p, c, F, hs, _, srcK_cells c S, c, _, rfl, .inl (.of hc), ?_⟩
    rw [List.length_map]
    exact q _ H F .refl (.int _)
theorem mE_so (kc : COk T C) : ∀ (n : Nat) (X : Cx) (sc st : Scope) (e : E) (x : Expr), XOk R T Fs Gs sc st X → mE T n sc st e x = true → So X C (Mini.ev Fs Gs n) e x
  | 0, _, _, _, _, _, _, h => by cases h
  | n + 1, X, sc, st, e, x, kx, h => so_step kc (fun X sc st e x kx h => mE_so kc n X sc st e x kx h) kx h
end
end Snd

/-! ## SndR -/
set_option Elab.async false
set_option linter.all false
set_option maxRecDepth 100000
set_option maxHeartbeats 4000000
/-! SndR: frames that statements change. -/
namespace Snd
open PySem PySem.Spec L2
open PyProof.Rows hiding St
open Mini (E T It Slot)
section
variable {C : Ctx} {A B A' : Ow} {ρ : Mini.Env} {s s' : Mini.S} {σ : St} {H H' H1 : Hp}
/-- something new has come, at no slot -/
theorem FR.grow (F : FR C A ρ s σ H) (k : Kp C H H') (hs : SrcR C σ s' H') {j : Nat} {p : Addr} {o : HO} (hj : A j = none) (hp : H p = none) (hp' : H' p = some o) (ho : ∀ vs, o ≠ .tup vs) : FR C (addO A j p) ρ s' σ H' where
  len := F.len
  slot := fun i x e => by
    obtain ⟨v, h1, h2⟩ := F.slot i x e
    refine ⟨v, h1, ?_⟩
    have m : Mo H H' (OA C A) (OA C (addO A j p)) := ⟨fun b u e n => k b u e fun z => n (.inr (.inl z)), fun b u e z => (oa_add hj).mp z |>.elim id fun z => by rw [z, hp] at e; cases e⟩
    cases x with
    | val d => exact Rp.mo m _ _ h2
    | own ds =>
      obtain ⟨a, vs, ha, e1, e2, r⟩ := h2
      refine ⟨a, vs, ?_, e1, k _ _ e2 (F.own i a ha).2.1, RpL.mo m _ _ r⟩
      unfold addO; rw [if_neg (fun z => by rw [z, hj] at ha; cases ha)]; exact ha
    | ownd ds =>
      obtain ⟨a, vs, ha, e1, e2, r⟩ := h2
      refine ⟨a, vs, ?_, e1, k _ _ e2 (F.own i a ha).2.1, RpK.mo m _ _ r⟩
      unfold addO; rw [if_neg (fun z => by rw [z, hj] at ha; cases ha)]; exact ha
  inj := fun i i' a e1 e2 => by
    have np : ∀ i, A i ≠ some p := fun i z => by
      obtain ⟨_, _, o, h, _⟩ := F.own i p z
      rw [hp] at h; cases h
    unfold addO at e1 e2
    split at e1 <;> split at e2
    · rename_i h1 h2; rw [h1, h2]
    · cases e1; exact absurd e2 (np i')
    · cases e2; exact absurd e1 (np i)
    · exact F.inj i i' a e1 e2
  own := fun i a e => by
    unfold addO at e
    split at e
    · cases e
      exact ⟨(F.h0 hp).1, (F.h0 hp).2, o, hp', ho⟩
    · obtain ⟨h1, h2, u, h3, h4⟩ := F.own i a e
      exact ⟨h1, h2, u, k _ _ h3 h2, h4⟩
  keep := F.keep.trans k
  src := hs
  fin := by
    obtain ⟨m, hm⟩ := F.fin
    refine ⟨max m (j + 1), fun i hi => ?_⟩
    unfold addO
    rw [if_neg (by omega)]
    exact hm i (by omega)
/-- it comes to a slot -/
def mvO (A : Ow) (k i : Nat) (p : Addr) : Ow := fun j => if j = i then some p else if j = k then none else A j
theorem mv_oa {k i : Nat} {p a : Addr} (hk : A k = some p) (h : OA C (mvO A k i p) a) : OA C A a := by
  rcases h with h | h | ⟨j, h⟩
  · exact .inl h
  · exact .inr (.inl h)
  · unfold mvO at h
    split at h
    · cases h; exact .inr (.inr ⟨k, hk⟩)
    · split at h
      · cases h
      · exact .inr (.inr ⟨j, h⟩)
theorem FR.move (F : FR C A ρ s σ H) {k i : Nat} {p : Addr} {x : Slot} (hk : A k = some p) (hn : ρ.length ≤ k) (hi : i < ρ.length) (n : ∀ j p c, C.sa = some (j, p, c) → j ≠ i)
    (hx : (∃ vs ds, x = .own ds ∧ H p = some (.lst vs) ∧ RpL H (OA C A) vs ds) ∨ ∃ kvs ds, x = .ownd ds ∧ H p = some (.dK kvs) ∧ RpK H (OA C A) kvs ds) : FR C (mvO A k i p) (ρ.set i (some x)) s (σ.set i (some (.ref p))) H where
  len := by rw [List.length_set, List.length_set]; exact F.len
  slot := fun j y e => by
    have m : Mo H H (OA C A) (OA C (mvO A k i p)) := mo_less fun a => mv_oa hk
    by_cases hj : i = j
    · subst hj
      rw [List.getElem?_set_self hi] at e
      cases e
      refine ⟨.ref p, List.getElem?_set_self (by rw [← F.len]; exact hi), ?_⟩
      rcases hx with ⟨vs, ds, rfl, h1, h2⟩ | ⟨vs, ds, rfl, h1, h2⟩
      · exact ⟨p, vs, by unfold mvO; rw [if_pos rfl], rfl, h1, RpL.mo m _ _ h2⟩
      · exact ⟨p, vs, by unfold mvO; rw [if_pos rfl], rfl, h1, RpK.mo m _ _ h2⟩
    · rw [List.getElem?_set_ne hj] at e
      rw [List.getElem?_set_ne hj]
      obtain ⟨v, h1, h2⟩ := F.slot j y e
      have hjl : j < ρ.length := by
        rcases Nat.lt_or_ge j ρ.length with z | z
        · exact z
        · rw [List.getElem?_eq_none z] at e; cases e
      refine ⟨v, h1, ?_⟩
      cases y with
      | val d => exact Rp.mo m _ _ h2
      | own ds =>
        obtain ⟨a, vs, ha, e1, e2, r⟩ := h2
        exact ⟨a, vs, by unfold mvO; rw [if_neg (Ne.symm hj), if_neg (by omega)]; exact ha, e1, e2, RpL.mo m _ _ r⟩
      | ownd ds =>
        obtain ⟨a, vs, ha, e1, e2, r⟩ := h2
        exact ⟨a, vs, by unfold mvO; rw [if_neg (Ne.symm hj), if_neg (by omega)]; exact ha, e1, e2, RpK.mo m _ _ r⟩
  inj := fun j j' a e1 e2 => by
    unfold mvO at e1 e2
    split at e1 <;> split at e2
    · rename_i h1 h2; rw [h1, h2]
    · split at e2
      · cases e2
      · cases e1
        rename_i h2 h3
        exact absurd (F.inj j' k p e2 hk) h3
    · split at e1
      · cases e1
      · cases e2
        rename_i h2 h3 h4
        first | exact absurd (F.inj j k p e1 hk) h4 | exact absurd (F.inj j k p e1 hk) h3 | exact absurd (F.inj j k p e1 hk) h2
    · split at e1
      · cases e1
      · split at e2
        · cases e2
        · exact F.inj j j' a e1 e2
  own := fun j a e => by
    unfold mvO at e
    split at e
    · cases e; exact F.own k p hk
    · split at e
      · cases e
      · exact F.own j a e
  keep := F.keep
  src := F.src.set n
  fin := by
    obtain ⟨m, hm⟩ := F.fin
    refine ⟨max m (i + 1), fun j hj => ?_⟩
    unfold mvO
    rw [if_neg (by omega)]
    split
    · rfl
    · exact hm j (by omega)
/-- one's own object is written, at its slot -/
theorem FR.wr (F : FR C A ρ s σ H) {i : Nat} {p : Addr} {o : HO} {x y : Slot} (hi : A i = some p) (e0 : ρ[i]? = some (some y)) (h0 : σ[i]? = some (some (.ref p)))
    (hx : (∃ vs ds, x = .own ds ∧ o = .lst vs ∧ RpL H (OA C A) vs ds) ∨ ∃ kvs ds, x = .ownd ds ∧ o = .dK kvs ∧ RpK H (OA C A) kvs ds) : FR C A (ρ.set i (some x)) s σ (upd H p o) where
  len := by rw [List.length_set]; exact F.len
  slot := fun j z e => by
    have m := mo_own (C := C) (H := H) (o := o) hi
    have hil : i < ρ.length := (List.getElem?_eq_some_iff.mp e0).1
    by_cases hj : i = j
    · subst hj
      rw [List.getElem?_set_self hil] at e
      cases e
      refine ⟨.ref p, h0, ?_⟩
      rcases hx with ⟨vs, ds, rfl, rfl, h2⟩ | ⟨vs, ds, rfl, rfl, h2⟩
      · exact ⟨p, vs, hi, rfl, upd_same, RpL.mo m _ _ h2⟩
      · exact ⟨p, vs, hi, rfl, upd_same, RpK.mo m _ _ h2⟩
    · rw [List.getElem?_set_ne hj] at e
      obtain ⟨v, h1, h2⟩ := F.slot j z e
      refine ⟨v, h1, ?_⟩
      have ne : ∀ a, A j = some a → a ≠ p := fun a ha z => hj (F.inj i j p hi (by rw [← z]; exact ha))
      cases z with
      | val d => exact Rp.mo m _ _ h2
      | own ds =>
        obtain ⟨a, vs, ha, e1, e2, r⟩ := h2
        exact ⟨a, vs, ha, e1, by rw [upd_ne (ne a ha)]; exact e2, RpL.mo m _ _ r⟩
      | ownd ds =>
        obtain ⟨a, vs, ha, e1, e2, r⟩ := h2
        exact ⟨a, vs, ha, e1, by rw [upd_ne (ne a ha)]; exact e2, RpK.mo m _ _ r⟩
  inj := F.inj
  own := fun j a e => by
    obtain ⟨h1, h2, u, h3, h4⟩ := F.own j a e
    by_cases ha : a = p
    · refine ⟨h1, h2, o, by rw [ha]; exact upd_same, fun vs z => ?_⟩
      rcases hx with ⟨_, _, _, hx, _⟩ | ⟨_, _, _, hx, _⟩ <;> rw [hx] at z <;> cases z
    · exact ⟨h1, h2, u, by rw [upd_ne ha]; exact h3, h4⟩
  keep := fun b u e n => by
    have h0 := (F.own i p hi).1
    rw [upd_ne (fun z => by rw [z, h0] at e; cases e)]
    exact F.keep b u e n
  src := by
    have z := F.src
    have ns := (F.own i p hi).2.1
    unfold SrcR at z ⊢
    split at z
    · rename_i j q c S e1
      obtain ⟨z1, z2, z3, z4⟩ := z
      refine ⟨z1, z2, ?_, ?_⟩
      · rw [upd_ne (fun z => ns ⟨j, q, c, e1, .inl z.symm⟩)]; exact z3
      · rw [upd_ne (fun z => ns ⟨j, q, c, e1, .inr z.symm⟩)]; exact z4
    · trivial
    · exact z.elim
  fin := F.fin
theorem FR.notO0 (F : FR C A ρ s σ H) {i : Nat} {a : Addr} (h : A i = some a) : ¬ C.O0 a := fun z => by
  obtain ⟨o, e, _⟩ := C.trk a z
  rw [(F.own i a h).1] at e
  cases e
/-- from here on a value -/
theorem FR.frz (F : FR C A ρ s σ H) {i : Nat} {x : Slot} (e0 : ρ[i]? = some (some x)) : FR C (fun j => if j = i then none else A j) (ρ.set i (some (Mini.freezeS x))) s σ H := by
  have less : ∀ a, OA C (fun j => if j = i then none else A j) a → OA C A a := fun a h => by
    rcases h with h | h | ⟨j, h⟩
    · exact .inl h
    · exact .inr (.inl h)
    · by_cases hj : j = i
      · simp [hj] at h
      · simp only [hj, if_false] at h; exact .inr (.inr ⟨j, h⟩)
  have m : Mo H H (OA C A) (OA C (fun j => if j = i then none else A j)) := mo_less less
  refine ⟨by rw [List.length_set]; exact F.len, fun j y e => ?_, fun j j' a e1 e2 => ?_, fun j a e => ?_, F.keep, F.src, ?_⟩
  · have hil : i < ρ.length := (List.getElem?_eq_some_iff.mp e0).1
    by_cases hj : i = j
    · subst hj
      rw [List.getElem?_set_self hil] at e
      cases e
      obtain ⟨v, h1, h2⟩ := F.slot _ _ e0
      refine ⟨v, h1, ?_⟩
      cases x with
      | val d => exact Rp.mo m _ _ h2
      | own ds =>
        obtain ⟨a, vs, ha, rfl, e2, r⟩ := h2
        refine Rp.lst (fun z => ?_) e2 (RpL.mo m _ _ r)
        rcases z with z | z | ⟨j, z⟩
        · exact F.notO0 ha z
        · exact (F.own _ _ ha).2.1 z
        · by_cases hj : j = i
          · simp [hj] at z
          · simp only [hj, if_false] at z; exact hj (F.inj _ _ _ z ha)
      | ownd ds =>
        obtain ⟨a, vs, ha, rfl, e2, r⟩ := h2
        refine Rp.dic (fun z => ?_) (.inl e2) (RpK.mo m _ _ r)
        rcases z with z | z | ⟨j, z⟩
        · exact F.notO0 ha z
        · exact (F.own _ _ ha).2.1 z
        · by_cases hj : j = i
          · simp [hj] at z
          · simp only [hj, if_false] at z; exact hj (F.inj _ _ _ z ha)
    · rw [List.getElem?_set_ne hj] at e
      obtain ⟨v, h1, h2⟩ := F.slot j y e
      refine ⟨v, h1, ?_⟩
      cases y with
      | val d => exact Rp.mo m _ _ h2
      | own ds =>
        obtain ⟨a, vs, ha, e1, e2, r⟩ := h2
        exact ⟨a, vs, (if_neg (Ne.symm hj)).trans ha, e1, e2, RpL.mo m _ _ r⟩
      | ownd ds =>
        obtain ⟨a, vs, ha, e1, e2, r⟩ := h2
        exact ⟨a, vs, (if_neg (Ne.symm hj)).trans ha, e1, e2, RpK.mo m _ _ r⟩
  · by_cases hj : j = i
    · simp [hj] at e1
    · by_cases hj' : j' = i
      · simp [hj'] at e2
      · simp only [hj, hj', if_false] at e1 e2
        exact F.inj _ _ _ e1 e2
  · by_cases hj : j = i
    · simp [hj] at e
    · simp only [hj, if_false] at e
      exact F.own _ _ e
  · obtain ⟨m, hm⟩ := F.fin
    refine ⟨m, fun j hj => ?_⟩
    show (if j = i then none else A j) = none
    split
    · rfl
    · exact hm j hj
theorem FR.frzAll (F : FR C A ρ s σ H) : FR C (fun _ => none) (Mini.freezeAll ρ) s σ H := by
  have less : ∀ a, OA C (fun _ => none) a → OA C A a := fun a h => by
    rcases h with h | h | ⟨j, h⟩
    · exact .inl h
    · exact .inr (.inl h)
    · cases h
  have m : Mo H H (OA C A) (OA C (fun _ => none)) := mo_less less
  refine ⟨by unfold Mini.freezeAll; rw [List.length_map]; exact F.len, fun j y e => ?_, fun j j' a e1 e2 => (by cases e1), fun j a e => (by cases e), F.keep, F.src, ⟨0, fun _ _ => rfl⟩⟩
  unfold Mini.freezeAll at e
  rw [List.getElem?_map, Option.map_eq_some_iff] at e
  obtain ⟨z, e, ez⟩ := e
  cases z with
  | none => cases ez
  | some x =>
    cases ez
    obtain ⟨v, h1, h2⟩ := F.slot j x e
    refine ⟨v, h1, ?_⟩
    have no : ∀ {a : Addr}, A j = some a → ¬ OA C (fun _ => none) a := fun ha z => by
      rcases z with z | z | ⟨j, z⟩
      · exact F.notO0 ha z
      · exact (F.own _ _ ha).2.1 z
      · cases z
    cases x with
    | val d => exact Rp.mo m _ _ h2
    | own ds =>
      obtain ⟨a, vs, ha, rfl, e2, r⟩ := h2
      exact Rp.lst (no ha) e2 (RpL.mo m _ _ r)
    | ownd ds =>
      obtain ⟨a, vs, ha, rfl, e2, r⟩ := h2
      exact Rp.dic (no ha) (.inl e2) (RpK.mo m _ _ r)

/-! ### what a statement leaves -/
def Kf (C : Ctx) (A A' : Ow) (H H' : Hp) : Prop := (∀ b o, H b = some o → ¬ isSrc C b → (∀ i, A i ≠ some b) → H' b = some o) ∧ ∀ i b, A' i = some b → (∃ j, A j = some b) ∨ H b = none ∨ isSrc C b
theorem Kf.of (k : Kp C H H') : Kf C A A H H' := ⟨fun b o e n _ => k b o e n, fun i b e => .inl ⟨i, e⟩⟩
theorem Kf.refl : Kf C A A H H := .of .refl
theorem Kf.trans {H2 : Hp} {D : Ow} (a : Kf C A B H H1) (b : Kf C B D H1 H2) : Kf C A D H H2 := by
  refine ⟨fun c o e n m => ?_, fun i c e => ?_⟩
  · refine b.1 c o (a.1 c o e n m) n fun i z => ?_
    rcases a.2 i c z with ⟨j, q⟩ | q | q
    · exact m j q
    · rw [q] at e; cases e
    · exact n q
  · rcases b.2 i c e with ⟨j, q⟩ | q | q
    · exact a.2 j c q
    · by_cases hs : isSrc C c
      · exact .inr (.inr hs)
      cases e1 : H c with
      | none => exact .inr (.inl rfl)
      | some o =>
        by_cases hA : ∃ j, A j = some c
        · exact .inl hA
        · rw [a.1 c o e1 hs fun j z => hA ⟨j, z⟩] at q; cases q
    · exact .inr (.inr q)
theorem Kf.less (h : ∀ i a, A' i = some a → ∃ j, A j = some a) : Kf C A A' H H := ⟨fun _ _ e _ _ => e, fun i b e => .inl (h i b e)⟩
theorem Kf.frz {i : Nat} : Kf C A (fun j => if j = i then none else A j) H H := .less fun j a e => by
  by_cases hj : j = i
  · simp [hj] at e
  · simp only [hj, if_false] at e; exact ⟨j, e⟩
theorem Kf.wr {i : Nat} {p : Addr} {o : HO} (h : A i = some p) : Kf C A A H (upd H p o) := ⟨fun b u e _ n => by rw [upd_ne (fun z => n i (by rw [z]; exact h))]; exact e, fun i b e => .inl ⟨i, e⟩⟩
theorem Kf.mv {k i : Nat} {p : Addr} (hk : A k = some p) : Kf C A (mvO A k i p) H H := .less fun j a e => by
  unfold mvO at e
  split at e
  · cases e; exact ⟨k, hk⟩
  · split at e
    · cases e
    · exact ⟨j, e⟩
theorem Kf.grow {k : Nat} {p : Addr} (hp : H p = none) (kp : Kp C H H') : Kf C A (addO A k p) H H' := ⟨fun b o e n _ => kp b o e n, fun i b e => by
  unfold addO at e
  split at e
  · cases e; exact .inr (.inl hp)
  · exact .inl ⟨i, e⟩⟩
end
end Snd

/-! ## SndS -/
set_option Elab.async false
set_option linter.all false
set_option maxRecDepth 100000
set_option maxHeartbeats 4000000
/-! SndS: statements. -/
namespace Snd
open PySem PySem.Spec L2
open PyProof.Rows hiding St
open Mini (E T It Slot)
abbrev Fx := Mini.Env → Mini.S → Mini.Res
def FinX (C : Ctx) (D : Ends) (o : Mini.Out) (σ' : St) (H' : Hp) : Prop := match o with
  | .nx => D.nx σ' H'
  | .bk => D.bk σ' H'
  | .ct => D.ct σ' H'
  | .rt d => ∀ v, Rp H' (fun a => C.O0 a ∨ isSrc C a) v d → D.rt v H'
def tX (C : Ctx) (f : Fx) : TS := fun D σ H => ∃ A ρ s o ρ' s', FR C A ρ s σ H ∧ f ρ s = some (o, ρ', s') ∧ ∀ A' σ' H', FR C A' ρ' s' σ' H' → Kf C A A' H H' → FinX C D o σ' H'
structure YOk (R : Nat) (T : Tab) (Fs : List Mini.Fn) (Gs : List Mini.Gn) (sc : Scope) (X : Cx) : Prop where
  x : XOk R T Fs Gs sc sc X
  own : PassesOwn (model X.prog X.w) X.A X.env X.xe
  knd : sc.kind = .function
section
variable {R : Nat} {T : Tab} {Fs : List Mini.Fn} {Gs : List Mini.Gn} {sc st : Scope} {X : Cx} {C : Ctx}
theorem nxt_some {r : Option Mini.Env} {s s' : Mini.S} {o : Mini.Out} {ρ' : Mini.Env} (h : Mini.nxt r s = some (o, ρ', s')) : r = some ρ' ∧ o = .nx ∧ s = s' := by
  unfold Mini.nxt at h
  obtain ⟨ρ, e, h⟩ := Option.map_eq_some_iff.mp h
  cases h
  exact ⟨e, rfl, rfl⟩
theorem setV_some {ρ ρ' : Mini.Env} {i : Nat} {x : Slot} (h : Mini.setV ρ i x = some ρ') : i < ρ.length ∧ ρ' = ρ.set i (some x) := by
  unfold Mini.setV at h
  split at h
  · cases h; exact ⟨by assumption, rfl⟩
  · cases h
/-! ### names -/
theorem nmS_of {T : Tab} {sc : Scope} {i : Nat} {x : Expr} (h : nmS T sc i x = true) : ∃ y p, x = .Name y p ∧ T.N[i]? = some y ∧ stoC sc y = true ∧ i ≠ T.si := by
  unfold nmS at h
  split at h
  · simp only [Bool.and_eq_true, decide_eq_true_eq] at h
    exact ⟨_, _, rfl, h.1.1, h.1.2, h.2⟩
  · cases h
def isComp : Expr → Bool
  | .ListComp _ _ _ _ => true
  | .SetComp _ _ _ _ => true
  | .DictComp _ _ _ _ _ => true
  | _ => false
theorem sw_no {e : Expr} {t : Option Expr} {l : Nat} {env : Env} (h : isComp e = false) : swapsWith e t l env = pure false := by
  cases e <;> first | rfl | cases h
theorem sw_cell {e : Expr} {y : Str} {p : Pos} {l : Nat} {env : Env} (h : env.kindOf y = some .cell) : swapsWith e (some (.Name y p)) l env = pure false := by
  cases e <;> first | rfl | (unfold swapsWith; simp only [h]; have hk : (NameKind.cell == NameKind.local) = false := rfl; simp [hk])
theorem sole_no {e tg : Expr} {l : Nat} {env : Env} (h : ∀ y p, tg ≠ .Name y p) : swapsWithSole [tg] e l env = pure false := by
  show swapsWith e (some tg) l env = pure false
  cases tg <;> first | exact absurd rfl (h _ _) | (cases e <;> rfl)
theorem own_ps {i : Nat} {y : Str} {p : Pos} {e : Expr} {pos : Pos} {te : TE} (kx : XOk R T Fs Gs sc sc X) (hn : T.N[i]? = some y) (hs : stoC sc y = true) (he : PE X e te) (hc : isComp e = false ∨ sc.names.lookup y = some .cell) :
    PS X (.Assign [.Name y p] e pos) (tAsg te (gName i)) := by
  obtain ⟨l, f⟩ := kx.sto y hs
  refine ps_set kx.nd (by rw [kx.nN]; exact hn) l he ?_ f
  rcases hc with hc | hc
  · exact sw_no hc
  · refine sw_cell ?_
    show X.env.scope.names.lookup y = _
    rw [kx.scp]; exact hc

/-! ### name = value -/
theorem set_read {fe : Fe} {i : Nat} (ne : ∀ j p c, C.sa = some (j, p, c) → j ≠ i) {D : Ends} {σ : St} {H : Hp} (h : tX C (fun ρ s => (fe ρ s).bind fun p => Mini.nxt (Mini.setV ρ i (.val p.1)) p.2) D σ H) : tE C fe σ H (fun x H1 => D.nx (σ.set i (some x)) H1) := by
  obtain ⟨A, ρ, s, o, ρ', s', F, e, q⟩ := h
  obtain ⟨⟨d, s1⟩, e1, e⟩ := Option.bind_eq_some_iff.mp e
  obtain ⟨e2, rfl, rfl⟩ := nxt_some e
  obtain ⟨hi, rfl⟩ := setV_some e2
  exact ⟨A, ρ, s, d, s1, F, e1, fun v H1 F1 k1 r1 => q A _ H1 (F1.put ne r1) (.of k1)⟩
theorem asOwn_some {d : D} {x : Slot} (h : Mini.asOwn d = some x) : (∃ l, d = .lst l ∧ x = .own l) ∨ ∃ l, d = .dic l ∧ x = .ownd l := by
  cases d <;> first | (cases h; exact .inl ⟨_, rfl, rfl⟩) | (cases h; exact .inr ⟨_, rfl, rfl⟩) | cases h
/-- what a fresh form gave: at an own place -/
def NewAt (C : Ctx) (A : Ow) (H : Hp) (p : Addr) (x : Slot) : Prop := (∃ vs ds, x = .own ds ∧ H p = some (.lst vs) ∧ RpL H (OA C A) vs ds) ∨ ∃ kvs ds, x = .ownd ds ∧ H p = some (.dK kvs) ∧ RpK H (OA C A) kvs ds
theorem new_own {A : Ow} {ρ : Mini.Env} {s s1 : Mini.S} {σ : St} {H H1 : Hp} {v : V} {d : D} {x : Slot} (F : FR C A ρ s σ H) (F1 : FR C A ρ s1 σ H1) (k : Kp C H H1) (n : Nw H H1 (OA C A) v d) (hx : Mini.asOwn d = some x) :
    ∃ k0 p, v = .ref p ∧ A k0 = none ∧ ρ.length ≤ k0 ∧ H p = none ∧ FR C (addO A k0 p) ρ s1 σ H1 ∧ Kf C A (addO A k0 p) H H1 ∧ addO A k0 p k0 = some p ∧ NewAt C (addO A k0 p) H1 p x := by
  obtain ⟨m, hm⟩ := F.fin
  have hk : A (max m ρ.length) = none := hm _ (Nat.le_max_left _ _)
  have hself : ∀ p, addO A (max m ρ.length) p (max m ρ.length) = some p := fun p => by unfold addO; rw [if_pos rfl]
  rcases asOwn_some hx with ⟨l, rfl, rfl⟩ | ⟨l, rfl, rfl⟩
  · obtain ⟨p, vs, rfl, h1, h2, h3⟩ := n
    exact ⟨_, p, rfl, hk, Nat.le_max_right _ _, h1, F.grow k F1.src hk h1 h2 (fun _ z => nomatch z), Kf.grow h1 k, hself p, .inl ⟨vs, l, rfl, h2, RpL.mo (mo_less fun a z => (oa_add hk).mp z) _ _ h3⟩⟩
  · obtain ⟨p, vs, rfl, h1, h2, h3⟩ := n
    exact ⟨_, p, rfl, hk, Nat.le_max_right _ _, h1, F.grow k F1.src hk h1 h2 (fun _ z => nomatch z), Kf.grow h1 k, hself p, .inr ⟨vs, l, rfl, h2, RpK.mo (mo_less fun a z => (oa_add hk).mp z) _ _ h3⟩⟩
theorem setO_read {fe : Fe} {i : Nat} (ne : ∀ j p c, C.sa = some (j, p, c) → j ≠ i) {D : Ends} {σ : St} {H : Hp} (h : tX C (fun ρ s => (fe ρ s).bind fun p => (Mini.asOwn p.1).bind fun x => Mini.nxt (Mini.setV ρ i x) p.2) D σ H) :
    tN C fe σ H (fun x H1 => D.nx (σ.set i (some x)) H1) := by
  obtain ⟨A, ρ, s, o, ρ', s', F, e, q⟩ := h
  obtain ⟨⟨d, s1⟩, e1, e⟩ := Option.bind_eq_some_iff.mp e
  obtain ⟨x, ex, e⟩ := Option.bind_eq_some_iff.mp e
  obtain ⟨e2, rfl, rfl⟩ := nxt_some e
  obtain ⟨hi, rfl⟩ := setV_some e2
  refine ⟨A, ρ, s, d, s1, F, e1, fun v H1 F1 k1 r1 => ?_⟩
  obtain ⟨k0, p, rfl, hk, hl, hp, F2, kf, hs, nw⟩ := new_own F F1 k1 r1 ex
  exact q _ _ H1 (F2.move hs hl hi ne nw) (kf.trans (.mv hs))

/-! ### a, b = ..: targets and values -/
def PV (C : Ctx) (A : Ow) (n : Nat) (H : Hp) : List (Option Nat) → List V → List D → Prop
  | [], [], [] => True
  | none :: ks, v :: vs, d :: ds => Rp H (OA C A) v d ∧ PV C A n H ks vs ds
  | some k :: ks, v :: vs, d :: ds => (∃ p x, v = .ref p ∧ A k = some p ∧ n ≤ k ∧ Mini.asOwn d = some x ∧ NewAt C A H p x) ∧ some k ∉ ks ∧ PV C A n H ks vs ds
  | _, _, _ => False
theorem PV.mo {A A' : Ow} {n : Nat} {H H' : Hp} (m : Mo H H' (OA C A) (OA C A')) (ho : ∀ k p o, A k = some p → H p = some o → H' p = some o) : ∀ {ks : List (Option Nat)} {vs : List V} {ds : List D}, (∀ k p, some k ∈ ks → n ≤ k → A k = some p → A' k = some p) → PV C A n H ks vs ds → PV C A' n H' ks vs ds
  | [], [], [], _, _ => trivial
  | none :: ks, v :: vs, d :: ds, h, z => ⟨Rp.mo m _ _ z.1, PV.mo m ho (fun k p a => h k p (List.mem_cons_of_mem _ a)) z.2⟩
  | some k :: ks, v :: vs, d :: ds, h, z => by
    obtain ⟨⟨p, x, e1, e2, e3, e4, e5⟩, nk, r⟩ := z
    refine ⟨⟨p, x, e1, h k p List.mem_cons_self e3 e2, e3, e4, ?_⟩, nk, PV.mo m ho (fun k p a => h k p (List.mem_cons_of_mem _ a)) r⟩
    rcases e5 with ⟨vs, ds, e6, e7, e8⟩ | ⟨vs, ds, e6, e7, e8⟩
    · exact .inl ⟨vs, ds, e6, ho k p _ e2 e7, RpL.mo m _ _ e8⟩
    · exact .inr ⟨vs, ds, e6, ho k p _ e2 e7, RpK.mo m _ _ e8⟩
  | [], [], _ :: _, _, z => z.elim
  | [], _ :: _, _, _, z => z.elim
  | none :: _, [], _, _, z => z.elim
  | some _ :: _, [], _, _, z => z.elim
  | none :: _, _ :: _, [], _, z => z.elim
  | some _ :: _, _ :: _, [], _, z => z.elim
theorem PV.keys {A : Ow} {n : Nat} {H : Hp} : ∀ {ks : List (Option Nat)} {vs : List V} {ds : List D}, PV C A n H ks vs ds → ∀ k, some k ∈ ks → ∃ p, A k = some p
  | [], [], [], _, k, hk => by simp at hk
  | none :: ks, v :: vs, d :: ds, z, k, hk => PV.keys z.2 k (by simpa using hk)
  | some j :: ks, v :: vs, d :: ds, z, k, hk => by
    rcases List.mem_cons.mp hk with e | e
    · cases e
      obtain ⟨⟨p, _, _, e2, _⟩, _⟩ := z
      exact ⟨p, e2⟩
    · exact PV.keys z.2.2 k e
  | [], [], _ :: _, z, _, _ => z.elim
  | [], _ :: _, _, z, _, _ => z.elim
  | none :: _, [], _, z, _, _ => z.elim
  | some _ :: _, [], _, z, _, _ => z.elim
  | none :: _, _ :: _, [], z, _, _ => z.elim
  | some _ :: _, _ :: _, [], z, _, _ => z.elim
def isNew : Mini.Tg → Bool
  | .nmO _ => true
  | _ => false
/-- an expression has made things -/
structure Ke (C : Ctx) (A A' : Ow) (H H' : Hp) : Prop where
  kp : Kp C H H'
  up : ∀ k p, A k = some p → A' k = some p
  down : ∀ i b, A' i = some b → A i = some b ∨ H b = none
theorem Ke.of {A : Ow} {H H' : Hp} (k : Kp C H H') : Ke C A A H H' := ⟨k, fun _ _ e => e, fun _ _ e => .inl e⟩
theorem Ke.grow {A : Ow} {H H' : Hp} {k : Nat} {p : Addr} (hk : A k = none) (hp : H p = none) (kp : Kp C H H') : Ke C A (addO A k p) H H' := ⟨kp, fun j q e => by
  unfold addO; rw [if_neg (fun z => by rw [z, hk] at e; cases e)]; exact e, fun i b e => by
  unfold addO at e
  split at e
  · cases e; exact .inr hp
  · exact .inl e⟩
theorem Ke.trans {A A' A2 : Ow} {H H' H2 : Hp} (nb : ∀ i b, A2 i = some b → ¬ isSrc C b) (a : Ke C A A' H H') (b : Ke C A' A2 H' H2) : Ke C A A2 H H2 := ⟨a.kp.trans b.kp, fun k p e => b.up k p (a.up k p e), fun i c e => by
  rcases b.down i c e with z | z
  · exact a.down i c z
  · cases eH : H c with
    | none => exact .inr rfl
    | some o => rw [a.kp c o eH (nb i c e)] at z; cases z⟩
theorem Ke.mo {A A' : Ow} {H H' : Hp} (k : Ke C A A' H H') : Mo H H' (OA C A) (OA C A') := ⟨fun b o e n => k.kp b o e fun z => n (.inr (.inl z)), fun b o e z => by
  rcases z with z | z | ⟨i, z⟩
  · exact .inl z
  · exact .inr (.inl z)
  · rcases k.down i b z with z | z
    · exact .inr (.inr ⟨i, z⟩)
    · rw [z] at e; cases e⟩
theorem Ke.kf {A A' : Ow} {H H' : Hp} (k : Ke C A A' H H') : Kf C A A' H H' := ⟨fun b o e n _ => k.kp b o e n, fun i b e => (k.down i b e).elim (fun z => .inl ⟨i, z⟩) fun z => .inr (.inl z)⟩
/-- the values of a, b = ..: of the targets that are one's own, new ones -/
def tPV (C : Ctx) (ts : List Mini.Tg) (f : Fl) : TA := fun σ H Q => ∃ (A : Ow) (ρ : Mini.Env) (s : Mini.S) (ds : List D) (s' : Mini.S), FR C A ρ s σ H ∧ f ρ s = some (ds, s') ∧ (∀ (j : Nat) (d : D), ds[j]? = some d → (∃ t, ts[j]? = some t ∧ isNew t = true) → ∃ x, Mini.asOwn d = some x) ∧
  ∀ A' vs ks H', FR C A' ρ s' σ H' → Ke C A A' H H' → PV C A' ρ.length H' ks vs ds → ks.map Option.isSome = ts.map isNew → (∀ k, some k ∈ ks → A k = none) → Q vs H'
def mP (rec : Rec) : List Mini.Tg → List E → List Expr → Bool
  | [], [], [] => true
  | t :: ts, e :: es, x :: xs => rec e x && noStar x && (!isNew t || Mini.fresh e) && mP rec ts es xs
  | _, _, _ => false
theorem mP_pa {ev : Mini.Env → E → Mini.S → Option (D × Mini.S)} {rec : Rec} (ih : ∀ e x, rec e x = true → PE X x (tE C fun ρ s => ev ρ e s) ∧ (Mini.fresh e = true → PE X x (tN C fun ρ s => ev ρ e s))) : ∀ {ts : List Mini.Tg} {es : List E} {xs : List Expr}, mP rec ts es xs = true →
    PA X xs (tPV C ts fun ρ s => Mini.evL (ev ρ) es s) ∧ xs.all noStar = true
  | [], [], [], _ => by
    refine ⟨pa_imp pa_nil fun σ H Q ⟨A, ρ, s, ds, s', F, e, _, q⟩ => ?_, rfl⟩
    have e : some (([] : List D), s) = some (ds, s') := e
    cases e
    exact q A [] [] H F (.of .refl) trivial rfl (by simp)
  | t :: ts, e :: es, x :: xs, h => by
    rw [mP, Bool.and_eq_true, Bool.and_eq_true, Bool.and_eq_true] at h
    obtain ⟨⟨⟨h1, h2⟩, h3⟩, h4⟩ := h
    obtain ⟨p, a⟩ := mP_pa ih (ts := ts) (es := es) (xs := xs) h4
    refine ⟨?_, by rw [List.all_cons, h2, a]; rfl⟩
    -- the first value
    have first : PE X x (fun σ H Q => ∃ A ρ s d s', FR C A ρ s σ H ∧ ev ρ e s = some (d, s') ∧ (isNew t = true → ∃ x, Mini.asOwn d = some x) ∧ ∀ A' k v H', FR C A' ρ s' σ H' → Ke C A A' H H' → PV C A' ρ.length H' [k] [v] [d] → k.isSome = isNew t → (∀ j, k = some j → A j = none) → Q v H') := by
      cases ht : isNew t with
      | false => exact pe_imp (ih e x h1).1 fun σ H Q ⟨A, ρ, s, d, s', F, e1, _, q⟩ => ⟨A, ρ, s, d, s', F, e1, fun v H' F' k r => q A none v H' F' (.of k) ⟨r, trivial⟩ rfl (fun _ z => nomatch z)⟩
      | true =>
        rw [ht] at h3
        refine pe_imp ((ih e x h1).2 (by simpa using h3)) fun σ H Q ⟨A, ρ, s, d, s', F, e1, ho, q⟩ => ⟨A, ρ, s, d, s', F, e1, fun v H' F' k r => ?_⟩
        obtain ⟨y, hy⟩ := ho rfl
        obtain ⟨k0, p, rfl, hk, hl, hp, F2, kf, hs, nw⟩ := new_own F F' k r hy
        exact q _ (some k0) _ H' F2 (.grow hk hp k) ⟨⟨p, y, rfl, hs, hl, hy, nw⟩, by simp, trivial⟩ rfl (fun j z => by cases z; exact hk)
    refine pa_imp (pa_cons first p (star_cons h2)) fun σ H Q ⟨A, ρ, s, ds, s', F, q1, ho, q⟩ => ?_
    have q1 : ((ev ρ e s).bind fun p => (Mini.evL (ev ρ) es p.2).bind fun q => some (p.1 :: q.1, q.2)) = some (ds, s') := q1
    rw [Option.bind_eq_some_iff] at q1
    obtain ⟨⟨d, s1⟩, e1, q1⟩ := q1
    rw [Option.bind_eq_some_iff] at q1
    obtain ⟨⟨dr, s2⟩, e2, q1⟩ := q1
    cases q1
    refine ⟨A, ρ, s, d, s1, F, e1, fun ht => ho 0 d rfl ⟨t, rfl, ht⟩, fun A1 k v H1 F1 ke1 pv1 hk1 hn1 => ⟨A1, ρ, s1, dr, s2, F1, e2, fun j d hj ⟨t, et, ht⟩ => ho (j + 1) d hj ⟨t, et, ht⟩, fun A2 vs ks H2 F2 ke2 pv2 hk2 hn2 => ?_⟩⟩
    have ke := Ke.trans (fun i b e => (F2.own i b e).2.1) ke1 ke2
    -- the first stands, behind the others
    have pv1' := PV.mo (ks := [k]) ke2.mo (fun k p o e eH => ke2.kp p o eH (F1.own k p e).2.1) (fun k p _ _ => ke2.up k p) pv1
    refine q A2 (v :: vs) (k :: ks) H2 F2 ke ?_ (by rw [List.map_cons, List.map_cons, hk1, hk2]) fun j hj => ?_
    · cases k with
      | none => exact ⟨pv1'.1, pv2⟩
      | some k =>
        refine ⟨pv1'.1, fun z => ?_, pv2⟩
        obtain ⟨⟨p, _, _, e2, _⟩, _⟩ := pv1
        rw [hn2 k z] at e2; cases e2
    · rcases List.mem_cons.mp hj with z | z
      · exact hn1 j z.symm
      · cases eA : A j with
        | none => rfl
        | some b =>
          have q := hn2 j z
          rw [ke1.up j b eA] at q; cases q
  | [], [], _ :: _, h => by cases h
  | [], _ :: _, _, h => by cases h
  | _ :: _, [], _, h => by cases h
  | _ :: _, _ :: _, [], h => by cases h
end
end Snd

/-! ## SndT -/
set_option Elab.async false
set_option linter.all false
set_option maxRecDepth 100000
set_option maxHeartbeats 4000000
/-! SndT: a, b = .. -/
namespace Snd
open PySem PySem.Spec L2
open PyProof.Rows hiding St
open Mini (E T It Slot)
section
variable {R : Nat} {T : Tab} {Fs : List Mini.Fn} {Gs : List Mini.Gn} {sc st : Scope} {X : Cx} {C : Ctx}
def tgI : Mini.Tg → Nat
  | .nm i => i
  | .nmO i => i
  | _ => 0
def setAll : List Mini.Tg → List V → St → St
  | t :: ts, v :: vs, σ => setAll ts vs (σ.set (tgI t) (some v))
  | _, _, σ => σ
def isNm : Mini.Tg → Bool
  | .nm _ => true
  | .nmO _ => true
  | _ => false
theorem par_fr {ev : Mini.Ev} : ∀ {ts : List Mini.Tg} {ks : List (Option Nat)} {vs : List V} {ds : List D} {A : Ow} {ρ ρ' : Mini.Env} {s : Mini.S} {σ : St} {H : Hp}, ts.all isNm = true → (∀ t, t ∈ ts → ∀ j p c, C.sa = some (j, p, c) → j ≠ tgI t) → FR C A ρ s σ H → PV C A ρ.length H ks vs ds →
    ks.map Option.isSome = ts.map isNew → Mini.tgsSet ev s ts ds ρ = some ρ' → ∃ A', FR C A' ρ' s (setAll ts vs σ) H ∧ Kf C A A' H H
  | [], [], [], [], A, ρ, ρ', s, σ, H, _, _, F, _, _, e => by
    have e : some ρ = some ρ' := e
    cases e
    exact ⟨A, F, .refl⟩
  | t :: ts, k :: ks, v :: vs, d :: ds, A, ρ, ρ', s, σ, H, hn, hs, F, pv, hk, e => by
    rw [List.all_cons, Bool.and_eq_true] at hn
    rw [List.map_cons, List.map_cons] at hk
    injection hk with hk1 hk2
    obtain ⟨ρ1, e1, e2⟩ := Option.bind_eq_some_iff.mp (show ((Mini.tgSet ev ρ s t d).bind fun ρ => Mini.tgsSet ev s ts ds ρ) = some ρ' from e)
    have ne := hs t List.mem_cons_self
    have hs' : ∀ t, t ∈ ts → ∀ j p c, C.sa = some (j, p, c) → j ≠ tgI t := fun t ht => hs t (List.mem_cons_of_mem _ ht)
    cases t with
    | nm i =>
      cases k with
      | some k => cases hk1
      | none =>
        obtain ⟨hi, rfl⟩ := setV_some e1
        have pv2 : PV C A (ρ.set i (some (.val d))).length H ks vs ds := by rw [List.length_set]; exact pv.2
        obtain ⟨A', F', kf⟩ := par_fr (ts := ts) (ks := ks) (vs := vs) (ds := ds) hn.2 hs' (F.put ne pv.1) pv2 hk2 e2
        exact ⟨A', F', kf⟩
    | nmO i =>
      cases k with
      | none => cases hk1
      | some k =>
        obtain ⟨x, ex, e1⟩ := Option.bind_eq_some_iff.mp (show ((Mini.asOwn d).bind fun x => Mini.setV ρ i x) = some ρ1 from e1)
        obtain ⟨hi, rfl⟩ := setV_some e1
        obtain ⟨⟨p, x', rfl, ek, hl, ex', nw⟩, nk, pv2⟩ := pv
        rw [ex] at ex'
        cases ex'
        have F2 := F.move ek hl hi ne nw
        have pv3 : PV C (mvO A k i p) (ρ.set i (some x)).length H ks vs ds := by
          rw [List.length_set]
          refine PV.mo (mo_less fun a => mv_oa ek) (fun _ _ _ _ e => e) (fun k' p' hm hl' e' => ?_) pv2
          unfold mvO
          rw [if_neg (by omega), if_neg (fun z => nk (by rw [← z]; exact hm))]
          exact e'
        obtain ⟨A', F', kf⟩ := par_fr (ts := ts) (ks := ks) (vs := vs) (ds := ds) hn.2 hs' F2 pv3 hk2 e2
        exact ⟨A', F', (Kf.mv ek).trans kf⟩
    | sub i e => cases hn.1
    | tup ts => cases hn.1
  | [], [], [], _ :: _, _, _, _, _, _, _, _, _, _, pv, _, _ => pv.elim
  | [], [], _ :: _, _, _, _, _, _, _, _, _, _, _, pv, _, _ => pv.elim
  | [], _ :: _, _, _, _, _, _, _, _, _, _, _, _, _, hk, _ => by cases hk
  | _ :: _, [], _, _, _, _, _, _, _, _, _, _, _, _, hk, _ => by cases hk
  | _ :: _, none :: _, [], _, _, _, _, _, _, _, _, _, _, pv, _, _ => pv.elim
  | _ :: _, some _ :: _, [], _, _, _, _, _, _, _, _, _, _, pv, _, _ => pv.elim
  | _ :: _, none :: _, _ :: _, [], _, _, _, _, _, _, _, _, _, pv, _, _ => pv.elim
  | _ :: _, some _ :: _, _ :: _, [], _, _, _, _, _, _, _, _, _, pv, _, _ => pv.elim
theorem PV.len {A : Ow} {n : Nat} {H : Hp} : ∀ {ks : List (Option Nat)} {vs : List V} {ds : List D}, PV C A n H ks vs ds → vs.length = ks.length ∧ ds.length = ks.length
  | [], [], [], _ => ⟨rfl, rfl⟩
  | none :: ks, v :: vs, d :: ds, z => by have := PV.len z.2; simp [this]
  | some k :: ks, v :: vs, d :: ds, z => by have := PV.len z.2.2; simp [this]
  | [], [], _ :: _, z => z.elim
  | [], _ :: _, _, z => z.elim
  | none :: _, [], _, z => z.elim
  | some _ :: _, [], _, z => z.elim
  | none :: _, _ :: _, [], z => z.elim
  | some _ :: _, _ :: _, [], z => z.elim
def gSets : List Mini.Tg → TGs
  | [] => gNil
  | t :: ts => gCons (gName (tgI t)) (gSets ts)
theorem gSets_of : ∀ {ts : List Mini.Tg} {vs : List V} {σ : St} {H : Hp} {Q : St → Hp → Prop}, vs.length = ts.length → Q (setAll ts vs σ) H → gSets ts vs σ H Q
  | [], [], _, _, _, _, q => ⟨rfl, q⟩
  | t :: ts, v :: vs, _, _, _, h, q => ⟨v, vs, rfl, gSets_of (ts := ts) (by simpa using h) q⟩
  | [], _ :: _, _, _, _, h, _ => by cases h
  | _ :: _, [], _, _, _, h, _ => by cases h
def mTs2 (T : Tab) (sc : Scope) : List Mini.Tg → List Expr → Bool
  | [], [] => true
  | t :: ts, x :: xs => isNm t && nmS T sc (tgI t) x && mTs2 T sc ts xs
  | _, _ => false
theorem mTs2_pgs (kx : XOk R T Fs Gs sc sc X) : ∀ {ts : List Mini.Tg} {xs : List Expr}, mTs2 T sc ts xs = true → PGs X xs (gSets ts) ∧ xs.all noStar = true ∧ xs.length = ts.length ∧ ts.all isNm = true ∧ ∀ t, t ∈ ts → tgI t ≠ T.si
  | [], [], _ => ⟨pgs_nil, rfl, rfl, rfl, by simp⟩
  | t :: ts, x :: xs, h => by
    rw [mTs2, Bool.and_eq_true, Bool.and_eq_true] at h
    obtain ⟨p, ns, l, al, ne⟩ := mTs2_pgs kx h.2
    obtain ⟨p1, n1⟩ := nmS_pg kx h.1.2
    have st : noStar x = true := by obtain ⟨y, q, rfl, _⟩ := nmS_of h.1.2; rfl
    refine ⟨pgs_cons p1 p (by rw [asg_cons st]; rfl), by rw [List.all_cons, st, ns]; rfl, by simp [l], by rw [List.all_cons, h.1.1, al]; rfl, fun t' ht => ?_⟩
    rcases List.mem_cons.mp ht with z | z
    · rw [z]; exact n1
    · exact ne t' z
  | [], _ :: _, h => by cases h
  | _ :: _, [], h => by cases h

/-! ### when the stores are exchanged -/
def locN (sc : Scope) (line : Nat) : Expr → Option Str
  | .Name id pos => if sc.names.lookup id == some .local && pos.line == line then some id else none
  | _ => none
theorem swap_eq {ts vs : List Expr} {k k2 : Nat} {p p2 : Pos} {env : Env} (hb : env.blockKind = .function) : swappedStores [.Tuple ts k p] (.Tuple vs k2 p2) env =
    (if (!(ts.length == 2 || ts.length == 3) || vs.length != ts.length) = true then pure none else
      if (vs.any fun | .Starred .. => true | _ => false) = true then pure none else
        if ((ts.filterMap (locN env.scope ((ts.head?.map (·.pos.line)).getD 0))).length != ts.length || (ts.filterMap (locN env.scope ((ts.head?.map (·.pos.line)).getD 0))).eraseDups.length != (ts.filterMap (locN env.scope ((ts.head?.map (·.pos.line)).getD 0))).length) = true then pure none else
          if (vs.all (foldedForSure 8)) = true then pure none else
            if (vs.all (constantsAlone 8)) = true then (do unsupported "assign.tuple-of-constant-expressions:order-of-the-stores"; pure (some (ts.filterMap (locN env.scope ((ts.head?.map (·.pos.line)).getD 0)))))
            else pure (some (ts.filterMap (locN env.scope ((ts.head?.map (·.pos.line)).getD 0))))) := by
  unfold swappedStores
  simp only [hb]
  rw [show (ScopeKind.function != ScopeKind.function) = false from rfl, Bool.or_false]
  rfl

def lineOf (ts : List Expr) : Nat := (ts.head?.map (·.pos.line)).getD 0
/-- the stores are not exchanged -/
def swapB (sc : Scope) (ts vs : List Expr) : Bool :=
  (!(ts.length == 2 || ts.length == 3) || vs.length != ts.length) || ((ts.filterMap (locN sc (lineOf ts))).length != ts.length) || vs.all (foldedForSure 8)
theorem swapB_of {sc : Scope} {ts vs : List Expr} {k k2 : Nat} {p p2 : Pos} {env : Env} (he : env.scope = sc) (hb : env.blockKind = .function) (ns : vs.all noStar = true) (h : swapB sc ts vs = true) : swappedStores [.Tuple ts k p] (.Tuple vs k2 p2) env = pure none := by
  rw [swap_eq hb, he]
  unfold swapB lineOf at h
  have hs : (vs.any fun | .Starred .. => true | _ => false) = false := by
    rw [List.any_eq_false]
    intro x hx
    have := List.all_eq_true.mp ns x hx
    cases x <;> first | (exact Bool.false_ne_true) | cases this
  by_cases h1 : (!(ts.length == 2 || ts.length == 3) || vs.length != ts.length) = true
  · rw [if_pos h1]
  · rw [if_neg h1, if_neg (by rw [hs]; exact Bool.false_ne_true)]
    simp only [Bool.not_eq_true] at h1
    rw [h1, Bool.false_or, Bool.or_eq_true] at h
    rcases h with h | h
    · rw [if_pos (by rw [h]; rfl)]
    · by_cases h2 : ((ts.filterMap (locN sc ((ts.head?.map (·.pos.line)).getD 0))).length != ts.length || (ts.filterMap (locN sc ((ts.head?.map (·.pos.line)).getD 0))).eraseDups.length != (ts.filterMap (locN sc ((ts.head?.map (·.pos.line)).getD 0))).length) = true
      · rw [if_pos h2]
      · rw [if_neg h2, if_pos h]
theorem loc_of {sc : Scope} {l : Nat} {x : Expr} {y : Str} (h : locN sc l x = some y) : ∃ p, x = .Name y p ∧ sc.names.lookup y = some .local := by
  unfold locN at h
  split at h
  · split at h
    · rename_i id pos c
      cases h
      rw [Bool.and_eq_true] at c
      refine ⟨_, rfl, ?_⟩
      cases hl : sc.names.lookup y with
      | none => rw [hl] at c; exact absurd c.1 (by decide)
      | some k => rw [hl] at c; cases k <;> first | rfl | exact absurd c.1 (by decide)
    · cases h
  · cases h
/-- the stores are exchanged -/
def swapA (sc : Scope) (ts vs : List Expr) : Bool := match ts.filterMap (locN sc (lineOf ts)) with
  | [a, b] => ts.length == 2 && vs.length == 2 && !(a == b) && !(vs.all (foldedForSure 8)) && !(vs.all (constantsAlone 8))
  | [a, b, c] => ts.length == 3 && vs.length == 3 && !(a == b) && !(a == c) && !(b == c) && !(vs.all (foldedForSure 8)) && !(vs.all (constantsAlone 8))
  | _ => false
theorem blockKind_of {env : Env} {sc : Scope} (he : env.scope = sc) (hk : sc.kind = .function) : env.blockKind = .function := by
  unfold Env.blockKind
  rw [he, hk]; rfl
theorem noStar_any {vs : List Expr} (ns : vs.all noStar = true) : (vs.any fun | .Starred .. => true | _ => false) = false := by
  rw [List.any_eq_false]
  intro x hx
  have := List.all_eq_true.mp ns x hx
  cases x <;> first | (exact Bool.false_ne_true) | cases this
theorem swapA2 {sc : Scope} {x y : Str} {px py : Pos} {a b : Expr} {k k2 : Nat} {p p2 : Pos} {env : Env} (he : env.scope = sc) (hb : env.blockKind = .function) (ns : [a, b].all noStar = true) (hn : [Expr.Name x px, Expr.Name y py].filterMap (locN sc (lineOf [Expr.Name x px, Expr.Name y py])) = [x, y]) (hxy : (x == y) = false)
    (h1 : [a, b].all (foldedForSure 8) = false) (h2 : [a, b].all (constantsAlone 8) = false) : swappedStores [.Tuple [.Name x px, .Name y py] k p] (.Tuple [a, b] k2 p2) env = pure (some [x, y]) := by
  have hn' : [Expr.Name x px, Expr.Name y py].filterMap (locN sc ((([Expr.Name x px, Expr.Name y py] : List Expr).head?.map (·.pos.line)).getD 0)) = [x, y] := hn
  rw [swap_eq hb, he, if_neg (by simp), if_neg (by rw [noStar_any ns]; exact Bool.false_ne_true), hn', if_neg ?_, if_neg (by rw [h1]; exact Bool.false_ne_true), if_neg (by rw [h2]; exact Bool.false_ne_true)]
  have e : [x, y].eraseDups = [x, y] := by
    have : (y == x) = false := by
      rw [beq_eq_false_iff_ne] at hxy ⊢
      exact Ne.symm hxy
    simp [List.eraseDups_cons, this]
  rw [e]
  exact Bool.false_ne_true
theorem swapA3 {sc : Scope} {x y z : Str} {px py pz : Pos} {a b c : Expr} {k k2 : Nat} {p p2 : Pos} {env : Env} (he : env.scope = sc) (hb : env.blockKind = .function) (ns : [a, b, c].all noStar = true) (hn : [Expr.Name x px, Expr.Name y py, Expr.Name z pz].filterMap (locN sc (lineOf [Expr.Name x px, Expr.Name y py, Expr.Name z pz])) = [x, y, z]) (hxy : (x == y) = false) (hxz : (x == z) = false) (hyz : (y == z) = false)
    (h1 : [a, b, c].all (foldedForSure 8) = false) (h2 : [a, b, c].all (constantsAlone 8) = false) : swappedStores [.Tuple [.Name x px, .Name y py, .Name z pz] k p] (.Tuple [a, b, c] k2 p2) env = pure (some [x, y, z]) := by
  have hn' : [Expr.Name x px, Expr.Name y py, Expr.Name z pz].filterMap (locN sc ((([Expr.Name x px, Expr.Name y py, Expr.Name z pz] : List Expr).head?.map (·.pos.line)).getD 0)) = [x, y, z] := hn
  rw [swap_eq hb, he, if_neg (by simp), if_neg (by rw [noStar_any ns]; exact Bool.false_ne_true), hn', if_neg ?_, if_neg (by rw [h1]; exact Bool.false_ne_true), if_neg (by rw [h2]; exact Bool.false_ne_true)]
  have e : [x, y, z].eraseDups = [x, y, z] := by
    have t1 : (y == x) = false := by
      rw [beq_eq_false_iff_ne] at hxy ⊢
      exact Ne.symm hxy
    have t2 : (z == x) = false := by
      rw [beq_eq_false_iff_ne] at hxz ⊢
      exact Ne.symm hxz
    have t3 : (z == y) = false := by
      rw [beq_eq_false_iff_ne] at hyz ⊢
      exact Ne.symm hyz
    simp [List.eraseDups_cons, t1, t2, t3]
  rw [e]
  exact Bool.false_ne_true
def parX (f : List Expr → List Expr → Bool) : Stmt → Bool
  | .Assign [.Tuple xs _ _] (.Tuple es _ _) _ => f xs es
  | _ => false
theorem par_read {ts : List Mini.Tg} {ev : Mini.Ev} {es : List E} (al : ts.all isNm = true) (ne : ∀ t, t ∈ ts → ∀ j p c, C.sa = some (j, p, c) → j ≠ tgI t) {D : Ends} {σ : St} {H : Hp} (h : tX C (fun ρ s => (Mini.evL (ev ρ) es s).bind fun p => Mini.nxt (Mini.tgsSet ev p.2 ts p.1 ρ) p.2) D σ H) :
    tPV C ts (fun ρ s => Mini.evL (ev ρ) es s) σ H (fun vs H1 => vs.length = ts.length ∧ D.nx (setAll ts vs σ) H1 ∧ (vs.length ≤ Mini.LIM → ∀ q, H1 q = none → D.nx (setAll ts vs σ) (upd H1 q (.tup vs)))) := by
  obtain ⟨A, ρ, s, o, ρ', s', F, e, q⟩ := h
  obtain ⟨⟨ds, s1⟩, e1, e⟩ := Option.bind_eq_some_iff.mp e
  obtain ⟨e2, rfl, rfl⟩ := nxt_some e
  refine ⟨A, ρ, s, ds, s1, F, e1, ?_, fun A1 vs ks H1 F1 ke pv hk _ => ⟨?_, ?_, fun _ p hp => ?_⟩⟩
  · have gen : ∀ (ts : List Mini.Tg) (ds : List Mini.D) (ρ : Mini.Env), ts.all isNm = true → Mini.tgsSet ev s1 ts ds ρ = some ρ' → ∀ (j : Nat) (d : Mini.D), ds[j]? = some d → (∃ t, ts[j]? = some t ∧ isNew t = true) → ∃ x, Mini.asOwn d = some x := by
      intro ts
      induction ts with
      | nil => intro ds ρ _ _ j d _ ⟨t, et, _⟩; simp at et
      | cons t ts ih =>
        intro ds ρ hn e j d hj ⟨t', et, ht⟩
        cases ds with
        | nil => simp at hj
        | cons d0 ds =>
          rw [List.all_cons, Bool.and_eq_true] at hn
          obtain ⟨ρ1, e1, e2⟩ := Option.bind_eq_some_iff.mp (show ((Mini.tgSet ev ρ s1 t d0).bind fun ρ => Mini.tgsSet ev s1 ts ds ρ) = some ρ' from e)
          cases j with
          | zero =>
            simp at hj et
            subst hj et
            cases t with
            | nmO i =>
              obtain ⟨x, ex, _⟩ := Option.bind_eq_some_iff.mp (show ((Mini.asOwn d0).bind fun x => Mini.setV ρ i x) = some ρ1 from e1)
              exact ⟨x, ex⟩
            | _ => cases ht
          | succ j => exact ih ds ρ1 hn.2 e2 j d (by simpa using hj) ⟨t', by simpa using et, ht⟩
    exact gen ts ds ρ al e2
  · rw [pv.len.1, ← List.length_map (f := Option.isSome), hk, List.length_map]
  · obtain ⟨A', F', kf⟩ := par_fr al ne F1 pv hk e2
    exact q A' _ H1 F' (ke.kf.trans kf)
  · have sm := same_upd (o := .tup vs) hp
    have F2 := F1.same sm
    have pv2 := PV.mo (A' := A1) (H' := upd H1 p (.tup vs)) (mo_kp (.of sm)) (fun _ _ _ _ e => sm _ _ e) (fun _ _ _ _ e => e) pv
    obtain ⟨A', F', kf⟩ := par_fr al ne F2 pv2 hk e2
    exact q A' _ _ F' ((ke.kf.trans (.of (.of sm))).trans kf)
theorem par_ps (ky : YOk R T Fs Gs sc X) (kc : COk T C) {ev : Mini.Ev} {rec : Rec} (ih : ∀ e x, rec e x = true → PE X x (tE C fun ρ s => ev ρ e s) ∧ (Mini.fresh e = true → PE X x (tN C fun ρ s => ev ρ e s))) {ts : List Mini.Tg} {es : List E} {x : Stmt}
    (h : parX (fun xs es' => mTs2 T sc ts xs && mP rec ts es es' && decide (ts.length ≤ 20) && (swapB sc xs es' || swapA sc xs es')) x = true) : PS X x (tX C fun ρ s => (Mini.evL (ev ρ) es s).bind fun p => Mini.nxt (Mini.tgsSet ev p.2 ts p.1 ρ) p.2) := by
  have kx := ky.x
  unfold parX at h
  split at h
  case h_2 => cases h
  rename_i xs k p es' k2 p2 pos
  simp only [Bool.and_eq_true, decide_eq_true_eq] at h
  obtain ⟨⟨⟨h1, h2⟩, h3⟩, h4⟩ := h
  obtain ⟨pg, ns, hl, al, ne⟩ := mTs2_pgs kx h1
  obtain ⟨pa, ns2⟩ := mP_pa (ev := ev) ih h2
  have ne' : ∀ t, t ∈ ts → ∀ j p c, C.sa = some (j, p, c) → j ≠ tgI t := fun t ht => kc.ne (ne t ht)
  have hbk := blockKind_of kx.scp ky.knd
  have hsole : swapsWithSole [.Tuple xs k p] (.Tuple es' k2 p2) pos.line X.env = pure false := rfl
  rw [Bool.or_eq_true] at h4
  rcases h4 with h4 | h4
  · refine ps_imp (ps_asg (pe_tup pa) (pg_tup kx.calm pg asg_len (asg_none ns)) hsole (swapB_of kx.scp hbk ns2 h4) rfl) fun D σ H h => ?_
    obtain ⟨A, ρ, s, ds, s', F, e, ho, q⟩ := par_read al ne' h
    refine ⟨A, ρ, s, ds, s', F, e, ho, fun A' vs ks H' F' ke pv hk hn => ?_⟩
    obtain ⟨q1, q2, q3⟩ := q A' vs ks H' F' ke pv hk hn
    have hlim : vs.length ≤ Mini.LIM := by rw [q1]; have : Mini.LIM = 1000000 := rfl; omega
    exact ⟨lim_line hlim, fun p hp => ⟨p, vs, rfl, .of upd_same, by rw [q1, hl], gSets_of q1 (q3 hlim p hp)⟩⟩
  · unfold swapA at h4
    split at h4
    · rename_i a b hab
      simp only [Bool.and_eq_true, Bool.not_eq_true', beq_iff_eq] at h4
      obtain ⟨⟨⟨⟨l1, l2⟩, hne⟩, hf⟩, hcn⟩ := h4
      match xs, ts, es', l1, hl, l2, h1, pa, ns2, hab, hf, hcn, al, ne', pg, h2 with
      | [x, y], [t, u], [e1, e2], _, _, _, h1, pa, ns2, hab, hf, hcn, al, ne', pg, h2 =>
        have hl1 : ∃ n1, locN sc (lineOf [x, y]) x = some n1 := by
          cases hh : locN sc (lineOf [x, y]) x with
          | some n => exact ⟨n, rfl⟩
          | none =>
            rw [List.filterMap_cons_none hh] at hab
            have := congrArg List.length hab
            have l := List.length_filterMap_le (locN sc (lineOf [x, y])) [y]
            simp at this l
            omega
        obtain ⟨n1, hl1⟩ := hl1
        rw [List.filterMap_cons_some hl1] at hab
        have hl2 : ∃ n2, locN sc (lineOf [x, y]) y = some n2 := by
          cases hh : locN sc (lineOf [x, y]) y with
          | some n => exact ⟨n, rfl⟩
          | none =>
            rw [List.filterMap_cons_none hh] at hab
            cases hab
        obtain ⟨n2, hl2⟩ := hl2
        have hnm : [x, y].filterMap (locN sc (lineOf [x, y])) = [n1, n2] := by
          rw [List.filterMap_cons_some hl1, List.filterMap_cons_some hl2]; rfl
        rw [List.filterMap_cons_some hl2] at hab
        cases hab
        obtain ⟨px, rfl, lx⟩ := loc_of hl1
        obtain ⟨py, rfl, ly⟩ := loc_of hl2
        simp only [mTs2, Bool.and_eq_true] at h1
        obtain ⟨_, _, z1, i1, _, _⟩ := nmS_of h1.1.2
        obtain ⟨_, _, z2, i2, _, _⟩ := nmS_of h1.2.1.2
        cases z1
        cases z2
        have hij : tgI t ≠ tgI u := fun z => by
          rw [z, i2] at i1
          cases i1
          simp at hne
        refine ps_imp (ps_par kx.calm kx.nd (by rw [kx.nN]; exact i1) (by rw [kx.nN]; exact i2) hij (by rw [kx.scp]; exact lx) (by rw [kx.scp]; exact ly) pa (swapA2 kx.scp hbk ns2 hnm hne hf hcn) hsole) fun D σ H h => ?_
        obtain ⟨A, ρ, s, ds, s', F, e, ho, q⟩ := par_read al ne' h
        refine ⟨A, ρ, s, ds, s', F, e, ho, fun A' vs ks H' F' ke pv hk hn => ?_⟩
        obtain ⟨q1, q2, q3⟩ := q A' vs ks H' F' ke pv hk hn
        match vs, q1, q2 with
        | [v, w], _, q2 => exact ⟨v, w, rfl, q2⟩
    · rename_i a b c hab
      simp only [Bool.and_eq_true, Bool.not_eq_true', beq_iff_eq] at h4
      obtain ⟨⟨⟨⟨⟨⟨l1, l2⟩, hne⟩, hne2⟩, hne3⟩, hf⟩, hcn⟩ := h4
      match xs, ts, es', l1, hl, l2, h1, pa, ns2, hab, hf, hcn, al, ne', pg, h2 with
      | [x, y, z], [t, u, v], [e1, e2, e3], _, _, _, h1, pa, ns2, hab, hf, hcn, al, ne', pg, h2 =>
        have three : ∃ n1 n2 n3, locN sc (lineOf [x, y, z]) x = some n1 ∧ locN sc (lineOf [x, y, z]) y = some n2 ∧ locN sc (lineOf [x, y, z]) z = some n3 := by
          have l := congrArg List.length hab
          cases hx : locN sc (lineOf [x, y, z]) x <;> cases hy : locN sc (lineOf [x, y, z]) y <;> cases hz : locN sc (lineOf [x, y, z]) z <;> first | exact ⟨_, _, _, rfl, rfl, rfl⟩ | (exfalso; simp [List.filterMap_cons, hx, hy, hz] at l)
        obtain ⟨n1, n2, n3, hl1, hl2, hl3⟩ := three
        have hnm : [x, y, z].filterMap (locN sc (lineOf [x, y, z])) = [n1, n2, n3] := by
          rw [List.filterMap_cons_some hl1, List.filterMap_cons_some hl2, List.filterMap_cons_some hl3]; rfl
        rw [hnm] at hab
        cases hab
        obtain ⟨px, rfl, lx⟩ := loc_of hl1
        obtain ⟨py, rfl, ly⟩ := loc_of hl2
        obtain ⟨pz, rfl, lz⟩ := loc_of hl3
        simp only [mTs2, Bool.and_eq_true] at h1
        obtain ⟨_, _, z1, i1, _, _⟩ := nmS_of h1.1.2
        obtain ⟨_, _, z2, i2, _, _⟩ := nmS_of h1.2.1.2
        obtain ⟨_, _, z3, i3, _, _⟩ := nmS_of h1.2.2.1.2
        cases z1
        cases z2
        cases z3
        have hij : tgI t ≠ tgI u := fun z => by
          rw [z, i2] at i1
          cases i1
          simp at hne
        have hil : tgI t ≠ tgI v := fun z => by
          rw [z, i3] at i1
          cases i1
          simp at hne2
        have hjl : tgI u ≠ tgI v := fun z => by
          rw [z, i3] at i2
          cases i2
          simp at hne3
        refine ps_imp (ps_par3 kx.calm kx.nd (by rw [kx.nN]; exact i1) (by rw [kx.nN]; exact i2) (by rw [kx.nN]; exact i3) hij hil hjl (by rw [kx.scp]; exact lx) (by rw [kx.scp]; exact ly) (by rw [kx.scp]; exact lz) pa (swapA3 kx.scp hbk ns2 hnm hne hne2 hne3 hf hcn) hsole) fun D σ H h => ?_
        obtain ⟨A, ρ, s, ds, s', F, e, ho, q⟩ := par_read al ne' h
        refine ⟨A, ρ, s, ds, s', F, e, ho, fun A' vs ks H' F' ke pv hk hn => ?_⟩
        obtain ⟨q1, q2, q3⟩ := q A' vs ks H' F' ke pv hk hn
        match vs, q1, q2 with
        | [a, b, c], _, q2 => exact ⟨a, b, c, rfl, q2⟩
    · cases h4
end
end Snd

/-! ## SndU -/
set_option Elab.async false
set_option linter.all false
set_option maxRecDepth 100000
set_option maxHeartbeats 4000000
/-! SndU: statements by their readings. -/
namespace Snd
open PySem PySem.Spec L2
open PyProof.Rows hiding St
open Mini (E T It Slot)
section
theorem ext_tup (l b : Addr) (xs ys : Array Value) (n m : Nat) (dct : Option Addr) (sl : Array (Option Value)) (h0 : ¬(!xs.isEmpty && Builtin.List.listTooLong (xs.size + ys.size)) = true) (h1 : xs.size ≤ sizeLine) (h2 : xs.size + ys.size ≤ sizeLine + 1) :
    Meets (Builtin.«list.extend» ⟨[.ref l, .ref b], []⟩) (fun _ R s => (s.heap.get? l = some { cls := .type "list", dict := none, data := .seq xs n, slots := #[] } ∧ s.heap.get? b = some { cls := .type "tuple", dict := dct, data := .seq ys m, slots := sl }) ∧
      R (.ok (.ret Value.none)) { s with heap := s.heap.update l (Obj.mapSeq fun x => x ++ ys), toks := s.toks }) :=
  .of_wp fun prog w A R s h => by
    obtain ⟨hp, g, d, tk, os⟩ := s
    obtain ⟨⟨hl, hb⟩, h⟩ := h
    have f1 := AutoSeq1.idx_int
    have f2 := AutoSeq1.sub_tuple_tuple
    have f3 := AutoSeq1.sub_list_list
    have f4 := AutoSeq1.sub_tuple_list
    have f5 := AutoSeq1.sub_list_tuple
    have big : (xs ++ ys).size ≤ sizeLine + 1 := by rw [Array.size_append]; exact h2
    wp_walk using (wpAny_updateSeq hl rfl (hz := h1) (_hz' := big)), AutoSeq1.wpAny_loadPart' hl, AutoSeq1.wpAny_loadPart' hb
    exact ⟨_, rfl, h⟩
end
section
variable {R : Nat} {T : Tab} {Fs : List Mini.Fn} {Gs : List Mini.Gn} {sc st : Scope} {X : Cx} {C : Ctx}
def rExtT : V → List V → Hp → VK → Prop := fun x vs H Q => ∃ l b xs zs, x = .ref l ∧ vs = [.ref b] ∧ H l = some (.lst xs) ∧ H b = some (.tup zs) ∧ xs.length + zs.length ≤ sizeLine ∧ Q .non (upd H l (.lst (xs ++ zs)))
theorem mt_extT : MtR X "list.extend" rExtT := by
  intro pins s σ H x vs v us Q I rx rv h
  obtain ⟨l, b, xs, zs, rfl, rfl, hH, hB, hz, q⟩ := h
  cases rx
  obtain ⟨u, rfl, ru⟩ := rv.one
  cases ru
  obtain ⟨z, its, n, r, hl, e⟩ := I.lstM hH
  obtain ⟨its2, r2, ht, hz2⟩ := I.tuple (SqT.of hB)
  obtain ⟨⟨c, dct, dt, sl⟩, e2, hc, m, hd⟩ := ht
  have hc : c = .type "tuple" := hc
  have hd : dt = .seq its2.toArray m := hd
  subst hc hd
  have l1 := r.length
  have l2 := r2.length
  have fits : its.toArray.size + its2.toArray.size ≤ sizeLine := by rw [List.size_toArray, List.size_toArray]; omega
  have short : ¬ (!its.toArray.isEmpty && Builtin.List.listTooLong (its.toArray.size + its2.toArray.size)) = true := by
    rw [notLongL fits, Bool.and_false]
    exact Bool.false_ne_true
  refine call_meets F.slot_list_extend ⟨_, e, rfl⟩ F.entry_list_extend (F.args_list_extend_2 _ _) (ext_tup l b its.toArray its2.toArray n m dct sl short (by rw [List.size_toArray]; omega) (by omega)) ⟨⟨e, e2⟩, ?_⟩
  exact ⟨.non, _, I.lset (its' := its ++ its2) hH e (by simp) (r.append r2) (by rw [List.length_append]; omega), rfl, q⟩

/-! ### items -/
def rSub : TSet := fun o i v H Q => rSetL o i v H Q ∨ rSetD o i v H Q
theorem set_sub (hr : Room 1 X.A) : PSet X rSub := fun pins s σ H o i v ov iv u Q I r1 r2 r3 h => h.elim (fun h => set_list pins s σ H o i v ov iv u Q I r1 r2 r3 h) fun h => set_dict (by have := hr.un; omega) pins s σ H o i v ov iv u Q I r1 r2 r3 h
theorem ownV {A : Ow} {ρ : Mini.Env} {s : Mini.S} {σ : St} {H : Hp} (F : FR C A ρ s σ H) {i : Nat} {ds : List D} (e : ρ[i]? = some (some (.own ds))) : ∃ a vs, A i = some a ∧ σ[i]? = some (some (.ref a)) ∧ H a = some (.lst vs) ∧ RpL H (OA C A) vs ds := by
  obtain ⟨v, h1, a, vs, h2, rfl, h3, h4⟩ := F.slot _ _ e
  exact ⟨a, vs, h2, h1, h3, h4⟩
theorem ownD {A : Ow} {ρ : Mini.Env} {s : Mini.S} {σ : St} {H : Hp} (F : FR C A ρ s σ H) {i : Nat} {ds : List (D × D)} (e : ρ[i]? = some (some (.ownd ds))) : ∃ a vs, A i = some a ∧ σ[i]? = some (some (.ref a)) ∧ H a = some (.dK vs) ∧ RpK H (OA C A) vs ds := by
  obtain ⟨v, h1, a, vs, h2, rfl, h3, h4⟩ := F.slot _ _ e
  exact ⟨a, vs, h2, h1, h3, h4⟩
/-- what x[k] = v does -/
theorem sub_fr {A : Ow} {ρ ρ' : Mini.Env} {s : Mini.S} {σ : St} {H : Hp} (F : FR C A ρ s σ H) {i : Nat} {kd d : D} {kv v : V} (e : Mini.subSet ρ i kd d = some ρ') (rk : Rp H (OA C A) kv kd) (rv : Rp H (OA C A) v d) {Q : Hp → Prop}
    (q : ∀ H', FR C A ρ' s σ H' → Kf C A A H H' → Q H') : ∃ a, σ[i]? = some (some (.ref a)) ∧ rSub (.ref a) kv v H Q := by
  unfold Mini.subSet at e
  split at e
  · rename_i xs er
    obtain ⟨a, vs, h1, h2, h3, h4⟩ := ownV F er
    cases kd with
    | int j =>
      obtain ⟨n, e1, e2⟩ := Option.bind_eq_some_iff.mp (show ((Mini.ixN xs.length j).bind fun n => Mini.setV ρ i (.own (xs.set n d))) = some ρ' from e)
      obtain ⟨hi, rfl⟩ := setV_some e2
      refine ⟨a, h2, .inl ⟨a, vs, j, n, rfl, rk.intI, h3, by rw [ixN_eq, h4.length]; exact e1, q _ (F.wr h1 er h2 (.inl ⟨_, _, rfl, rfl, RpL.set rv n h4⟩)) (.wr h1)⟩⟩
    | _ => cases e
  · rename_i kvs er
    obtain ⟨a, vs, h1, h2, h3, h4⟩ := ownD F er
    split at e
    · rename_i c
      rw [Bool.and_eq_true, decide_eq_true_eq] at c
      obtain ⟨hi, rfl⟩ := setV_some e
      obtain ⟨kk, ek⟩ := kD_some c.1
      have := bp_key (.of rk) ek
      subst this
      have hL : Mini.LIM = 1000000 := rfl
      refine ⟨a, h2, .inr ⟨a, _, rfl, .inl ⟨vs, kk, h3, rfl, by rw [h4.length, sizeLine_eq]; omega, rfl⟩, q _ (F.wr h1 er h2 (.inr ⟨_, _, rfl, rfl, RpK.put ek rv h4⟩)) (.wr h1)⟩⟩
    · cases e
  · cases e
theorem sub_read {fe fk : Fe} {i : Nat} {D : Ends} {σ : St} {H : Hp} (h : tX C (fun ρ s => (fe ρ s).bind fun p => (fk ρ p.2).bind fun q => Mini.nxt (Mini.subSet ρ i q.1 p.1) q.2) D σ H) :
    tE C fe σ H (fun x H1 => gSub (tVar i) (tE C fk) rSub x σ H1 D.nx) := by
  obtain ⟨A, ρ, s, o, ρ', s', F, e, q⟩ := h
  obtain ⟨⟨d, s1⟩, e1, e⟩ := Option.bind_eq_some_iff.mp e
  obtain ⟨⟨kd, s2⟩, e2, e⟩ := Option.bind_eq_some_iff.mp e
  obtain ⟨e3, rfl, rfl⟩ := nxt_some e
  refine ⟨A, ρ, s, d, s1, F, e1, fun v H1 F1 k1 r1 => ?_⟩
  -- the object stands in its slot
  have hv : ∃ a, σ[i]? = some (some (.ref a)) := by
    have e := e3
    unfold Mini.subSet at e
    split at e
    · rename_i xs er
      obtain ⟨a, vs, h1, h2, h3, h4⟩ := ownV F1 er
      exact ⟨a, h2⟩
    · rename_i xs er
      obtain ⟨a, vs, h1, h2, h3, h4⟩ := ownD F1 er
      exact ⟨a, h2⟩
    · cases e
  obtain ⟨a, ha⟩ := hv
  refine ⟨.ref a, ha, A, ρ, s1, kd, s2, F1, e2, fun w H2 F2 k2 r2 => ?_⟩
  obtain ⟨a', ha', z⟩ := sub_fr (Q := fun H3 => D.nx σ H3) F2 e3 r2 (Rp.mo (mo_kp k2) _ _ r1) fun H3 F3 kf => q A σ H3 F3 (((Kf.of k1).trans (.of k2)).trans kf)
  rw [ha] at ha'
  cases ha'
  exact z

/-! ### op= -/
def augF : Mini.BO → Option (Int → Int → Int)
  | .add => some fun i j => i + j
  | .sub => some fun i j => i - j
  | _ => none
theorem aug_bin {o : Mini.BO} {f : Int → Int → Int} (h : augF o = some f) (i j : Int) : Mini.binD o (.int i) (.int j) = some (.int (f i j)) := by
  cases o <;> cases h <;> rfl
theorem aug_ip {o : Mini.BO} {f : Int → Int → Int} (h : augF o = some f) : PIp X (opB o) (ipI f) := by
  cases o <;> cases h
  · exact ip_add
  · exact ip_sub
theorem augN_read {fe : Fe} {i : Nat} {o : Mini.BO} {f : Int → Int → Int} (hf : augF o = some f) (ne : ∀ j p c, C.sa = some (j, p, c) → j ≠ i) {D : Ends} {σ : St} {H : Hp} (h : tX C (fun ρ s => match ρ[i]? with
    | some (some (.val d)) => (fe ρ s).bind fun p => match d, p.1 with
      | .int _, .int _ => (Mini.binD o d p.1).bind fun r => Mini.nxt (Mini.setV ρ i (.val r)) p.2
      | _, _ => none
    | _ => none) D σ H) : tAug i (tE C fe) (ipI f) D σ H := by
  obtain ⟨A, ρ, s, u, ρ', s', F, e, q⟩ := h
  dsimp only at e
  split at e
  · rename_i d er
    obtain ⟨v, hv, r⟩ := F.slot _ _ er
    obtain ⟨⟨d2, s1⟩, e1, e⟩ := Option.bind_eq_some_iff.mp e
    cases d with
    | int m =>
      cases d2 with
      | int n =>
        obtain ⟨r', e2, e⟩ := Option.bind_eq_some_iff.mp (show ((Mini.binD o (.int m) (.int n)).bind fun r => Mini.nxt (Mini.setV ρ i (.val r)) s1) = some (u, ρ', s') from e)
        rw [aug_bin hf] at e2
        cases e2
        obtain ⟨e3, rfl, rfl⟩ := nxt_some e
        obtain ⟨hi, rfl⟩ := setV_some e3
        exact ⟨v, hv, A, ρ, s, _, s1, F, e1, fun w H1 F1 k1 r1 => ⟨m, n, (show Rp H (OA C A) v (.int m) from r).intI, r1.intI, q A _ H1 (F1.put ne (.int _)) (.of k1)⟩⟩
      | _ => cases e
    | _ => cases e
  · cases e
end
end Snd

/-! ## SndV -/
set_option Elab.async false
set_option linter.all false
set_option maxRecDepth 100000
set_option maxHeartbeats 4000000
/-! SndV: statements are what mini says. -/
namespace Snd
open PySem PySem.Spec L2
open PyProof.Rows hiding St
open Mini (E T It Slot)
section
variable {R : Nat} {T : Tab} {Fs : List Mini.Fn} {Gs : List Mini.Gn} {sc st : Scope} {X : Cx} {C : Ctx}
/-! ### methods of one's own list -/
theorem own_of {ρ : Mini.Env} {i : Nat} {xs : List D} (h : Mini.getOwn ρ i = some xs) : ρ[i]? = some (some (.own xs)) := by
  unfold Mini.getOwn at h
  split at h
  · rename_i e; cases h; exact e
  · cases h
/-- x.m(e): f tells what becomes of the list -/
theorem meth_read {fe : Fe} {i : Nat} {f : List D → D → Option (List D)} {r : V → List V → Hp → VK → Prop} {K : PySem.W.Frag}
    (hr : ∀ (A : Ow) (H : Hp) (a : Addr) (vs : List V) (ds ds' : List D) (v : V) (d : D) (Q : VK), H a = some (.lst vs) → RpL H (OA C A) vs ds → Rp H (OA C A) v d → f ds d = some ds' → (∀ vs', RpL H (OA C A) vs' ds' → Q .non (upd H a (.lst vs'))) → r (.ref a) [v] H Q)
    {D : Ends} {σ : St} {H : Hp} (h : tX C (fun ρ s => (fe ρ s).bind fun p => (Mini.getOwn ρ i).bind fun xs => (f xs p.1).bind fun ys => Mini.nxt (Mini.setV ρ i (.own ys)) p.2) D σ H) :
    tDrop (tBM K "list" r (tVar i) (tCons (tE C fe) tNil)) D σ H := by
  obtain ⟨A, ρ, s, o, ρ', s', F, e, q⟩ := h
  obtain ⟨⟨d, s1⟩, e1, e⟩ := Option.bind_eq_some_iff.mp e
  obtain ⟨xs, e2, e⟩ := Option.bind_eq_some_iff.mp e
  obtain ⟨ys, e3, e⟩ := Option.bind_eq_some_iff.mp e
  obtain ⟨e4, rfl, rfl⟩ := nxt_some e
  obtain ⟨hi, rfl⟩ := setV_some e4
  have er := own_of e2
  obtain ⟨a, vs, h1, h2, h3, h4⟩ := ownV F er
  refine ⟨.ref a, h2, tyV_lst h3, A, ρ, s, d, s1, F, e1, fun v H1 F1 k1 r1 => ?_⟩
  obtain ⟨a', vs', g1, g2, g3, g4⟩ := ownV F1 er
  rw [h2] at g2
  cases g2
  refine hr A H1 a vs' xs ys v d _ g3 g4 r1 e3 fun vs2 rl => ?_
  exact q A σ _ (F1.wr h1 er h2 (.inl ⟨_, _, rfl, rfl, rl⟩)) ((Kf.of k1).trans (.wr h1))
theorem app_read {fe : Fe} {i : Nat} {K : PySem.W.Frag} {D : Ends} {σ : St} {H : Hp} (h : tX C (fun ρ s => (fe ρ s).bind fun p => (Mini.getOwn ρ i).bind fun xs => if xs.length < Mini.LIM then Mini.nxt (Mini.setV ρ i (.own (xs ++ [p.1]))) p.2 else none) D σ H) :
    tDrop (tBM K "list" rAppend (tVar i) (tCons (tE C fe) tNil)) D σ H := by
  refine meth_read (f := fun xs d => if xs.length < Mini.LIM then some (xs ++ [d]) else none) ?_ ?_
  · intro A H a vs ds ds' v d Q h1 h2 h3 h4 q
    split at h4
    · rename_i hl
      cases h4
      have hL : Mini.LIM = 1000000 := rfl
      exact ⟨a, vs, v, rfl, rfl, h1, by rw [h2.length, sizeLine_eq]; omega, q _ (RpL.append (.cons h3 .nil) h2)⟩
    · cases h4
  · obtain ⟨A, ρ, s, o, ρ', s', F, e, q⟩ := h
    refine ⟨A, ρ, s, o, ρ', s', F, ?_, q⟩
    obtain ⟨p, e1, e⟩ := Option.bind_eq_some_iff.mp e
    obtain ⟨xs, e2, e⟩ := Option.bind_eq_some_iff.mp e
    dsimp only
    rw [e1, Option.bind_some, e2, Option.bind_some]
    split at e
    · rename_i hl; rw [if_pos hl]; exact e
    · cases e
theorem ext_read {fe : Fe} {i : Nat} {K : PySem.W.Frag} {D : Ends} {σ : St} {H : Hp} (h : tX C (fun ρ s => (fe ρ s).bind fun p => (Mini.itemsOf p.1).bind fun ys => (Mini.getOwn ρ i).bind fun xs => if xs.length + ys.length ≤ Mini.LIM then Mini.nxt (Mini.setV ρ i (.own (xs ++ ys))) p.2 else none) D σ H) :
    tDrop (tBM K "list" (fun x xs H Q => rExtend x xs H Q ∨ rExtT x xs H Q) (tVar i) (tCons (tE C fe) tNil)) D σ H := by
  refine meth_read (f := fun xs d => (Mini.itemsOf d).bind fun ys => if xs.length + ys.length ≤ Mini.LIM then some (xs ++ ys) else none) ?_ ?_
  · intro A H a vs ds ds' v d Q h1 h2 h3 h4 q
    obtain ⟨ys, e1, h4⟩ := Option.bind_eq_some_iff.mp h4
    split at h4
    · rename_i hl
      cases h4
      have hL : Mini.LIM = 1000000 := rfl
      cases d with
      | lst l =>
        cases e1
        cases h3 with
        | lst n e r => exact .inl ⟨a, _, vs, _, rfl, rfl, h1, e, by rw [h2.length, r.length, sizeLine_eq]; omega, q _ (RpL.append r h2)⟩
      | tup l =>
        cases e1
        cases h3 with
        | tup n e r => exact .inr ⟨a, _, vs, _, rfl, rfl, h1, e, by rw [h2.length, r.length, sizeLine_eq]; omega, q _ (RpL.append r h2)⟩
      | _ => cases e1
    · cases h4
  · obtain ⟨A, ρ, s, o, ρ', s', F, e, q⟩ := h
    refine ⟨A, ρ, s, o, ρ', s', F, ?_, q⟩
    obtain ⟨p, e1, e⟩ := Option.bind_eq_some_iff.mp e
    obtain ⟨ys, e3, e⟩ := Option.bind_eq_some_iff.mp e
    obtain ⟨xs, e2, e⟩ := Option.bind_eq_some_iff.mp e
    dsimp only
    rw [e1, Option.bind_some, e2, Option.bind_some, e3, Option.bind_some]
    split at e
    · rename_i hl; rw [if_pos hl]; exact e
    · cases e
theorem removeL_at {k : Int} : ∀ {ns : List Int} {ys : List D}, Mini.removeL (.int k) (ns.map Mini.D.int) = some ys → ∃ j, ns[j]? = some k ∧ (∀ m : Nat, m < j → ns[m]? ≠ some k) ∧ ys = (ns.eraseIdx j).map Mini.D.int
  | [], ys, h => by cases h
  | n :: ns, ys, h => by
    have h : (match Mini.eqD (.int n) (.int k) with
      | some true => some (ns.map Mini.D.int)
      | some false => (Mini.removeL (.int k) (ns.map Mini.D.int)).map (Mini.D.int n :: ·)
      | none => none) = some ys := h
    rw [show Mini.eqD (.int n) (.int k) = some (n == k) from rfl] at h
    by_cases hn : n = k
    · subst hn
      rw [beq_self_eq_true] at h
      cases h
      exact ⟨0, rfl, fun m hm => by omega, rfl⟩
    · rw [show (n == k) = false from beq_eq_false_iff_ne.mpr hn] at h
      obtain ⟨zs, e, rfl⟩ := Option.map_eq_some_iff.mp h
      obtain ⟨j, h1, h2, rfl⟩ := removeL_at e
      refine ⟨j + 1, by simpa using h1, fun m hm => ?_, rfl⟩
      cases m with
      | zero => simpa using hn
      | succ m => simpa using h2 m (by omega)
theorem rem_read {fe : Fe} {i : Nat} {K : PySem.W.Frag} {D : Ends} {σ : St} {H : Hp} (h : tX C (fun ρ s => (fe ρ s).bind fun p => (Mini.getOwn ρ i).bind fun xs => match p.1, Mini.intsOf xs with
    | .int _, some _ => (Mini.removeL p.1 xs).bind fun ys => Mini.nxt (Mini.setV ρ i (.own ys)) p.2
    | _, _ => none) D σ H) :
    tDrop (tBM K "list" rRemI (tVar i) (tCons (tE C fe) tNil)) D σ H := by
  refine meth_read (f := fun xs d => match d, Mini.intsOf xs with
    | .int _, some _ => Mini.removeL d xs
    | _, _ => none) ?_ ?_
  · intro A H a vs ds ds' v d Q h1 h2 h3 h4 q
    cases d with
    | int k =>
      cases hi : Mini.intsOf ds with
      | none => simp [hi] at h4
      | some ns =>
        simp only [hi] at h4
        have := h3.intI
        subst this
        have := ints_map hi
        subst this
        have := h2.ints hi
        subst this
        obtain ⟨j, e1, e2, rfl⟩ := removeL_at h4
        exact ⟨a, ns, k, j, rfl, rfl, h1, e1, e2, q _ (RpL.ofInts _)⟩
    | _ => simp at h4
  · obtain ⟨A, ρ, s, o, ρ', s', F, e, q⟩ := h
    refine ⟨A, ρ, s, o, ρ', s', F, ?_, q⟩
    obtain ⟨⟨d, s1⟩, e1, e⟩ := Option.bind_eq_some_iff.mp e
    obtain ⟨xs, e2, e⟩ := Option.bind_eq_some_iff.mp e
    dsimp only
    rw [e1, Option.bind_some, e2, Option.bind_some]
    cases d with
    | int k =>
      cases hi : Mini.intsOf xs with
      | none => simp [hi] at e
      | some ns => simp only [hi] at e ⊢; exact e
    | _ => simp at e
theorem pop_read {i j : Nat} {K : PySem.W.Frag} (hij : i ≠ j) (ne : ∀ k p c, C.sa = some (k, p, c) → k ≠ j) {D : Ends} {σ : St} {H : Hp} (h : tX C (fun ρ s => (Mini.getOwn ρ i).bind fun xs => (xs[xs.length - 1]?).bind fun y => (Mini.setV ρ i (.own xs.dropLast)).bind fun ρ => Mini.nxt (Mini.setV ρ j (.val y)) s) D σ H) :
    tAsg (tBM0 K "list" rPop (tVar i)) (gName j) D σ H := by
  obtain ⟨A, ρ, s, o, ρ', s', F, e, q⟩ := h
  obtain ⟨xs, e2, e⟩ := Option.bind_eq_some_iff.mp e
  obtain ⟨y, e3, e⟩ := Option.bind_eq_some_iff.mp e
  obtain ⟨ρ1, e4, e⟩ := Option.bind_eq_some_iff.mp e
  obtain ⟨e5, rfl, rfl⟩ := nxt_some e
  obtain ⟨hi, rfl⟩ := setV_some e4
  obtain ⟨hj, rfl⟩ := setV_some e5
  have er := own_of e2
  obtain ⟨a, vs, h1, h2, h3, h4⟩ := ownV F er
  obtain ⟨v, hv, rv⟩ := h4.get e3
  refine ⟨.ref a, h2, tyV_lst h3, a, vs, v, rfl, rfl, h3, by rw [h4.length]; exact hv, ?_⟩
  have hd : RpL H (OA C A) vs.dropLast xs.dropLast := by
    rw [List.dropLast_eq_take, List.dropLast_eq_take, h4.length]
    exact h4.take _
  have F1 := F.wr h1 er h2 (.inl ⟨_, _, rfl, rfl, hd⟩)
  have m := mo_own (C := C) (H := H) (o := .lst vs.dropLast) h1
  exact q A _ _ (F1.put ne (Rp.mo m _ _ rv)) (.wr h1)

/-! ### for, while -/
theorem kf_jr {A A' : Ow} {H1 H' : Hp} (k : Kf C A A' H1 H') : (∀ b o, H1 b = some o → ¬ OA C A b → H' b = some o) ∧ ∀ b o, H1 b = some o → OA C A' b → OA C A b := by
  refine ⟨fun b o e n => k.1 b o e (fun z => n (.inr (.inl z))) fun i z => n (.inr (.inr ⟨i, z⟩)), fun b o e z => ?_⟩
  rcases z with z | z | ⟨i, z⟩
  · exact .inl z
  · exact .inr (.inl z)
  · rcases k.2 i b z with z | z | z
    · exact .inr (.inr z)
    · rw [z] at e; cases e
    · exact .inr (.inl z)
theorem for_read {fi : Fl} {tg : Mini.T} {body : Fx} {D : Ends} {σ : St} {H : Hp} (h : tX C (fun ρ s => (fi ρ s).bind fun p => Mini.forL body tg p.1 ρ p.2) D σ H) : tFor (tI false C fi) (gT C 9 tg) (tX C body) D σ H := by
  obtain ⟨A, ρ, s, o, ρ', s', F, e, q⟩ := h
  obtain ⟨⟨xs, s1⟩, e1, e⟩ := Option.bind_eq_some_iff.mp e
  refine ⟨A, ρ, s, xs, s1, F, e1, fun J H1 F1 k1 jr => ?_⟩
  refine ⟨fun i m σ' H' => m = xs.length - i ∧ i ≤ xs.length ∧ ∃ Ai ρi si, FR C Ai ρi si σ' H' ∧ Mini.forL body tg (xs.drop i) ρi si = some (o, ρ', s') ∧ Kf C A Ai H1 H', ⟨_, rfl, Nat.zero_le _, A, ρ, s1, F1, e, .refl⟩, ?_⟩
  rintro i m σ' H' ⟨rfl, hi, Ai, ρi, si, Fi, ei, ki⟩
  have kj := kf_jr ki
  have jr' := jr (OA C A) (OA C Ai) H' (fun b o e z => by simpa using z) kj.2 (fun b z => let ⟨o, e, _⟩ := Fi.trk z; ⟨o, e⟩) kj.1
  by_cases hlt : i < xs.length
  · right
    have hx : xs[i]? = some xs[i] := List.getElem?_eq_getElem hlt
    obtain ⟨hgo, hy⟩ := jr'.1 i _ hx
    rw [List.drop_eq_getElem_cons hlt] at ei
    generalize xs[i] = x at hx hy ei
    obtain ⟨ρ2, eb, ei⟩ := Option.bind_eq_some_iff.mp (show ((Mini.bindT 9 tg x ρi).bind fun ρ => (body ρ si).bind fun
      | (.nx, ρ, s) => Mini.forL body tg (xs.drop (i + 1)) ρ s
      | (.ct, ρ, s) => Mini.forL body tg (xs.drop (i + 1)) ρ s
      | (.bk, ρ, s) => some (.nx, ρ, s)
      | r => some r) = some (o, ρ', s') from ei)
    obtain ⟨⟨ob, ρ3, s3⟩, ebd, ei⟩ := Option.bind_eq_some_iff.mp ei
    refine ⟨hgo, fun σ' H' => i + 1 ≤ xs.length ∧ ∃ Ai ρi si, FR C Ai ρi si σ' H' ∧ Mini.forL body tg (xs.drop (i + 1)) ρi si = some (o, ρ', s') ∧ Kf C A Ai H1 H', fun σ' H' z => ⟨xs.length - (i + 1), by omega, rfl, z.1, z.2⟩, fun y H2 hyy => ?_⟩
    obtain ⟨sm, ry⟩ := hy y H2 hyy
    have F2 := Fi.same sm
    refine ⟨Ai, ρi, si, x, ρ2, F2, ry, eb, fun σ2 F3 _ => ⟨Ai, ρ2, si, ob, ρ3, s3, F3, ebd, fun A4 σ4 H4 F4 k4 => ?_⟩⟩
    have k14 : Kf C A A4 H1 H4 := (ki.trans (.of (.of sm))).trans k4
    cases ob with
    | nx => exact ⟨hlt, A4, ρ3, s3, F4, ei, k14⟩
    | ct => exact ⟨hlt, A4, ρ3, s3, F4, ei, k14⟩
    | bk =>
      cases ei
      exact q A4 σ4 H4 F4 ((Kf.of k1).trans k14)
    | rt d =>
      cases ei
      exact q A4 σ4 H4 F4 ((Kf.of k1).trans k14)
  · left
    have hie : i = xs.length := by omega
    rw [List.drop_eq_nil_of_le (by omega)] at ei
    have ei : some (Mini.Out.nx, ρi, si) = some (o, ρ', s') := ei
    cases ei
    exact ⟨jr'.2 i (by omega), q Ai σ' H' Fi ((Kf.of k1).trans ki)⟩
theorem while_read {test : Mini.Env → Mini.S → Option (Bool × Mini.S)} {body : Fx} {m : Nat} {D : Ends} {σ : St} {H : Hp} (h : tX C (fun ρ s => Mini.whileL test body m ρ s) D σ H) : tWhile (tB C test) (tX C body) D σ H := by
  obtain ⟨A, ρ, s, o, ρ', s', F, e, q⟩ := h
  refine ⟨fun n σ' H' => ∃ Ai ρi si, FR C Ai ρi si σ' H' ∧ Mini.whileL test body n ρi si = some (o, ρ', s') ∧ Kf C A Ai H H', ⟨m, A, ρ, s, F, e, .refl⟩, ?_⟩
  rintro n σ1 H1 ⟨Ai, ρi, si, Fi, ei, ki⟩
  cases n with
  | zero => cases ei
  | succ n =>
    obtain ⟨⟨b, s2⟩, et, ei⟩ := Option.bind_eq_some_iff.mp (show ((test ρi si).bind fun p => if p.1 then (body ρi p.2).bind fun
      | (.nx, ρ, s) => Mini.whileL test body n ρ s
      | (.ct, ρ, s) => Mini.whileL test body n ρ s
      | (.bk, ρ, s) => some (.nx, ρ, s)
      | r => some r
      else some (.nx, ρi, p.2)) = some (o, ρ', s') from ei)
    refine ⟨Ai, ρi, si, b, s2, Fi, et, fun H2 F2 k2 => ?_⟩
    cases b with
    | true =>
      simp only [if_true] at ei
      obtain ⟨⟨ob, ρ3, s3⟩, ebd, ei⟩ := Option.bind_eq_some_iff.mp ei
      refine ⟨fun σ' H' => ∃ Ai ρi si, FR C Ai ρi si σ' H' ∧ Mini.whileL test body n ρi si = some (o, ρ', s') ∧ Kf C A Ai H H', fun σ' H' z => ⟨n, Nat.lt_succ_self n, z⟩, Ai, ρi, s2, ob, ρ3, s3, F2, ebd, fun A4 σ4 H4 F4 k4 => ?_⟩
      have k14 : Kf C A A4 H H4 := (ki.trans (.of k2)).trans k4
      cases ob with
      | nx => exact ⟨A4, ρ3, s3, F4, ei, k14⟩
      | ct => exact ⟨A4, ρ3, s3, F4, ei, k14⟩
      | bk =>
        cases ei
        exact q A4 σ4 H4 F4 k14
      | rt d =>
        cases ei
        exact q A4 σ4 H4 F4 k14
    | false =>
      simp only [Bool.false_eq_true, if_false] at ei
      cases ei
      exact q Ai σ1 H2 F2 (ki.trans (.of k2))
theorem ret_read {fe : Fe} {D : Ends} {σ : St} {H : Hp} (h : tX C (fun ρ s => (fe (Mini.freezeAll ρ) s).bind fun p => some (.rt p.1, ρ, p.2)) D σ H) : tRet (tE C fe) D σ H := by
  obtain ⟨A, ρ, s, o, ρ', s', F, e, q⟩ := h
  obtain ⟨⟨d, s1⟩, e1, e⟩ := Option.bind_eq_some_iff.mp e
  cases e
  refine ⟨_, _, s, d, s1, F.frzAll, e1, fun v H1 F1 k1 r1 => ?_⟩
  exact q A σ H1 (F.step k1 (F.src.of F1.src)) (.of k1) v (Rp.mo (mo_less fun a z => z.elim .inl fun z => .inr (.inl z)) _ _ r1)
end
end Snd

/-! ## SndW -/
set_option Elab.async false
set_option linter.all false
set_option maxRecDepth 100000
set_option maxHeartbeats 4000000
/-! SndW: statements are what mini says: the theorem. -/
namespace Snd
open PySem PySem.Spec L2
open PyProof.Rows hiding St
open Mini (E T It Slot)
/-! ### the forms -/
def asgX (f : Expr → Expr → Bool) : Stmt → Bool
  | .Assign [tg] e _ => f tg e
  | _ => false
/-- name = e: plain, or a comprehension to a local on one line, or to a cell -/
def setX (sc : Scope) (f : Expr → Expr → Bool) : Stmt → Bool
  | .Assign [.Name y p] e _ => f (.Name y p) e && (!isComp e || (match sc.names.lookup y with
      | some .cell => true
      | some .local => (match e with
        | .ListComp _ _ s q => (p.line == q.line) && !(s.names.any fun (n, k) => n == y && (k == .local || k == .cell))
        | _ => false)
      | _ => false))
  | _ => false
def subX (f g h : Expr → Bool) : Stmt → Bool
  | .Assign [.Subscript o k _] e _ => f o && g k && notSlice k && h e
  | _ => false
def augX (o : Operator) (f g : Expr → Bool) : Stmt → Bool
  | .AugAssign (.Name y p) op e _ => decide (op = o) && f (.Name y p) && g e
  | _ => false
def exprX (f : Expr → Bool) : Stmt → Bool
  | .Expr e _ => f e && !isComp e
  | _ => false
def popX (f g : Expr → Bool) : Stmt → Bool
  | .Assign [.Name y p] (.Call (.Attribute o name ap) [] [] cp) _ => decide (name = ("pop" : Str)) && f (.Name y p) && g o && (ap.endLine == cp.line)
  | _ => false
def ifX (f : Expr → Bool) (g h : List Stmt → Bool) : Stmt → Bool
  | .If c a b _ => f c && g a && h b
  | _ => false
def forX (f : Expr → Expr → Bool) (g : List Stmt → Bool) : Stmt → Bool
  | .For tg it b [] _ => f tg it && g b && notSet it
  | _ => false
def whileX (f : Expr → Bool) (g : List Stmt → Bool) : Stmt → Bool
  | .While c b [] _ => f c && g b
  | _ => false
def retX (f : Option Expr → Bool) : Stmt → Bool
  | .Return e _ => f e
  | _ => false
def isPass : Stmt → Bool
  | .Pass _ => true
  | _ => false
def isBrk : Stmt → Bool
  | .Break _ => true
  | _ => false
def isCont : Stmt → Bool
  | .Continue _ => true
  | _ => false
/-- source['key'] = e -/
def srcSetX (T : Tab) (sc : Scope) (key : Str) (f : Expr → Bool) : Stmt → Bool
  | .Assign [.Subscript o (.Constant (.str y) _ _) _] e _ => nm T sc T.si o && decide (y = key) && f e
  | _ => false
/-- source['left'] = source['cells'].pop() -/
def srcPopX (T : Tab) (sc : Scope) : Stmt → Bool
  | .Assign [.Subscript o (.Constant (.str y) _ _) _] (.Call (.Attribute z name ap) [] [] cp) _ => nm T sc T.si o && decide (y = ("left" : Str)) && decide (name = ("pop" : Str)) && srcX T sc "cells" z && (ap.endLine == cp.line)
  | _ => false
/-- x = x if c else [] -/
def orNilX (f g h : Expr → Bool) : Stmt → Bool
  | .Assign [.Name y p] (.IfExp c z (.List [] _) _) _ => f (.Name y p) && g z && h c
  | _ => false
def isCmp : E → Bool
  | .comp _ _ _ _ _ => true
  | _ => false
def mSt (T : Tab) (n : Nat) (blk : List Mini.St → List Stmt → Bool) (sc : Scope) (s : Mini.St) (x : Stmt) : Bool := match s with
  | .set i e => setX sc (fun tg e' => nmS T sc i tg && (!isComp e' || isCmp e) && mE T n sc sc e e') x
  | .setO i e => setX sc (fun tg e' => nmS T sc i tg && (!isComp e' || isCmp e) && Mini.fresh e && mE T n sc sc e e') x
  | .unpack ts e => asgX (fun tg e' => isTupX tg && mTg T sc 9 (.tup ts) tg && !isTupX e' && mE T n sc sc e e') x
  | .par ts es => parX (fun xs es' => mTs2 T sc ts xs && mP (mE T n sc sc) ts es es' && decide (ts.length ≤ 20) && (swapB sc xs es' || swapA sc xs es')) x
  | .sub i k e => subX (nm T sc i) (mE T n sc sc k) (mE T n sc sc e) x
  | .augN i o e => (augF o).isSome && augX (opB o) (nmS T sc i) (mE T n sc sc e) x
  | .augI _ _ _ _ => false
  | .append i e => exprX (methX "append" (nm T sc i) (mE T n sc sc e)) x
  | .extend i e => exprX (methX "extend" (nm T sc i) (mE T n sc sc e)) x
  | .remove i e => exprX (methX "remove" (nm T sc i) (mE T n sc sc e)) x
  | .popTo j i => popX (nmS T sc j) (nm T sc i) x
  | .expr e => exprX (mE T n sc sc e) x
  | .freeze _ => false
  | .iff c a b => ifX (mE T n sc sc c) (blk a) (blk b) x
  | .for_ tg it b => forX (fun tg' it' => mTg T sc 9 tg tg' && mI T sc (mE T n sc sc) it tg' it') (blk b) x
  | .while_ c _ b => whileX (mE T n sc sc c) (blk b) x
  | .ret none => retX (fun e => e.isNone) x
  | .ret (some e) => retX (optX (mE T n sc sc) (some e)) x
  | .pass => isPass x
  | .brk => isBrk x
  | .cont => isCont x
  | .never => true
  | .srcSet k e => decide (T.gN ≠ []) && srcSetX T sc (srcKey k) (mE T n sc sc e) x
  | .srcPop => decide (T.gN ≠ []) && srcPopX T sc x
  | .orNil i c => orNilX (nmS T sc i) (nm T sc i) (mE T n sc sc c) x
def mB (T : Tab) (one : Mini.St → Stmt → Bool) : List Mini.St → List Stmt → Bool
  | [], [] => true
  | s :: r, xs => match s with
    | .freeze i => decide (i ≠ T.si) && mB T one r xs
    | s => match xs with
      | x :: xs => one s x && mB T one r xs
      | [] => false
  | [], _ :: _ => false
def mSs (T : Tab) (n : Nat) (sc : Scope) : Nat → List Mini.St → List Stmt → Bool
  | 0 => fun _ _ => false
  | m + 1 => mB T (mSt T n (mSs T n sc m) sc)
section
variable {R : Nat} {T : Tab} {Fs : List Mini.Fn} {Gs : List Mini.Gn} {sc st : Scope} {X : Cx} {C : Ctx}
theorem asgX_of {f : Expr → Expr → Bool} {x : Stmt} (h : asgX f x = true) : ∃ tg e pos, x = .Assign [tg] e pos ∧ f tg e = true := by
  unfold asgX at h
  split at h
  · exact ⟨_, _, _, rfl, h⟩
  · cases h
theorem subX_of {f g k : Expr → Bool} {x : Stmt} (h : subX f g k x = true) : ∃ o i p e pos, x = .Assign [.Subscript o i p] e pos ∧ f o = true ∧ g i = true ∧ notSlice i = true ∧ k e = true := by
  unfold subX at h
  split at h
  · simp only [Bool.and_eq_true] at h
    exact ⟨_, _, _, _, _, rfl, h.1.1.1, h.1.1.2, h.1.2, h.2⟩
  · cases h
theorem augX_of {o : Operator} {f g : Expr → Bool} {x : Stmt} (h : augX o f g x = true) : ∃ y p e pos, x = .AugAssign (.Name y p) o e pos ∧ f (.Name y p) = true ∧ g e = true := by
  unfold augX at h
  split at h
  · simp only [Bool.and_eq_true, decide_eq_true_eq] at h
    obtain ⟨⟨rfl, h1⟩, h2⟩ := h
    exact ⟨_, _, _, _, rfl, h1, h2⟩
  · cases h
theorem exprX_of {f : Expr → Bool} {x : Stmt} (h : exprX f x = true) : ∃ e pos, x = .Expr e pos ∧ f e = true ∧ isComp e = false := by
  unfold exprX at h
  split at h
  · rw [Bool.and_eq_true, Bool.not_eq_true'] at h
    exact ⟨_, _, rfl, h.1, h.2⟩
  · cases h
theorem popX_of {f g : Expr → Bool} {x : Stmt} (h : popX f g x = true) : ∃ y p o ap cp pos, x = .Assign [.Name y p] (.Call (.Attribute o ("pop" : Str) ap) [] [] cp) pos ∧ f (.Name y p) = true ∧ g o = true ∧ (ap.endLine == cp.line) = true := by
  unfold popX at h
  split at h
  · simp only [Bool.and_eq_true, decide_eq_true_eq] at h
    obtain ⟨⟨⟨rfl, h1⟩, h2⟩, h3⟩ := h
    exact ⟨_, _, _, _, _, _, rfl, h1, h2, h3⟩
  · cases h
theorem ifX_of {f : Expr → Bool} {g k : List Stmt → Bool} {x : Stmt} (h : ifX f g k x = true) : ∃ c a b pos, x = .If c a b pos ∧ f c = true ∧ g a = true ∧ k b = true := by
  unfold ifX at h
  split at h
  · simp only [Bool.and_eq_true] at h
    exact ⟨_, _, _, _, rfl, h.1.1, h.1.2, h.2⟩
  · cases h
theorem forX_of {f : Expr → Expr → Bool} {g : List Stmt → Bool} {x : Stmt} (h : forX f g x = true) : ∃ tg it b pos, x = .For tg it b [] pos ∧ f tg it = true ∧ g b = true ∧ notSet it = true := by
  unfold forX at h
  split at h
  · simp only [Bool.and_eq_true] at h
    exact ⟨_, _, _, _, rfl, h.1.1, h.1.2, h.2⟩
  · cases h
theorem whileX_of {f : Expr → Bool} {g : List Stmt → Bool} {x : Stmt} (h : whileX f g x = true) : ∃ c b pos, x = .While c b [] pos ∧ f c = true ∧ g b = true := by
  unfold whileX at h
  split at h
  · simp only [Bool.and_eq_true] at h
    exact ⟨_, _, _, rfl, h.1, h.2⟩
  · cases h
theorem retX_of {f : Option Expr → Bool} {x : Stmt} (h : retX f x = true) : ∃ e pos, x = .Return e pos ∧ f e = true := by
  unfold retX at h
  split at h
  · exact ⟨_, _, rfl, h⟩
  · cases h
theorem srcSetX_of {key : Str} {f : Expr → Bool} {x : Stmt} (h : srcSetX T sc key f x = true) : ∃ o i p q e pos, x = .Assign [.Subscript o (.Constant (.str key) i p) q] e pos ∧ nm T sc T.si o = true ∧ f e = true := by
  unfold srcSetX at h
  split at h
  · simp only [Bool.and_eq_true, decide_eq_true_eq] at h
    obtain ⟨⟨h1, rfl⟩, h2⟩ := h
    exact ⟨_, _, _, _, _, _, rfl, h1, h2⟩
  · cases h
theorem srcPopX_of {x : Stmt} (h : srcPopX T sc x = true) : ∃ o i p q z ap cp pos, x = .Assign [.Subscript o (.Constant (.str ("left" : Str)) i p) q] (.Call (.Attribute z ("pop" : Str) ap) [] [] cp) pos ∧ nm T sc T.si o = true ∧ srcX T sc "cells" z = true ∧ (ap.endLine == cp.line) = true := by
  unfold srcPopX at h
  split at h
  · simp only [Bool.and_eq_true, decide_eq_true_eq] at h
    obtain ⟨⟨⟨⟨h1, rfl⟩, rfl⟩, h2⟩, h3⟩ := h
    exact ⟨_, _, _, _, _, _, _, _, rfl, h1, h2, h3⟩
  · cases h
theorem srcK_put (c : Addr) (S : Mini.Src) (k : Nat) (i : Int) : L2.putK (srcK c S) (Sum.inr (srcKey k)) (.int i) = srcK c (S.put k i) := by
  match k with
  | 0 => rfl
  | 1 => rfl
  | _ + 2 => rfl
/-- the draws' own dict is written -/
theorem FR.srcW {A : Ow} {ρ : Mini.Env} {S S' : Mini.Src} {σ : St} {H H' : Hp} (F : FR C A ρ (some S) σ H) {i : Nat} {p c : Addr} (hs : C.sa = some (i, p, c)) (hk : ∀ b, b ≠ p → b ≠ c → H' b = H b) (hat : SrcAt H' p c S') : FR C A ρ (some S') σ H' ∧ Kp C H H' := by
  have kp : Kp C H H' := fun b o e n => by rw [hk b (fun z => n ⟨i, p, c, hs, .inl z⟩) fun z => n ⟨i, p, c, hs, .inr z⟩]; exact e
  refine ⟨F.step kp ?_, kp⟩
  obtain ⟨S0, _, h1, _⟩ := F.srcS hs
  unfold SrcR
  rw [hs]
  exact ⟨h1, hat⟩
theorem orNilX_of {f g k : Expr → Bool} {x : Stmt} (h : orNilX f g k x = true) : ∃ y p c z q r pos, x = .Assign [.Name y p] (.IfExp c z (.List [] q) r) pos ∧ f (.Name y p) = true ∧ g z = true ∧ k c = true := by
  unfold orNilX at h
  split at h
  · simp only [Bool.and_eq_true] at h
    exact ⟨_, _, _, _, _, _, _, rfl, h.1.1, h.1.2, h.2⟩
  · cases h
theorem orNil_ps (kc : COk T C) (ky : YOk R T Fs Gs sc X) {n : Nat} {i : Nat} {c : E} {x : Stmt} {ex : Mini.Ex} (h : orNilX (nmS T sc i) (nm T sc i) (mE T n sc sc c) x = true) : PS X x (tX C fun ρ s => Mini.stepS (Mini.ev Fs Gs n) ex ρ (.orNil i c) s) := by
  have kx := ky.x
  obtain ⟨y, p, c', z, q1, q2, pos, rfl, h1, h2, h3⟩ := orNilX_of h
  have so := mE_so (C := C) kc n X sc sc c c' kx h3
  obtain ⟨y', p', ez, hn, hs, ne⟩ := nmS_of h1
  cases ez
  refine ps_imp (own_ps kx hn hs (pe_ifExp so.pt (nm_pe kx h2) (pe_lst pa_nil)) (.inl rfl)) fun D σ H ⟨A, ρ, s, o, ρ', s', F, e1, q⟩ => ?_
  obtain ⟨⟨d, s1⟩, e2, e1⟩ := Option.bind_eq_some_iff.mp (show ((Mini.ev Fs Gs n ρ c s).bind fun p => (Mini.asBl p.1).bind fun b => (Mini.getOwn ρ i).bind fun _ => if b then some (Mini.Out.nx, ρ, p.2) else Mini.nxt (Mini.setV ρ i (.own [])) p.2) = some (o, ρ', s') from e1)
  obtain ⟨b, e3, e1⟩ := Option.bind_eq_some_iff.mp e1
  obtain ⟨xs, e4, e1⟩ := Option.bind_eq_some_iff.mp e1
  cases asBl_some e3
  refine ⟨A, ρ, s, b, s1, F, tst_of e2, fun H1 F1 k1 => ?_⟩
  cases b with
  | true =>
    simp only [if_true] at e1
    cases e1
    have er : ρ[i]? = some (some (.own xs)) := by
      unfold Mini.getOwn at e4
      split at e4
      · rename_i e; cases e4; exact e
      · cases e4
    obtain ⟨v, g1, a, vs, g2, rfl, g3, g4⟩ := F1.slot _ _ er
    have same : σ.set i (some (V.ref a)) = σ := by
      apply List.ext_getElem?
      intro j
      by_cases hj : i = j
      · subst hj
        rw [List.getElem?_set_self (List.getElem?_eq_some_iff.mp g1).1, g1]
      · rw [List.getElem?_set_ne hj]
    refine ⟨.ref a, g1, ?_⟩
    show D.nx (σ.set i (some (V.ref a))) H1
    rw [same]
    exact q A σ H1 F1 (.of k1)
  | false =>
    simp only [Bool.false_eq_true, if_false] at e1
    obtain ⟨e5, rfl, rfl⟩ := nxt_some e1
    obtain ⟨hi, rfl⟩ := setV_some e5
    refine ⟨Nat.zero_le _, fun pa hp => ?_⟩
    have nw : Nw H1 (upd H1 pa (.lst [])) (OA C A) (.ref pa) (.lst []) := nw_lst hp .nil
    obtain ⟨k0, p0, ep, hk, hl, hp0, F2, kf, hself, new⟩ := new_own F1 (F1.same (same_upd hp)) (.of (same_upd hp)) nw (x := .own []) rfl
    cases ep
    exact q _ _ _ (F2.move hself hl hi (kc.ne ne) new) (((Kf.of k1).trans kf).trans (.mv hself))
theorem srcSet_ps (kc : COk T C) (ky : YOk R T Fs Gs sc X) {n : Nat} {k : Nat} {e : E} {x : Stmt} {ex : Mini.Ex} (hg : T.gN ≠ []) (h : srcSetX T sc (srcKey k) (mE T n sc sc e) x = true) : PS X x (tX C fun ρ s => Mini.stepS (Mini.ev Fs Gs n) ex ρ (.srcSet k e) s) := by
  have kx := ky.x
  obtain ⟨o, i, p, q, e', pos, rfl, h1, h2⟩ := srcSetX_of h
  obtain ⟨pa, c, hs⟩ := kc.has hg
  have so := mE_so kc n X sc sc e e' kx h2
  refine ps_imp (ps_asg so.pe (pg_sub (nm_pe kx h1) pe_str (set_dict (by have := kx.room1.un; omega)) fun _ => rfl) (sole_no fun _ _ z => nomatch z) (by cases e' <;> rfl) rfl) fun D σ H ⟨A, ρ, s, o, ρ', s', F, e1, q⟩ => ?_
  obtain ⟨⟨d, s1⟩, e2, e1⟩ := Option.bind_eq_some_iff.mp (show ((Mini.ev Fs Gs n ρ e s).bind fun p => match p.1, p.2 with
    | .int i, some S => some (Mini.Out.nx, ρ, some (S.put k i))
    | _, _ => none) = some (o, ρ', s') from e1)
  refine ⟨A, ρ, s, d, s1, F, e2, fun v H1 F1 k1 r1 => ?_⟩
  obtain ⟨S, rfl, g1, g2, g3, g4⟩ := F1.srcS hs
  cases d with
  | int i =>
    cases e1
    refine ⟨.ref pa, g1, pa, _, rfl, DPut.k (k := Sum.inr (srcKey k)) g3 (by show 4 < sizeLine; rw [sizeLine_eq]; omega), ?_⟩
    rw [r1.intI, srcK_put]
    obtain ⟨F2, kp⟩ := F1.srcW (S' := S.put k i) hs (H' := upd H1 pa (.dK (srcK c (S.put k i)))) (fun b n1 n2 => upd_ne n1) ⟨g2, upd_same, by
      rw [upd_ne (Ne.symm g2), g4]
      match k with
      | 0 => rfl
      | 1 => rfl
      | _ + 2 => rfl⟩
    exact q A σ _ F2 ((Kf.of k1).trans (.of kp))
  | _ => cases e1
theorem srcPop_ps (kc : COk T C) (ky : YOk R T Fs Gs sc X) {n : Nat} {x : Stmt} {ex : Mini.Ex} (hg : T.gN ≠ []) (h : srcPopX T sc x = true) : PS X x (tX C fun ρ s => Mini.stepS (Mini.ev Fs Gs n) ex ρ .srcPop s) := by
  have kx := ky.x
  obtain ⟨o, i, p, q, z, ap, cp, pos, rfl, h1, h2, hl⟩ := srcPopX_of h
  obtain ⟨pa, c, hs⟩ := kc.has hg
  have hb : attributeBase z ("pop" : Str) X.env (eval z X.env) = eval z X.env := by
    obtain ⟨_, _, _, _, rfl, _⟩ := srcX_of h2
    rfl
  refine ps_imp (ps_asg (pe_bm0 PySem.F.plainAttrs_list PySem.F.slot_list_pop PySem.F.type_list_pop mt_pop (srcV_pe (C := C) kx h2) hb hl) (pg_sub (nm_pe kx h1) pe_str (set_dict (by have := kx.room1.un; omega)) fun _ => rfl) (sole_no fun _ _ z => nomatch z) rfl rfl) fun D σ H ⟨A, ρ, s, o, ρ', s', F, e1, q⟩ => ?_
  obtain ⟨S, rfl, g1, g2, g3, g4⟩ := F.srcS hs
  obtain ⟨i, e2, e1⟩ := Option.bind_eq_some_iff.mp (show ((S.cells[S.cells.length - 1]?).bind fun i => some (Mini.Out.nx, ρ, some { S with cells := S.cells.dropLast, left := i })) = some (o, ρ', s') from e1)
  cases e1
  have hv : (S.cells.map V.int)[(S.cells.map V.int).length - 1]? = some (.int i) := by rw [List.length_map, List.getElem?_map, e2]; rfl
  refine ⟨A, ρ, S, pa, c, F, hs, _, srcK_cells c S, tyV_lst g4, c, _, _, rfl, rfl, g4, hv, .ref pa, g1, pa, _, rfl, DPut.k (k := Sum.inr ("left" : Str)) (by rw [upd_ne g2]; exact g3) (by show 4 < sizeLine; rw [sizeLine_eq]; omega), ?_⟩
  rw [show L2.putK (srcK c S) (Sum.inr ("left" : Str)) (.int i) = srcK c { S with cells := S.cells.dropLast, left := i } from rfl]
  obtain ⟨F2, kp⟩ := F.srcW (S' := { S with cells := S.cells.dropLast, left := i }) hs (H' := upd (upd H c (.lst (S.cells.map V.int).dropLast)) pa (.dK (srcK c { S with cells := S.cells.dropLast, left := i }))) (fun b n1 n2 => by rw [upd_ne n1, upd_ne n2]) ⟨g2, upd_same, by
    rw [upd_ne (Ne.symm g2), upd_same, List.map_dropLast]⟩
  exact q A σ _ F2 (.of kp)
theorem setX_ps (kx : XOk R T Fs Gs sc sc X) (hk : sc.kind = .function) {f : Expr → Expr → Bool} {x : Stmt} {i : Nat} (h : setX sc f x = true) (hf : ∀ tg e, f tg e = true → nmS T sc i tg = true) : ∃ tg e pos, x = .Assign [tg] e pos ∧ f tg e = true ∧ ∀ {te : TE}, PE X e te →
    (∀ {elt tg' it : Expr} {ifs : List Expr} {s : Scope} {p : Pos}, e = .ListComp elt [⟨tg', it, ifs, 0⟩] s p → ∃ (own : List (Str × Nat)) (wi : TI) (g : TG) (tt : TT) (te' : TE), te = tLc wi g tt te' (own.map (·.2)) ∧ PI X tg' it wi ∧ BlkOk X.N X.env.scope s own ∧
      (∀ (s' : Shared) (H : Hp) (Ca : Addr) (cl : List (Str × Addr)) (fp : List Addr), PG (X.blk s' H s (compEnvC s cl Ca X.env) fp) tg' g) ∧ (∀ (s' : Shared) (H : Hp) (Ca : Addr) (cl : List (Str × Addr)) (fp : List Addr), PTs (X.blk s' H s (compEnvC s cl Ca X.env) fp) ifs tt) ∧
      (∀ (s' : Shared) (H : Hp) (Ca : Addr) (cl : List (Str × Addr)) (fp : List Addr), PE (X.blk s' H s (compEnvC s cl Ca X.env) fp) elt te') ∧ ∀ x, foldedSetIterable it X.env x = pure x) →
    (isComp e = true → ∃ elt tg' it ifs s p, e = .ListComp elt [⟨tg', it, ifs, 0⟩] s p) → PS X (.Assign [tg] e pos) (tAsg te (gName i)) := by
  unfold setX at h
  split at h
  case h_2 => cases h
  rename_i y p e pos
  rw [Bool.and_eq_true] at h
  obtain ⟨h1, h2⟩ := h
  obtain ⟨y', p', z, hn, hs, _⟩ := nmS_of (hf _ _ h1)
  cases z
  refine ⟨_, _, _, rfl, h1, fun {te} he hc hl => ?_⟩
  cases hcomp : isComp e with
  | false => exact own_ps kx hn hs he (.inl hcomp)
  | true =>
    rw [hcomp] at h2
    simp only [Bool.not_true, Bool.false_or] at h2
    split at h2
    · rename_i hcell
      exact own_ps kx hn hs he (.inr hcell)
    · rename_i hloc
      obtain ⟨elt, tg', it, ifs, s, q, rfl⟩ := hl hcomp
      obtain ⟨own, wi, g, tt, te', rfl, a1, a2, a3, a4, a5, a6⟩ := hc rfl
      simp only [Bool.and_eq_true, Bool.not_eq_true'] at h2
      have hloc' : X.env.scope.names.lookup y = some .local := by rw [kx.scp]; exact hloc
      exact ps_setLc kx.calm kx.nd (by rw [kx.nN]; exact hn) hloc' (sw_true (by rw [kx.scp]; exact hk) hloc' h2.1 h2.2) a1 a2 a3 a4 a5 a6
    · cases h2
theorem setC (kc : COk T C) (kx : XOk R T Fs Gs sc sc X) {n : Nat} {e : E} {x : Expr} (h : mE T n sc sc e x = true) (hc : isComp x = true) (hE : isCmp e = true) :
    ∃ elt tg' it ifs s p, x = .ListComp elt [⟨tg', it, ifs, 0⟩] s p ∧ ∃ elt2 tg2 it2 vs2 ifs2 m, e = .comp elt2 tg2 it2 vs2 ifs2 ∧ n = m + 1 ∧ LcOk T sc sc X C (Mini.ev Fs Gs m) elt2 tg2 it2 vs2 ifs2 elt tg' it ifs s := by
  cases n with
  | zero => cases h
  | succ m =>
    cases e with
    | comp elt2 tg2 it2 vs2 ifs2 =>
      obtain ⟨elt', tg', it', ifs', scope, p, rfl, h⟩ := compX_of (show compX _ x = true from h)
      exact ⟨_, _, _, _, _, _, rfl, _, _, _, _, _, m, rfl, rfl, lcOk kc (fun X sc st e x kx h => mE_so kc m X sc st e x kx h) kx h⟩
    | _ => cases hE
/-- one statement -/
theorem mSt_ps (kc : COk T C) (ky : YOk R T Fs Gs sc X) {n : Nat} {blk : List Mini.St → List Stmt → Bool} {ex : Mini.Ex} (ihB : ∀ b xs, blk b xs = true → PSs X xs (tX C fun ρ s => ex ρ b s)) {z : Mini.St} {x : Stmt} (h : mSt T n blk sc z x = true) :
    PS X x (tX C fun ρ s => Mini.stepS (Mini.ev Fs Gs n) ex ρ z s) := by
  have kx := ky.x
  have so : ∀ {e x}, mE T n sc sc e x = true → So X C (Mini.ev Fs Gs n) e x := fun {e x} h => mE_so kc n X sc sc e x kx h
  cases z with
  | set i e =>
    obtain ⟨tg, e', pos, rfl, hf, mk⟩ := setX_ps kx ky.knd (show setX sc (fun tg e' => nmS T sc i tg && (!isComp e' || isCmp e) && mE T n sc sc e e') x = true from h) (fun tg e hh => by simp only [Bool.and_eq_true] at hh; exact hh.1.1)
    simp only [Bool.and_eq_true] at hf
    obtain ⟨y, p, rfl, hn, hs, ne⟩ := nmS_of hf.1.1
    have ne' := kc.ne ne
    cases hc : isComp e' with
    | false => exact ps_imp (mk (so hf.2).pe (fun {_ _ _ _ _ _} z => by rw [z] at hc; cases hc) fun z => by rw [hc] at z; cases z) fun D σ H h => set_read ne' h
    | true =>
      have hE : isCmp e = true := by have := hf.1.2; rw [hc] at this; simpa using this
      obtain ⟨elt, tg', it, ifs, s, p2, rfl, elt2, tg2, it2, vs2, ifs2, m, rfl, rfl, lk⟩ := setC (Fs := Fs) (Gs := Gs) kc kx hf.2 hc hE
      refine ps_imp (mk (pe_lc kx.calm kx.nd lk.pi lk.ok lk.pg lk.pt lk.pe lk.fold) (fun {_ _ _ _ _ _} z => by cases z; exact ⟨_, _, _, _, _, rfl, lk.pi, lk.ok, lk.pg, lk.pt, lk.pe, lk.fold⟩) fun _ => ⟨_, _, _, _, _, _, rfl⟩) fun D σ H h => ?_
      rw [own_ix]
      exact comp_read lk.ix lk.si (tE_N (set_read ne' h))
  | setO i e =>
    obtain ⟨tg, e', pos, rfl, hf, mk⟩ := setX_ps kx ky.knd (show setX sc (fun tg e' => nmS T sc i tg && (!isComp e' || isCmp e) && Mini.fresh e && mE T n sc sc e e') x = true from h) (fun tg e hh => by simp only [Bool.and_eq_true] at hh; exact hh.1.1.1)
    simp only [Bool.and_eq_true] at hf
    obtain ⟨y, p, rfl, hn, hs, ne⟩ := nmS_of hf.1.1.1
    have ne' := kc.ne ne
    have hfr := hf.1.2
    have rd : ∀ {D σ H}, tX C (fun ρ s => Mini.stepS (Mini.ev Fs Gs n) ex ρ (.setO i e) s) D σ H → tN C (fun ρ s => Mini.ev Fs Gs n ρ e s) σ H (fun x H1 => D.nx (σ.set i (some x)) H1) := fun {D σ H} ⟨A, ρ, s, o, ρ', s', F, e1, q⟩ => by
      refine setO_read ne' ⟨A, ρ, s, o, ρ', s', F, ?_, q⟩
      have e1 : (if Mini.fresh e = true then (Mini.ev Fs Gs n ρ e s).bind fun p => (Mini.asOwn p.1).bind fun x => Mini.nxt (Mini.setV ρ i x) p.2 else none) = some (o, ρ', s') := e1
      rw [if_pos hfr] at e1
      exact e1
    cases hc : isComp e' with
    | false => exact ps_imp (mk ((so hf.2).pn hfr) (fun {_ _ _ _ _ _} z => by rw [z] at hc; cases hc) fun z => by rw [hc] at z; cases z) fun D σ H h => rd h
    | true =>
      have hE : isCmp e = true := by have := hf.1.1.2; rw [hc] at this; simpa using this
      obtain ⟨elt, tg', it, ifs, s, p2, rfl, elt2, tg2, it2, vs2, ifs2, m, rfl, rfl, lk⟩ := setC (Fs := Fs) (Gs := Gs) kc kx hf.2 hc hE
      refine ps_imp (mk (pe_lc kx.calm kx.nd lk.pi lk.ok lk.pg lk.pt lk.pe lk.fold) (fun {_ _ _ _ _ _} z => by cases z; exact ⟨_, _, _, _, _, rfl, lk.pi, lk.ok, lk.pg, lk.pt, lk.pe, lk.fold⟩) fun _ => ⟨_, _, _, _, _, _, rfl⟩) fun D σ H h => ?_
      rw [own_ix]
      exact comp_read lk.ix lk.si (rd h)
  | unpack ts e =>
    obtain ⟨tg, e', pos, rfl, hq⟩ := asgX_of (show asgX (fun tg e' => isTupX tg && mTg T sc 9 (.tup ts) tg && !isTupX e' && mE T n sc sc e e') x = true from h)
    · simp only [Bool.and_eq_true, Bool.not_eq_true'] at hq
      obtain ⟨⟨⟨h1, h2⟩, h3⟩, h4⟩ := hq
      obtain ⟨es, k, tp, rfl⟩ := isTupX_of h1
      refine ps_imp (ps_asg (so h4).pe (mTg_pg kx kc 9 (.tup ts) _ h2) (sole_no fun _ _ z => nomatch z) ?_ rfl) fun D σ H ⟨A, ρ, s, o, ρ', s', F, e1, q⟩ => ?_
      · cases e' <;> first | rfl | cases h3
      · obtain ⟨⟨d, s1⟩, e2, e1⟩ := Option.bind_eq_some_iff.mp (show ((Mini.ev Fs Gs n ρ e s).bind fun p => Mini.nxt (Mini.bindT 9 (.tup ts) p.1 ρ) p.2) = some (o, ρ', s') from e1)
        obtain ⟨e3, rfl, rfl⟩ := nxt_some e1
        exact ⟨A, ρ, s, d, s1, F, e2, fun v H1 F1 k1 r1 => ⟨A, ρ, s1, d, ρ', F1, r1, e3, fun σ' F2 _ => q A σ' H1 F2 (.of k1)⟩⟩
  | par ts es =>
    have p := par_ps ky kc (ev := Mini.ev Fs Gs n) (fun e x h => ⟨(so h).pe, (so h).pn⟩) (show parX _ x = true from h)
    refine ps_imp p fun D σ H ⟨A, ρ, s, o, ρ', s', F, e1, q⟩ => ⟨A, ρ, s, o, ρ', s', F, ?_, q⟩
    have e1 : (if ((ts.zip es).all fun q => match q.1 with | .nmO _ => Mini.fresh q.2 | _ => true) = true then (Mini.evL (Mini.ev Fs Gs n ρ) es s).bind fun p => Mini.nxt (Mini.tgsSet (Mini.ev Fs Gs n) p.2 ts p.1 ρ) p.2 else none) = some (o, ρ', s') := e1
    split at e1
    · exact e1
    · cases e1
  | sub i k e =>
    obtain ⟨o, k', p, e', pos, rfl, h1, h2, h3, h4⟩ := subX_of (show subX _ _ _ x = true from h)
    · refine ps_imp (ps_asg (so h4).pe (pg_sub (nm_pe kx h1) (so h2).pe (set_sub kx.room1) ?_) (sole_no fun _ _ z => nomatch z) ?_ rfl) fun D σ H h => sub_read h
      · intro v
        cases k' <;> first | rfl | cases h3
      · cases e' <;> rfl
  | augN i o e =>
    have h : ((augF o).isSome && augX (opB o) (nmS T sc i) (mE T n sc sc e) x) = true := h
    rw [Bool.and_eq_true] at h
    obtain ⟨f, hf⟩ := Option.isSome_iff_exists.mp h.1
    obtain ⟨y, p, e', pos, rfl, h1, h2⟩ := augX_of h.2
    · obtain ⟨y', p', z, hn, hs, ne⟩ := nmS_of h1
      cases z
      obtain ⟨l, fc⟩ := kx.sto y hs
      exact ps_imp (ps_aug kx.nd (by rw [kx.nN]; exact hn) l (so h2).pe (aug_ip hf) fc) fun D σ H h => augN_read hf (kc.ne ne) h
  | augI i k o e => cases h
  | append i e =>
    obtain ⟨e', pos, rfl, hx, _⟩ := exprX_of (show exprX _ x = true from h)
    · obtain ⟨o, ap, z, cp, rfl, h1, h2, ns, hl, hb⟩ := mth_of hx
      exact ps_imp (ps_expr (pe_bm PySem.F.plainAttrs_list PySem.F.slot_list_append PySem.F.type_list_append mt_append (nm_pe kx h1) (pa_cons (so h2).pe pa_nil (star_cons ns)) (hb _) (few1 ns) hl (star_cons ns) rfl) rfl) fun D σ H h => app_read h
  | extend i e =>
    obtain ⟨e', pos, rfl, hx, _⟩ := exprX_of (show exprX _ x = true from h)
    · obtain ⟨o, ap, z, cp, rfl, h1, h2, ns, hl, hb⟩ := mth_of hx
      exact ps_imp (ps_expr (pe_bm PySem.F.plainAttrs_list PySem.F.slot_list_extend PySem.F.type_list_extend (MtR.or mt_extend mt_extT) (nm_pe kx h1) (pa_cons (so h2).pe pa_nil (star_cons ns)) (hb _) (few1 ns) hl (star_cons ns) rfl) rfl) fun D σ H h => ext_read h
  | remove i e =>
    obtain ⟨e', pos, rfl, hx, _⟩ := exprX_of (show exprX _ x = true from h)
    · obtain ⟨o, ap, z, cp, rfl, h1, h2, ns, hl, hb⟩ := mth_of hx
      exact ps_imp (ps_expr (pe_bm PySem.F.plainAttrs_list PySem.F.slot_list_remove PySem.F.type_list_remove mt_remove (nm_pe kx h1) (pa_cons (so h2).pe pa_nil (star_cons ns)) (hb _) (few1 ns) hl (star_cons ns) rfl) rfl) fun D σ H h => rem_read h
  | popTo j i =>
    obtain ⟨y, p, o, ap, cp, pos, rfl, h1, h2, hl⟩ := popX_of (show popX _ _ x = true from h)
    · obtain ⟨y', p', z, hn, hs, ne⟩ := nmS_of h1
      cases z
      have hb : attributeBase o ("pop" : Str) X.env (eval o X.env) = eval o X.env := by
        unfold nm at h2
        split at h2
        · rfl
        · cases h2
      refine ps_imp (own_ps kx hn hs (pe_bm0 PySem.F.plainAttrs_list PySem.F.slot_list_pop PySem.F.type_list_pop mt_pop (nm_pe kx h2) hb hl) (.inl rfl)) fun D σ H ⟨A, ρ, s, o, ρ', s', F, e1, q⟩ => ?_
      have e1 : (if i = j then none else (Mini.getOwn ρ i).bind fun xs => (xs[xs.length - 1]?).bind fun y => (Mini.setV ρ i (.own xs.dropLast)).bind fun ρ => Mini.nxt (Mini.setV ρ j (.val y)) s) = some (o, ρ', s') := e1
      split at e1
      · cases e1
      · rename_i hij
        exact pop_read hij (kc.ne ne) ⟨A, ρ, s, o, ρ', s', F, e1, q⟩
  | expr e =>
    obtain ⟨e', pos, rfl, hq, hq2⟩ := exprX_of (show exprX _ x = true from h)
    · refine ps_imp (ps_expr (so hq).pe (sw_no hq2)) fun D σ H ⟨A, ρ, s, o, ρ', s', F, e1, q⟩ => ?_
      obtain ⟨⟨d, s1⟩, e2, e1⟩ := Option.bind_eq_some_iff.mp (show ((Mini.ev Fs Gs n ρ e s).bind fun p => some (Mini.Out.nx, ρ, p.2)) = some (o, ρ', s') from e1)
      cases e1
      exact ⟨A, ρ, s, d, s1, F, e2, fun v H1 F1 k1 _ => q A σ H1 F1 (.of k1)⟩
  | freeze i => cases h
  | iff c a b =>
    obtain ⟨c', a', b', pos, rfl, h1, h2, h3⟩ := ifX_of (show ifX _ _ _ x = true from h)
    · refine ps_imp (ps_if (so h1).pt (ihB _ _ h2) (ihB _ _ h3)) fun D σ H ⟨A, ρ, s, o, ρ', s', F, e1, q⟩ => ?_
      obtain ⟨⟨d, s1⟩, e2, e1⟩ := Option.bind_eq_some_iff.mp (show ((Mini.ev Fs Gs n ρ c s).bind fun p => (Mini.asBl p.1).bind fun t => if t then ex ρ a p.2 else ex ρ b p.2) = some (o, ρ', s') from e1)
      obtain ⟨t, e3, e1⟩ := Option.bind_eq_some_iff.mp e1
      cases asBl_some e3
      refine ⟨A, ρ, s, t, s1, F, tst_of e2, fun H1 F1 k1 => ?_⟩
      cases t with
      | true => exact ⟨A, ρ, s1, o, ρ', s', F1, e1, fun A' σ' H' F' k' => q A' σ' H' F' ((Kf.of k1).trans k')⟩
      | false => exact ⟨A, ρ, s1, o, ρ', s', F1, e1, fun A' σ' H' F' k' => q A' σ' H' F' ((Kf.of k1).trans k')⟩
  | for_ tg it b =>
    obtain ⟨tg', it', b', pos, rfl, hh, h3, h4⟩ := forX_of (show forX (fun tg' it' => mTg T sc 9 tg tg' && mI T sc (mE T n sc sc) it tg' it') _ x = true from h)
    · rw [Bool.and_eq_true] at hh
      obtain ⟨h1, h2⟩ := hh
      cases ho : Mini.itOwn it with
      | true =>
        refine ⟨fun pins s σ H D I ⟨A, ρ, s0, o, ρ', s', F, e1, q⟩ => ?_⟩
        have e1 : (if Mini.itOwn it = true then none else (Mini.evI (Mini.ev Fs Gs n) ρ it s0).bind fun p => Mini.forL (fun ρ s => ex ρ b s) tg p.1 ρ p.2) = some (o, ρ', s') := e1
        rw [if_pos ho] at e1
        cases e1
      | false =>
        have pi := mI_pi kx (ev := Mini.ev Fs Gs n) (fun e x h => (so h).pe) h2
        rw [ho] at pi
        refine ps_imp (ps_for ky.own kx.calm pi (mTg_pg kx kc 9 tg tg' h1) (ihB _ _ h3) (fold_pure h4)) fun D σ H ⟨A, ρ, s, o, ρ', s', F, e1, q⟩ => for_read ⟨A, ρ, s, o, ρ', s', F, ?_, q⟩
        have e1 : (if Mini.itOwn it = true then none else (Mini.evI (Mini.ev Fs Gs n) ρ it s).bind fun p => Mini.forL (fun ρ s => ex ρ b s) tg p.1 ρ p.2) = some (o, ρ', s') := e1
        rw [if_neg (by rw [ho]; exact Bool.false_ne_true)] at e1
        exact e1
  | while_ c m b =>
    obtain ⟨c', b', pos, rfl, hq, hq2⟩ := whileX_of (show whileX _ _ x = true from h)
    · refine ps_imp (ps_while ky.own (so hq).pt (ihB _ _ hq2)) fun D σ H ⟨A, ρ, s, o, ρ', s', F, e1, q⟩ => while_read (m := m) ⟨A, ρ, s, o, ρ', s', F, ?_, q⟩
      have e2 : (fun (ρ : Mini.Env) (s : Mini.S) => (Mini.ev Fs Gs n ρ c s).bind fun p => (Mini.asBl p.1).bind fun t => some (t, p.2)) = tst (Mini.ev Fs Gs n) c := by
        funext ρ s
        unfold tst
        cases Mini.ev Fs Gs n ρ c s with
        | none => rfl
        | some p =>
          show (Mini.asBl p.1).bind _ = (Mini.asBl p.1).map _
          cases Mini.asBl p.1 <;> rfl
      have e1 : Mini.whileL (fun ρ s => (Mini.ev Fs Gs n ρ c s).bind fun p => (Mini.asBl p.1).bind fun t => some (t, p.2)) (fun ρ s => ex ρ b s) m ρ s = some (o, ρ', s') := e1
      rw [e2] at e1
      exact e1
  | ret e =>
    cases e with
    | none =>
      obtain ⟨e', pos, rfl, hq⟩ := retX_of (show retX (fun e => e.isNone) x = true from h)
      cases e' with
      | none =>
        refine ps_imp ps_retN fun D σ H ⟨A, ρ, s, o, ρ', s', F, e1, q⟩ => ?_
        have e1 : some (Mini.Out.rt .non, ρ, s) = some (o, ρ', s') := e1
        cases e1
        exact q A σ H F .refl _ .non
      | some _ => cases hq
    | some e =>
      obtain ⟨e', pos, rfl, hq⟩ := retX_of (show retX (optX (mE T n sc sc) (some e)) x = true from h)
      cases e' with
      | none => cases hq
      | some e' => exact ps_imp (ps_ret (so (show mE T n sc sc e e' = true from hq)).pe) fun D σ H h => ret_read h
  | pass =>
    have h : isPass x = true := h
    cases x <;> first | cases h | skip
    refine ps_imp ps_pass fun D σ H ⟨A, ρ, s, o, ρ', s', F, e1, q⟩ => ?_
    have e1 : some (Mini.Out.nx, ρ, s) = some (o, ρ', s') := e1
    cases e1
    exact q A σ H F .refl
  | brk =>
    have h : isBrk x = true := h
    cases x <;> first | cases h | skip
    refine ps_imp ps_break fun D σ H ⟨A, ρ, s, o, ρ', s', F, e1, q⟩ => ?_
    have e1 : some (Mini.Out.bk, ρ, s) = some (o, ρ', s') := e1
    cases e1
    exact q A σ H F .refl
  | cont =>
    have h : isCont x = true := h
    cases x <;> first | cases h | skip
    refine ps_imp ps_continue fun D σ H ⟨A, ρ, s, o, ρ', s', F, e1, q⟩ => ?_
    have e1 : some (Mini.Out.ct, ρ, s) = some (o, ρ', s') := e1
    cases e1
    exact q A σ H F .refl
  | never => exact ⟨fun pins s σ H D I ⟨A, ρ, s0, o, ρ', s', F, e1, q⟩ => by cases e1⟩
  | srcSet k e =>
    have h : (decide (T.gN ≠ []) && srcSetX T sc (srcKey k) (mE T n sc sc e) x) = true := h
    rw [Bool.and_eq_true, decide_eq_true_eq] at h
    exact srcSet_ps kc ky h.1 h.2
  | srcPop =>
    have h : (decide (T.gN ≠ []) && srcPopX T sc x) = true := h
    rw [Bool.and_eq_true, decide_eq_true_eq] at h
    exact srcPop_ps kc ky h.1 h.2
  | orNil i c => exact orNil_ps kc ky (show orNilX _ _ _ x = true from h)
/-- a block -/
theorem mB_pss (kc : COk T C) {one : Mini.St → Stmt → Bool} {ev : Mini.Ev} {ex : Mini.Ex} (h1 : ∀ z x, one z x = true → PS X x (tX C fun ρ s => Mini.stepS ev ex ρ z s)) : ∀ (zs : List Mini.St) (xs : List Stmt), mB T one zs xs = true →
    PSs X xs (tX C fun ρ s => Mini.runL (fun ρ z s => Mini.stepS ev ex ρ z s) zs ρ s)
  | [], [], _ => pss_imp pss_nil fun D σ H ⟨A, ρ, s, o, ρ', s', F, e, q⟩ => by
    have e : some (Mini.Out.nx, ρ, s) = some (o, ρ', s') := e
    cases e
    exact q A σ H F .refl
  | z :: zs, xs, h => by
    have seq : ∀ {x : Stmt} {r : List Stmt}, one z x = true → mB T one zs r = true → PSs X (x :: r) (tX C fun ρ s => Mini.runL (fun ρ z s => Mini.stepS ev ex ρ z s) (z :: zs) ρ s) := fun {x r} hx hr => by
      refine pss_imp (pss_cons (h1 z x hx) (mB_pss kc h1 zs r hr)) fun D σ H ⟨A, ρ, s, o, ρ', s', F, e, q⟩ => ?_
      obtain ⟨⟨o1, ρ1, s1⟩, e1, e⟩ := Option.bind_eq_some_iff.mp (show (Mini.stepS ev ex ρ z s).bind _ = some (o, ρ', s') from e)
      refine ⟨A, ρ, s, o1, ρ1, s1, F, e1, fun A1 σ1 H1 F1 k1 => ?_⟩
      cases o1 with
      | nx => exact ⟨A1, ρ1, s1, o, ρ', s', F1, e, fun A' σ' H' F' k' => q A' σ' H' F' (k1.trans k')⟩
      | bk => cases e; exact q A1 σ1 H1 F1 k1
      | ct => cases e; exact q A1 σ1 H1 F1 k1
      | rt d => cases e; exact q A1 σ1 H1 F1 k1
    unfold mB at h
    split at h
    · rename_i i
      rw [Bool.and_eq_true, decide_eq_true_eq] at h
      refine pss_imp (mB_pss kc h1 zs xs h.2) fun D σ H ⟨A, ρ, s, o, ρ', s', F, e, q⟩ => ?_
      have e : Mini.seqR (match ρ[i]? with
        | some (some x) => Mini.nxt (Mini.setV ρ i (Mini.freezeS x)) s
        | _ => none) (fun ρ s => Mini.runL (fun ρ z s => Mini.stepS ev ex ρ z s) zs ρ s) = some (o, ρ', s') := e
      obtain ⟨⟨o1, ρ1, s1⟩, e1, e⟩ := Option.bind_eq_some_iff.mp (show Option.bind _ _ = _ from e)
      split at e1
      · rename_i y ey
        obtain ⟨e2, rfl, rfl⟩ := nxt_some e1
        obtain ⟨hi, rfl⟩ := setV_some e2
        exact ⟨_, _, s, o, ρ', s', F.frz ey, e, fun A' σ' H' F' k' => q A' σ' H' F' (Kf.frz.trans k')⟩
      · cases e1
    · split at h
      · rename_i x r
        rw [Bool.and_eq_true] at h
        exact seq h.1 h.2
      · cases h
  | [], _ :: _, h => by cases h
theorem mSs_pss (kc : COk T C) (ky : YOk R T Fs Gs sc X) {n : Nat} : ∀ (m : Nat) (zs : List Mini.St) (xs : List Stmt), mSs T n sc m zs xs = true → PSs X xs (tX C fun ρ s => Mini.ex Fs Gs n m ρ zs s)
  | 0, _, _, h => by cases h
  | m + 1, zs, xs, h => mB_pss kc (fun z x hz => mSt_ps kc ky (fun b xs hb => mSs_pss kc ky m b xs hb) hz) zs xs h
end
end Snd

/-! ## SndX -/
set_option Elab.async false
set_option linter.all false
set_option maxRecDepth 100000
set_option maxHeartbeats 4000000
/-! SndX: defs are what mini says. -/
namespace Snd
open PySem PySem.Spec L2
open PyProof.Rows hiding St
open Mini (E T It Slot)
section
variable {P : Program} {w : World} {K : PySem.W.Frag} {mg : Str → Option Value} {base : Heap} {k : Nat} {f : Addr} {x qual : Str} {st : Stmt} {fd : FuncData} {ps : List Str} {T : Tab} {Fs : List Mini.Fn} {Gs : List Mini.Gn}
/-- what a module's defs may lean on -/
structure Sys (P : Program) (w : World) (K : PySem.W.Frag) (mg : Str → Option Value) (base : Heap) (k : Nat) (T : Tab) (Fs : List Mini.Fn) (Gs : List Mini.Gn) : Prop where
  one : 1 ≤ k
  fn : ∀ (j : Nat) (nm : Str) (F : Mini.Fn), T.fN[j]? = some nm → Fs[j]? = some F → (nm == ("__debug__" : Str)) = false ∧ ∃ f fd ps, mg nm = some (.ref f) ∧ PySem.W.keepIn K (.ref f) = true ∧ Binds K fd ps [] ∧ FnG P w K mg base k f fd ps (spF F)
  gn : ∀ (j : Nat) (nm : Str) (G : Mini.Gn), T.gN[j]? = some nm → Gs[j]? = some G → (nm == ("__debug__" : Str)) = false ∧ ∃ f fd ps, mg nm = some (.ref f) ∧ PySem.W.keepIn K (.ref f) = true ∧ Binds K fd ps [] ∧ FnG P w K mg base k f fd ps (spG G)
  blt : ∀ y, y ∈ bltN → mg y = none
theorem yok (Y : Sys P w K mg base k T Fs Gs) (S : FnScope T.N ps (defScope st)) {cdv : Value} {A : Around} {outer : List Env} {s : Shared} {H : Hp} {E : XK} (hg : A.guards = some []) (room : Room k (A.deeper (envOfC qual (defScope st) s.heap.objs.size f cdv))) :
    YOk k T Fs Gs (defScope st) (cxOf CX0 P w K mg base T.N qual (defScope st) f cdv A outer s H E).nox where
  x := {
    nN := rfl
    nd := S.nd
    scp := rfl
    sto := fun y hy => ⟨sto_of hy, .inl rfl⟩
    calm := rfl
    room := room
    one := Y.one
    gd := hg
    good := ⟨Y.fn, Y.gn, Y.blt⟩ }
  own := PassesOwn.never
  knd := S.kind
theorem startE_get {d : Mini.Def} {xs : List D} {i : Nat} {z : Slot} (h : (Mini.startE d xs)[i]? = some (some z)) : ∃ y, xs[i]? = some y ∧ z = .val y := by
  unfold Mini.startE at h
  rw [List.getElem?_append] at h
  split at h
  · rw [List.getElem?_map, Option.map_eq_some_iff] at h
    obtain ⟨y, e, q⟩ := h
    cases q
    exact ⟨y, e, rfl⟩
  · rw [List.getElem?_replicate] at h
    split at h
    · cases h
    · cases h
theorem start_len {N : List Str} {vs : List V} {n : Nat} {ds : List D} (hl : vs.length = ds.length) (hn : N.length = n) : (Mini.startE ⟨n, 0, []⟩ ds).length = (L2.start N vs).length := by
  unfold Mini.startE L2.start
  simp only [List.length_append, List.length_map, List.length_replicate]
  rw [hl, hn]
theorem start_get {N : List Str} {vs : List V} {i : Nat} {v : V} (h : vs[i]? = some v) : (L2.start N vs)[i]? = some (some v) := by
  unfold L2.start
  rw [List.getElem?_append_left (by rw [List.length_map]; exact (List.getElem?_eq_some_iff.mp h).1), List.getElem?_map, h]
  rfl
theorem endR_some {r : Mini.Res} {d : D} {s : Mini.S} (h : Mini.endR r = some (d, s)) : ∃ o ρ, r = some (o, ρ, s) ∧ (o = .rt d ∨ o = .nx ∧ d = .non) := by
  unfold Mini.endR at h
  split at h
  · cases h; exact ⟨_, _, rfl, .inl rfl⟩
  · cases h; exact ⟨_, _, rfl, .inr ⟨rfl, rfl⟩⟩
  · cases h
/-- a def that draws nothing -/
theorem fn_F (F : Fun K x qual st f fd) (S : FnScope T.N ps (defScope st)) (Y : Sys P w K mg base k T Fs []) {d : Mini.Def} (hc : mSs T 40 (defScope st) 20 d.body (defBody st) = true) (hn : T.N.length = d.names) (ha : ps.length = d.args) (hgn : T.gN = []) :
    FnG P w K mg base (k + 1) f fd ps (spF (Mini.runF Fs d)) := by
  refine fnG_of F S (fun vs H Q E ⟨O, ds, r, _, rl, e, _⟩ => ?_) fun cdv A outer s H vs Q E hg room ⟨O, ds, r, trk, rl, e, q⟩ => ?_
  · unfold Mini.runF at e
    split at e
    · rename_i hl; rw [rl.length, hl, ha]
    · cases e
  unfold Mini.runF at e
  split at e
  case isFalse => cases e
  rename_i hl
  obtain ⟨⟨r', s'⟩, e1, er⟩ := Option.map_eq_some_iff.mp e
  have er : r' = r := er
  subst er
  obtain ⟨o, ρ', e2, ho⟩ := endR_some e1
  let C : Ctx := ⟨H, O, none, trk⟩
  have ky := yok (qual := qual) (f := f) (cdv := cdv) (A := A) (outer := outer) (s := s) (H := H) (E := E) Y S hg room
  have kc : COk T C := ⟨fun i p c z => (nomatch z), fun z => absurd hgn z⟩
  refine ⟨_, mSs_pss kc ky (n := 40) 20 d.body (defBody st) hc, (fun _ => none), Mini.startE d ds, none, o, ρ', s', ?_, e2, fun A' σ' H' F' _ => ?_⟩
  · refine ⟨?_, fun i z hz => ?_, fun i j a h => (nomatch h), fun i a h => (nomatch h), .refl, trivial, ⟨0, fun _ _ => rfl⟩⟩
    · have := start_len (N := T.N) rl.length hn
      exact this
    · obtain ⟨y, hy, rfl⟩ := startE_get hz
      obtain ⟨v, hv, rv⟩ := rl.get hy
      refine ⟨v, start_get hv, Rp.mo (mo_less fun a z => ?_) _ _ rv⟩
      rcases z with z | ⟨_, _, _, z, _⟩ | ⟨_, z⟩
      · exact z
      · cases z
      · cases z
  · have sm : Same H H' := fun b o e => F'.keep b o e fun ⟨_, _, _, z, _⟩ => nomatch z
    have fin : ∀ v, Rp H' (fun a => C.O0 a ∨ isSrc C a) v r' → Q v H' := fun v rv => q v H' sm (Rp.mo (mo_less fun a z => .inl z) _ _ rv)
    rcases ho with rfl | ⟨rfl, rfl⟩
    · exact fin
    · exact fin _ .non
/-- a def that draws: its first parameter is the draws' own dict -/
theorem fn_G (F : Fun K x qual st f fd) (S : FnScope T.N ps (defScope st)) (Y : Sys P w K mg base k T Fs Gs) {d : Mini.Def} (hc : mSs T 40 (defScope st) 20 d.body (defBody st) = true) (hn : T.N.length = d.names) (hn1 : 1 ≤ d.names) (ha : ps.length = d.args) (hsi : T.si = 0) :
    FnG P w K mg base (k + 1) f fd ps (spG (Mini.runG Fs Gs d)) := by
  refine fnG_of F S (fun vs H Q E ⟨O, p, c, S0, us, ds, r, S', ev, _, _, rl, e, _⟩ => ?_) fun cdv A outer s H vs Q E hg room ⟨O, p, c, S0, us, ds, r, S', ev, sat, trk, rl, e, q⟩ => ?_
  · unfold Mini.runG at e
    split at e
    · rename_i hl; rw [ev, List.length_cons, rl.length, hl, ha]
    · cases e
  subst ev
  unfold Mini.runG at e
  split at e
  case isFalse => cases e
  rename_i hl
  obtain ⟨⟨r', s'⟩, e1, er⟩ := Option.bind_eq_some_iff.mp e
  obtain ⟨S'', es, er⟩ := Option.map_eq_some_iff.mp er
  have es : s' = some S'' := es
  subst es
  cases er
  obtain ⟨o, ρ', e2, ho⟩ := endR_some e1
  let C : Ctx := ⟨H, O, some (0, p, c), trk⟩
  have hsrc : ∀ a, isSrc C a ↔ a = p ∨ a = c := fun a => ⟨fun ⟨i, p', c', h1, h2⟩ => by cases h1; exact h2, fun z => ⟨0, p, c, rfl, z⟩⟩
  have ky := yok (qual := qual) (f := f) (cdv := cdv) (A := A) (outer := outer) (s := s) (H := H) (E := E) Y S hg room
  have kc : COk T C := ⟨fun i p c z => by cases z; exact hsi.symm, fun _ => ⟨p, c, by rw [hsi]⟩⟩
  refine ⟨_, mSs_pss kc ky (n := 40) 20 d.body (defBody st) hc, (fun _ => none), _, some S0, o, ρ', some S', ?_, e2, fun A' σ' H' F' _ => ?_⟩
  · have hst : L2.start T.N (.ref p :: us) = some (.ref p) :: (us.map some ++ List.replicate (d.names - 1 - us.length) none) := by
      unfold L2.start
      rw [List.map_cons, List.length_cons, hn]
      have : d.names - (us.length + 1) = d.names - 1 - us.length := by omega
      rw [this]; rfl
    rw [hst]
    refine ⟨?_, fun i z hz => ?_, fun i j a h => (nomatch h), fun i a h => (nomatch h), .refl, ⟨rfl, sat⟩, ⟨0, fun _ _ => rfl⟩⟩
    · show (Mini.startE ⟨d.names - 1, d.args - 1, d.body⟩ ds).length + 1 = _
      unfold Mini.startE
      simp only [List.length_append, List.length_map, List.length_replicate, List.length_cons]
      rw [rl.length]
    · cases i with
      | zero => cases hz
      | succ i =>
        obtain ⟨y, hy, rfl⟩ := startE_get (by simpa using hz)
        obtain ⟨v, hv, rv⟩ := rl.get hy
        refine ⟨v, ?_, Rp.mo (mo_less fun a z => ?_) _ _ rv⟩
        · have := start_get (N := T.N) (vs := us) hv
          rw [List.getElem?_cons_succ, List.getElem?_append_left (by rw [List.length_map]; exact (List.getElem?_eq_some_iff.mp hv).1), List.getElem?_map, hv]
          rfl
        · rcases z with z | z | ⟨_, z⟩
          · exact .inl z
          · exact .inr ((hsrc a).mp z)
          · cases z
  · have sm : ∀ b o, H b = some o → b ≠ p → b ≠ c → H' b = some o := fun b o e n1 n2 => F'.keep b o e fun z => ((hsrc b).mp z).elim n1 n2
    have sat' : SrcAt H' p c S' := by
      have z := F'.src
      exact z.2
    have fin : ∀ v, Rp H' (fun a => C.O0 a ∨ isSrc C a) v r' → Q v H' := fun v rv => q v H' sm sat' (Rp.mo (mo_less fun a z => z.elim .inl fun z => .inr ((hsrc a).mpr z)) _ _ rv)
    rcases ho with rfl | ⟨rfl, rfl⟩
    · exact fin
    · exact fin _ .non
end
end Snd

/-! ## SndY -/
set_option Elab.async false
set_option linter.all false
set_option maxRecDepth 100000
set_option maxHeartbeats 4000000
/-! SndY: the law's end, for promises that ask that nothing is being written. -/
namespace Snd
open PySem PySem.Spec L2
open PyProof.Rows hiding St

theorem scriptOk {P : Program} {w : World} {K : PySem.W.Frag} {mg mb : Str → Option Value} {k : Nat} {fa a : Addr} {fd : FuncData} {x : Str} {sp : Sp} {s : Shared} {us : List Value} {ns : List Int}
    (KX : K.In s.heap) (nsM : s.heap.Ns mainGlobals mg) (nsB : s.heap.Ns builtinsNs mb) (bb : ∀ x : Str, x ≠ "__name__" → mb x = bootBuiltins x) (nl : s.heap.NoLimit) (ng : s.gens = #[])
    (at_ : s.heap.get? a = some { cls := .type "list", data := .seq us.toArray }) (is : IntsAre us ns) (len : ns.length ≤ sizeLine) (room : Room k callerA)
    (F : ∀ base : Heap, K.In base → base.Ns mainGlobals mg → FnG P w K mg base k fa fd [x] sp) (bind : ∀ (s : Shared) (u : Value), BindsTo s fd ⟨[u], []⟩ [(x, u)])
    (hsp : ∀ H : Hp, Only H → SqL K H a (ns.map V.int) → sp [.ref a] H (fun v _ => v = .bl true) fun _ _ _ => False) (H : Hp) (only : Only H) (sq : SqL K H a (ns.map V.int)) (hok : HOk P w H s.heap) (atA : ∀ b, H b ≠ none → b = a ∧ K.lookup a = none) :
    codeAny (model P w) callerA (.call (.ref fa) ⟨[.ref a], []⟩) (fun r s' => r = .ok (.ret (.bool true)) ∧ OldK s.heap s'.heap ∧ s'.os = s.os ∧ AllBare s'.gens) s := by
  have stays : ∀ {b : Addr} {o : Obj}, s.heap.get? b = some o → (b = a → H b = none) → (hidT s.heap H).get? b = some o := fun {b o} e n => hidT_get e (by
    by_cases z : H b = none
    · exact z
    · exact n (atA b z).1)
  have spaces : ∀ {b : Addr} {m : Str → Option Value}, s.heap.Ns b m → (hidT s.heap H).Ns b m := fun {b m} ⟨o, es, ep, e, d, r⟩ => ⟨o, es, ep, stays e (fun z => by
    rw [z, at_] at e
    cases e
    exact nomatch (show Data.seq us.toArray _ = Data.dict es ep from d)), d, r⟩
  have kb : K.In (hidT s.heap H) := fun b o e => stays (KX b o e) fun z => by
    by_cases q : H b = none
    · exact q
    · have := (atA b q).2
      rw [← z, e] at this
      cases this
  have md : Mod K mg (hidT s.heap H) := ⟨kb, spaces nsM, ⟨mb, spaces nsB, bb⟩, let ⟨mc, h1, h2⟩ := nl; ⟨mc, spaces h1, h2⟩⟩
  have en : Env0 P w K mg (hidT s.heap H) callerA [] s H := ⟨rfl, md, fun b o e => of_hidT e, Nat.le_of_eq (hidT_size _ _), trivial, fun b hb => (List.not_mem_nil hb).elim, hok, .of_eq ng⟩
  refine codeAny_mono ((F _ kb (spaces nsM)).run callerA [] s H ⟨[.ref a], []⟩ [.ref a] [.ref a] _ _ rfl room en (bind s (.ref a)) (.cons rfl .nil) (hsp H only sq)) fun r s' h => ?_
  cases r with
  | error e => exact (show False from h).elim
  | ok fl =>
    cases fl with
    | ret u =>
      obtain ⟨v, H', os, bare, un, hok', rv, q⟩ := h
      have q : v = .bl true := q
      subst q
      obtain rfl : u = Value.bool true := rv
      refine ⟨rfl, .of_keep fun b o e => ?_, os, bare⟩
      rcases only b with z | ⟨ob, xs, z⟩
      · exact un.keep b o e z List.not_mem_nil List.not_mem_nil
      · obtain ⟨e1, _⟩ := hok b _ z
        obtain ⟨e2, _⟩ := hok' b _ (un.frzs b ob _ z)
        rw [e] at e1
        cases e1
        exact e2
    | _ => exact False.elim h
/-- the goal that k_head leaves, from the promise of the law's def -/
theorem walkG {l : PySem.W.OpenLaw} {n k : Nat} {q : Program} {loose : List Str} {XP : (Str → Option Value) → Heap → Prop} {YP : World → Heap → Prop} {d : DefRec} {K : Params → PySem.W.Frag} {sp : World → Sp} {x : Str}
    (hn : l.most = some n) (hn2 : n ≤ sizeLine) (hdf : d.params.defaults = []) (hr : Room k callerA) (hY : ∀ (w : World) (h : Heap), YP w h → (K w.params).In h)
    (F : ∀ (w : World) (mg : Str → Option Value) (fa : Addr) (h : Heap), (K w.params).In h → h.Ns mainGlobals mg → mg d.name = some (.ref fa) →
      ∃ fd : FuncData, (∀ (s : Shared) (u : Value), BindsTo s fd ⟨[u], []⟩ [(x, u)]) ∧ ∀ base : Heap, (K w.params).In base → base.Ns mainGlobals mg → FnG l.prog w (K w.params) mg base k fa fd [x] (sp w))
    (hsp : ∀ (w : World) (H : Hp) (a : Addr) (ns : List Int), ns.length ≤ n → Only H → SqL (K w.params) H a (ns.map V.int) → sp w [.ref a] H (fun v _ => v = .bl true) fun _ _ _ => False) :
    PySem.W.WalkO q loose XP YP l.row.toRowW d [] (fun f vs => PySem.call f vs) := by
  refine Att.attach_call hn hdf fun w s0 s mg mb fa o pm cd doc a us ns G Y _ _ _ mgd at_ is len ng => ?_
  have KX := hY w _ Y
  have hl : ns.length ≤ sizeLine := Nat.le_trans len hn2
  obtain ⟨fd, hb, hF⟩ := F w mg fa _ KX G.T.g mgd
  have go := scriptOk KX G.T.g G.T.b G.T.builtins G.T.nolimit ng at_ is hl hr hF hb (fun H hO hS => hsp w H a ns len hO hS)
  have rv := vals_ints is
  cases ek : (K w.params).lookup a with
  | some ob =>
    have e := KX a ob ek
    rw [at_] at e
    cases e
    exact go (fun _ => none) (fun _ => .inl rfl) (.inr ⟨_, us.toArray, _, ek, rfl, rfl, rfl, by rw [List.size_toArray, is.length]; exact hl, by simpa using rv⟩) (fun b u z => nomatch (show (none : Option HO) = some u from z)) fun b z => (z rfl).elim
  | none =>
    let ob : Obj := { cls := .type "list", data := .seq us.toArray }
    let H : Hp := fun b => if b = a then some (.frz ob (.lst (ns.map V.int))) else none
    have hA : H a = some (.frz ob (.lst (ns.map V.int))) := if_pos rfl
    refine go H (fun b => ?_) (.inl (.inr ⟨ob, hA⟩)) (fun b u z => ?_) fun b z => ⟨?_, ek⟩
    · by_cases e : b = a
      · exact .inr ⟨ob, _, if_pos e⟩
      · exact .inl (if_neg e)
    · by_cases e : b = a
      · subst e
        rw [hA] at z
        cases z
        exact ⟨at_, by rw [List.length_map]; exact hl, us, _, rv, at_⟩
      · rw [show H b = none from if_neg e] at z
        cases z
    · by_cases e : b = a
      · exact e
      · exact (z (if_neg e)).elim
/-! ### what the top has made -/
/-- a def of the module, made at f -/
structure Made (K : PySem.W.Frag) (nm : Str) (st : Stmt) (f : Addr) (fd : FuncData) : Prop where
  at_ : PySem.W.nsIn K mainGlobals nm = some (some (.ref f))
  fun_ : Fun K nm nm st f fd
/-- the four facts that k_is finds -/
abbrev IsMade (K : PySem.W.Frag) (nm : Str) (st : Stmt) : Prop := ∃ (f : Addr) (oc : Value) (od an : Option Addr) (osl : Array (Option Value)) (kV doc pm cdv ct : Value), PySem.W.nsIn K mainGlobals nm = some (some (.ref f)) ∧
  K.lookup f = some ⟨oc, od, .func (PySem.W.fnOf nm nm (defArgs st) (defBody st) (defScope st) .none kV doc pm an cdv ct), osl⟩ ∧ PySem.W.codeIn K cdv nm = true ∧ PySem.W.keepIn K (.ref f) = true
theorem isMade {K : PySem.W.Frag} {nm : Str} {st : Stmt} {f : Addr} {oc : Value} {od an : Option Addr} {osl : Array (Option Value)} {kV doc pm cdv ct : Value} (a : PySem.W.nsIn K mainGlobals nm = some (some (.ref f)))
    (l : K.lookup f = some ⟨oc, od, .func (PySem.W.fnOf nm nm (defArgs st) (defBody st) (defScope st) .none kV doc pm an cdv ct), osl⟩) (c : PySem.W.codeIn K cdv nm = true) (k : PySem.W.keepIn K (.ref f) = true) : IsMade K nm st := ⟨f, oc, od, an, osl, kV, doc, pm, cdv, ct, a, l, c, k⟩
theorem IsMade.made {K : PySem.W.Frag} {nm : Str} {st : Stmt} (h : IsMade K nm st) : ∃ f fd, Made K nm st f fd := by
  obtain ⟨f, oc, od, an, osl, kV, doc, pm, cdv, ct, a, l, c, k⟩ := h
  exact ⟨f, _, a, fun_mk l c k⟩
end Snd

/-! ## SndZ -/
set_option Elab.async false
set_option linter.all false
set_option maxRecDepth 100000
set_option maxHeartbeats 4000000
/-! SndZ: the parts of a law put together. -/
namespace Snd
open PySem PySem.Spec L2
open PyProof.Rows hiding St
/-- a def of the module keeps a promise -/
def OkD (P : Program) (w : World) (K : PySem.W.Frag) (mg : Str → Option Value) (base : Heap) (k : Nat) (nm : Str) (sp : Sp) : Prop :=
  ∃ f fd ps, mg nm = some (.ref f) ∧ PySem.W.keepIn K (.ref f) = true ∧ Binds K fd ps [] ∧ FnG P w K mg base k f fd ps sp
theorem OkD.mono {P : Program} {w : World} {K : PySem.W.Frag} {mg : Str → Option Value} {base : Heap} {j k : Nat} {nm : Str} {sp : Sp} (h : OkD P w K mg base j nm sp) (hl : j ≤ k) : OkD P w K mg base k nm sp := by
  obtain ⟨f, fd, ps, a, b, c, d⟩ := h
  exact ⟨f, fd, ps, a, b, c, d.mono hl⟩
def OkL {α : Type} (sp : α → Sp) (P : Program) (w : World) (K : PySem.W.Frag) (mg : Str → Option Value) (base : Heap) (k : Nat) : List Str → List α → Prop
  | nm :: ns, F :: Fs => ((nm == ("__debug__" : Str)) = false ∧ OkD P w K mg base k nm (sp F)) ∧ OkL sp P w K mg base k ns Fs
  | _, _ => True
theorem OkL.get {α : Type} {sp : α → Sp} {P : Program} {w : World} {K : PySem.W.Frag} {mg : Str → Option Value} {base : Heap} {k : Nat} : ∀ {ns : List Str} {Fs : List α}, OkL sp P w K mg base k ns Fs → ∀ (j : Nat) (nm : Str) (F : α), ns[j]? = some nm → Fs[j]? = some F →
    (nm == ("__debug__" : Str)) = false ∧ OkD P w K mg base k nm (sp F)
  | n :: ns, G :: Fs, h, 0, nm, F, e1, e2 => by cases e1; cases e2; exact h.1
  | n :: ns, G :: Fs, h, j + 1, nm, F, e1, e2 => OkL.get h.2 j nm F (by simpa using e1) (by simpa using e2)
  | [], _, _, j, nm, F, e1, _ => by simp at e1
  | _ :: _, [], _, j, nm, F, _, e2 => by simp at e2
theorem OkL.cons {α : Type} {sp : α → Sp} {P : Program} {w : World} {K : PySem.W.Frag} {mg : Str → Option Value} {base : Heap} {k : Nat} {nm : Str} {ns : List Str} {F : α} {Fs : List α} (h1 : (nm == ("__debug__" : Str)) = false) (h2 : OkD P w K mg base k nm (sp F)) (h3 : OkL sp P w K mg base k ns Fs) :
    OkL sp P w K mg base k (nm :: ns) (F :: Fs) := ⟨⟨h1, h2⟩, h3⟩
theorem OkL.none {α : Type} {sp : α → Sp} {P : Program} {w : World} {K : PySem.W.Frag} {mg : Str → Option Value} {base : Heap} {k : Nat} : ∀ {ns : List Str}, OkL sp P w K mg base k ns []
  | [] => trivial
  | _ :: _ => trivial
/-- what the module is -/
structure Txt (K : PySem.W.Frag) (mg : Str → Option Value) (base : Heap) : Prop where
  get : ∀ (nm : Str) (v : Value), PySem.W.nsIn K mainGlobals nm = some (some v) → mg nm = some v
  blt : ∀ y, y ∈ bltN → mg y = none
section
variable {P : Program} {w : World} {K : PySem.W.Frag} {mg : Str → Option Value} {base : Heap} {k : Nat} {nm : Str} {st : Stmt} {ps : List Str} {T : Tab} {Fs : List Mini.Fn} {Gs : List Mini.Gn}
theorem Txt.sys_of (X : Txt K mg base) (h1 : 1 ≤ k) (f : OkL spF P w K mg base k T.fN Fs) (g : OkL spG P w K mg base k T.gN Gs) : Sys P w K mg base k T Fs Gs :=
  ⟨h1, fun j nm F e1 e2 => f.get j nm F e1 e2, fun j nm G e1 e2 => g.get j nm G e1 e2, X.blt⟩
def BindsAs (st : Stmt) (nm : Str) (ps : List Str) : Prop := ∀ (kV doc pm : Value) (an : Option Addr) (cdv ct : Value) (us : List Value), us.length = ps.length → bindArgs (PySem.W.fnOf nm nm (defArgs st) (defBody st) (defScope st) .none kV doc pm an cdv ct) ⟨us, []⟩ = pure (ps.zip us)
theorem okF (X : Txt K mg base) (m : IsMade K nm st) (S : FnScope T.N ps (defScope st)) (hb : BindsAs st nm ps) (h1 : 1 ≤ k) (f : OkL spF P w K mg base k T.fN Fs) {d : Mini.Def} (hc : mSs T 40 (defScope st) 20 d.body (defBody st) = true) (hn : T.N.length = d.names) (ha : ps.length = d.args) (hg : T.gN = []) :
    OkD P w K mg base (k + 1) nm (spF (Mini.runF Fs d)) := by
  obtain ⟨fa, fd, m⟩ := m.made
  exact ⟨fa, fd, ps, X.get _ _ m.at_, m.fun_.kp, m.fun_.binds hb, fn_F m.fun_ S (X.sys_of h1 f (by rw [hg]; trivial)) hc hn ha hg⟩
theorem okG (X : Txt K mg base) (m : IsMade K nm st) (S : FnScope T.N ps (defScope st)) (hb : BindsAs st nm ps) (h1 : 1 ≤ k) (f : OkL spF P w K mg base k T.fN Fs) (g : OkL spG P w K mg base k T.gN Gs) {d : Mini.Def} (hc : mSs T 40 (defScope st) 20 d.body (defBody st) = true) (hn : T.N.length = d.names) (hn1 : 1 ≤ d.names) (ha : ps.length = d.args) (hs : T.si = 0) :
    OkD P w K mg base (k + 1) nm (spG (Mini.runG Fs Gs d)) := by
  obtain ⟨fa, fd, m⟩ := m.made
  exact ⟨fa, fd, ps, X.get _ _ m.at_, m.fun_.kp, m.fun_.binds hb, fn_G m.fun_ S (X.sys_of h1 f g) hc hn hn1 ha hs⟩
end
/-! ### the source -/
def spSource (K : PySem.W.Frag) : Sp := fun vs H Q _ => ∃ (a : Addr) (ns : List Int), vs = [.ref a] ∧ SqL K H a (ns.map V.int) ∧ ns.length ≤ 63 ∧ ∀ H' p c, Same H H' → H p = none → H c = none → SrcAt H' p c (Mini.srcOf ns) → Q (.ref p) H'
theorem sqL_same {K : PySem.W.Frag} {H H' : Hp} {a : Addr} {xs : List V} (s : Same H H') (h : SqL K H a xs) : SqL K H' a xs := by
  rcases h with (h | ⟨o, h⟩) | h
  · exact .inl (.inl (s _ _ h))
  · exact .inl (.inr ⟨o, s _ _ h⟩)
  · exact .inr h
theorem mix_in (ns : List Int) : ∀ m : Int, 0 ≤ m → m < 2147483648 → 0 ≤ ns.foldl (fun m c => (m * 69069 + c * 31 + 5) % 2147483629) m ∧ ns.foldl (fun m c => (m * 69069 + c * 31 + 5) % 2147483629) m < 2147483648 := by
  induction ns with
  | nil => intro m h1 h2; exact ⟨h1, h2⟩
  | cons c ns ih =>
    intro m _ _
    rw [List.foldl_cons]
    exact ih _ (by omega) (by omega)
/-! ### the law's own def -/
def spLaw (K : PySem.W.Frag) : Sp := fun vs H Q _ => ∃ (a : Addr) (ns : List Int), vs = [.ref a] ∧ SqL K H a (ns.map V.int) ∧ ns.length ≤ 63 ∧ ∀ H', Q (.bl true) H'
theorem okLaw {P : Program} {w : World} {K : PySem.W.Frag} {mg : Str → Option Value} {base : Heap} {k : Nat} {st : Stmt} {T : Tab} {Fs : List Mini.Fn} {Gs : List Mini.Gn} {f : Addr} {fd : FuncData} {zs : List Mini.St} {xs : List Stmt} {p0 p1 p2 p3 pos : Pos}
    (X : Txt K mg base) (F : Fun K "law" "law" st f fd) (S : FnScope T.N ["script"] (defScope st)) (h1 : 1 ≤ k) (fs : OkL spF P w K mg base k T.fN Fs) (gs : OkL spG P w K mg base k T.gN Gs) (sr : OkD P w K mg base k "_law_source" (spSource K))
    (hst : defBody st = .Assign [.Name "source" p0] (.Call (.Name "_law_source" p1) [.Name "script" p2] [] p3) pos :: xs) (hc : mSs T 40 (defScope st) 20 zs xs = true) (hsi : T.N[T.si]? = some ("source" : Str)) (h0 : T.N[0]? = some ("script" : Str)) (hlen : T.si < T.N.length)
    (hv : visC (defScope st) "script" = true) (hs : stoC (defScope st) "source" = true) (hg : glC (defScope st) "_law_source" = true)
    (law : ∀ ns : List Int, ns.length ≤ 63 → ∃ ρ s, Mini.ex Fs Gs 40 20 (List.replicate T.N.length none) zs (some (Mini.srcOf ns)) = some (.rt (.bl true), ρ, s)) :
    FnG P w K mg base (k + 1) f fd ["script"] (spLaw K) := by
  refine fnG_of F S (fun vs H Q E ⟨a, ns, e, _⟩ => by rw [e]; rfl) fun cdv A outer s H vs Q E hgd room ⟨a, ns, ev, sq, hl, q⟩ => ?_
  subst ev
  have Y := X.sys_of (T := T) h1 fs gs
  have ky := yok (qual := "law") (f := f) (cdv := cdv) (A := A) (outer := outer) (s := s) (H := H) (E := E) Y S hgd room
  have kx := ky.x
  obtain ⟨fa, fd2, ps, m1, m2, m3, m4⟩ := sr
  have first := own_ps kx hsi hs (p := p0) (pos := pos) (pe_callG (p := p1) (pos := p3) (er := []) m4 kx.gd kx.room (kx.gl hg) m1 m2 m3 (pa_cons (pe_var (pos := p2) (i := 0) (by rw [kx.nN]; exact h0) (kx.vis hv)) pa_nil) (by decide) rfl) (.inl rfl)
  rw [hst]
  have step : ∀ C : Ctx, COk T C → PSs (cxOf CX0 P w K mg base T.N "law" (defScope st) f cdv A outer s H E).nox xs (tX C fun ρ s => Mini.ex Fs Gs 40 20 ρ zs s) := fun C kc => mSs_pss kc ky 20 zs xs hc
  -- the rest, whatever the source's places are
  have rest : PSs (cxOf CX0 P w K mg base T.N "law" (defScope st) f cdv A outer s H E).nox xs (fun D σ H => ∃ C, COk T C ∧ tX C (fun ρ s => Mini.ex Fs Gs 40 20 ρ zs s) D σ H) := ⟨fun pins s σ H D I ⟨C, kc, t⟩ => (step C kc).run pins s σ H D I t⟩
  refine ⟨_, pss_cons first rest, .ref a, ?_, a, ns, rfl, sq, hl, fun H' p c sm hp hc' sat => ?_⟩
  · show (L2.start T.N [V.ref a])[0]? = _
    rfl
  · obtain ⟨ρ, s', e⟩ := law ns hl
    have trk : ∀ b, False → ∃ o, H' b = some o ∧ ∀ vs, o ≠ HO.tup vs := fun _ z => z.elim
    let C : Ctx := ⟨H', fun _ => False, some (T.si, p, c), trk⟩
    refine ⟨C, ⟨fun i p c z => by cases z; rfl, fun _ => ⟨p, c, rfl⟩⟩, (fun _ => none), List.replicate T.N.length none, some (Mini.srcOf ns), .rt (.bl true), ρ, s', ?_, e, fun A' σ' H2 F' _ v rv => ?_⟩
    · refine ⟨?_, fun i x hx => ?_, fun i j a h => (nomatch h), fun i a h => (nomatch h), .refl, ⟨?_, sat⟩, ⟨0, fun _ _ => rfl⟩⟩
      · rw [List.length_replicate, List.length_set]
        unfold L2.start
        have hpos : 1 ≤ T.N.length := by
          have := (List.getElem?_eq_some_iff.mp h0).1
          omega
        simp only [List.length_append, List.length_map, List.length_cons, List.length_nil, List.length_replicate]
        omega
      · rw [List.getElem?_replicate] at hx
        split at hx <;> cases hx
      · refine List.getElem?_set_self ?_
        unfold L2.start
        have hpos : 1 ≤ T.N.length := by
          have := (List.getElem?_eq_some_iff.mp h0).1
          omega
        simp only [List.length_append, List.length_map, List.length_cons, List.length_nil, List.length_replicate]
        omega
    · cases rv
      exact q _
/-- a def that promises nothing -/
theorem okNever {P : Program} {w : World} {K : PySem.W.Frag} {mg : Str → Option Value} {base : Heap} {k : Nat} {nm : Str} {st : Stmt} (X : Txt K mg base) (m : IsMade K nm st) (hb : ∀ (f : Addr) (fd : FuncData), Made K nm st f fd → ∃ ps, Binds K fd ps []) : OkD P w K mg base k nm (spG fun _ _ => none) := by
  obtain ⟨f, fd, m⟩ := m.made
  obtain ⟨ps, b⟩ := hb f fd m
  refine ⟨f, fd, ps, X.get _ _ m.at_, m.fun_.kp, b, ⟨fun vs H Q E h => ?_, fun A outer s H args us vs Q E _ _ _ _ _ h => ?_⟩⟩
  · obtain ⟨O, p, c, S, us, ds, r, S', _, _, _, _, e, _⟩ := h
    cases e
  · obtain ⟨O, p, c, S, us, ds, r, S', _, _, _, _, e, _⟩ := h
    cases e
/-- the builtins' names stand for the builtins -/
abbrev NoBlt (K : PySem.W.Frag) : Prop :=
  PySem.W.nsIn K mainGlobals "len" = some none ∧ PySem.W.nsIn K mainGlobals "tuple" = some none ∧ PySem.W.nsIn K mainGlobals "list" = some none ∧ PySem.W.nsIn K mainGlobals "sorted" = some none ∧ PySem.W.nsIn K mainGlobals "sum" = some none ∧
  PySem.W.nsIn K mainGlobals "max" = some none ∧ PySem.W.nsIn K mainGlobals "min" = some none ∧ PySem.W.nsIn K mainGlobals "abs" = some none ∧ PySem.W.nsIn K mainGlobals "int" = some none ∧ PySem.W.nsIn K mainGlobals "repr" = some none ∧ PySem.W.nsIn K mainGlobals "all" = some none ∧
  PySem.W.nsIn K mainGlobals "dict" = some none ∧ PySem.W.nsIn K mainGlobals "range" = some none ∧ PySem.W.nsIn K mainGlobals "enumerate" = some none ∧ PySem.W.nsIn K mainGlobals "zip" = some none ∧ PySem.W.nsIn K mainGlobals "isinstance" = some none ∧
  PySem.W.nsIn K mainGlobals "str" = some none ∧ PySem.W.nsIn K mainGlobals "bool" = some none
theorem noBlt {K : PySem.W.Frag} {h : Heap} {mg : Str → Option Value} (X : K.In h) (G : h.Ns mainGlobals mg) (b : NoBlt K) : ∀ y, y ∈ bltN → mg y = none := by
  obtain ⟨b1, b2, b3, b4, b5, b6, b7, b8, b9, b10, b11, b12, b13, b14, b15, b16, b17, b18⟩ := b
  intro y hy
  unfold bltN at hy
  simp only [List.mem_cons, List.not_mem_nil, or_false] at hy
  rcases hy with rfl | rfl | rfl | rfl | rfl | rfl | rfl | rfl | rfl | rfl | rfl | rfl | rfl | rfl | rfl | rfl | rfl | rfl <;> exact PySem.W.mg_none_of X G (by assumption)
end Snd

/-! ## Eval -/
set_option autoImplicit false
set_option linter.all false
/-! Eval: mini evaluated by simp: one equation a form; the continuation is not entered before its value stands. -/
namespace Mini
/-- holds a term still: what hangs on it is not rewritten -/
inductive Tag {γ : Type} (f : γ) : Type where
  | mk
def bindR {α β : Type} (x : Option (α × S)) (f : α → S → Option β) (_ : Tag f := .mk) : Option β := x.bind fun p => f p.1 p.2
def ob {α β : Type} (x : Option α) (f : α → Option β) (_ : Tag f := .mk) : Option β := x.bind f
def sel {β : Type} (b : Bool) (x y : β) (_ : Tag x := .mk) (_ : Tag y := .mk) : β := if b then x else y
def lim {β : Type} (k : Nat) (x : Option β) (_ : Tag x := .mk) : Option β := if k ≤ LIM then x else none
def seqT (x : Res) (f : Env → S → Res) (_ : Tag f := .mk) : Res := seqR x f
def dlim (k : Nat) : Bool := decide (k < LIM)
theorem dlim_ok {k : Nat} (h : k < 1000000) : dlim k = true := decide_eq_true h
/-- a for, by its body's text -/
def forX (x : Ex) (b : List St) (tg : T) (xs : List D) (ρ : Env) (s : S) : Res := forL (fun ρ s => x ρ b s) tg xs ρ s
def testX (v : Ev) (c : E) (ρ : Env) (s : S) : Option (Bool × S) := bindR (v ρ c s) fun d s => ob (asBl d) fun t => some (t, s)
def whileX (v : Ev) (x : Ex) (c : E) (b : List St) (m : Nat) (ρ : Env) (s : S) : Res := whileL (testX v c) (fun ρ s => x ρ b s) m ρ s
def srcPut (ρ : Env) (k : Nat) : D → S → Res
  | .int i, some S => some (.nx, ρ, some (S.put k i))
  | _, _ => none
section
variable {α β : Type} {Fs : List Fn} {Gs : List Gn} {n : Nat} {ρ : Env} {s : S}
theorem sel_true {x y : α} : sel true x y = x := (rfl)
theorem sel_false {x y : α} : sel false x y = y := (rfl)
theorem lim_ok {k : Nat} {x : Option α} (h : k ≤ LIM) : lim k x = x := if_pos h
theorem bindR_val {a : α} {f : α → S → Option β} : bindR (some (a, s)) f = f a s := (rfl)
theorem bindR_no {f : α → S → Option β} : bindR none f = none := (rfl)
theorem ob_val {a : α} {f : α → Option β} : ob (some a) f = f a := (rfl)
theorem retO_val {a : α} : retO (some a) s = some (a, s) := (rfl)
theorem lim_le {k : Nat} {x : Option α} (h : k ≤ 1000000) : lim k x = x := if_pos h
theorem seqR_nx {f : Env → S → Res} : seqT (some (.nx, ρ, s)) f = f ρ s := (rfl)
theorem seqR_rt {d : D} {f : Env → S → Res} : seqT (some (.rt d, ρ, s)) f = some (.rt d, ρ, s) := (rfl)
theorem seqR_bk {f : Env → S → Res} : seqT (some (.bk, ρ, s)) f = some (.bk, ρ, s) := (rfl)
theorem seqR_ct {f : Env → S → Res} : seqT (some (.ct, ρ, s)) f = some (.ct, ρ, s) := (rfl)
theorem nxt_val : nxt (some ρ) s = some (.nx, ρ, s) := (rfl)
theorem runL_nil {f : Env → St → S → Res} : runL f [] ρ s = some (.nx, ρ, s) := (rfl)
theorem runL_cons {f : Env → St → S → Res} {z : St} {r : List St} : runL f (z :: r) ρ s = seqT (f ρ z s) fun ρ s => runL f r ρ s := (rfl)
theorem ex_s {m : Nat} {b : List St} : ex Fs Gs n (m + 1) ρ b s = runL (fun ρ st s => stepS (ev Fs Gs n) (ex Fs Gs n m) ρ st s) b ρ s := (rfl)
theorem evA_o {v : Ev} {e : E} (h : isOwn e = false) : evA v ρ e s = v ρ e s := by cases e <;> first | rfl | cases h
theorem evA_own {v : Ev} {i : Nat} : evA v ρ (.own i) s = match ρ[i]? with
    | some (some (.own xs)) => some (.lst xs, s)
    | some (some (.ownd kvs)) => some (.dic kvs, s)
    | _ => none := (rfl)
theorem evA_var {v : Ev} {i : Nat} : evA v ρ (.var i) s = v ρ (.var i) s := (rfl)
theorem evA_non {v : Ev}  : evA v ρ (.non) s = v ρ (.non) s := (rfl)
theorem evA_bl {v : Ev} {b : Bool} : evA v ρ (.bl b) s = v ρ (.bl b) s := (rfl)
theorem evA_int {v : Ev} {i : Int} : evA v ρ (.int i) s = v ρ (.int i) s := (rfl)
theorem evA_str {v : Ev} {x : String} : evA v ρ (.str x) s = v ρ (.str x) s := (rfl)
theorem evA_bin {v : Ev} {o : BO} {a b : E} : evA v ρ (.bin o a b) s = v ρ (.bin o a b) s := (rfl)
theorem evA_neg {v : Ev} {a : E} : evA v ρ (.neg a) s = v ρ (.neg a) s := (rfl)
theorem evA_not {v : Ev} {a : E} : evA v ρ (.not a) s = v ρ (.not a) s := (rfl)
theorem evA_and {v : Ev} {a b : E} : evA v ρ (.and a b) s = v ρ (.and a b) s := (rfl)
theorem evA_or {v : Ev} {a b : E} : evA v ρ (.or a b) s = v ρ (.or a b) s := (rfl)
theorem evA_cmp {v : Ev} {o : CO} {a b : E} : evA v ρ (.cmp o a b) s = v ρ (.cmp o a b) s := (rfl)
theorem evA_ite {v : Ev} {c a b : E} : evA v ρ (.ite c a b) s = v ρ (.ite c a b) s := (rfl)
theorem evA_tup {v : Ev} {es : List E} : evA v ρ (.tup es) s = v ρ (.tup es) s := (rfl)
theorem evA_lst {v : Ev} {es : List E} : evA v ρ (.lst es) s = v ρ (.lst es) s := (rfl)
theorem evA_rng {v : Ev} {tu : Bool} {lo : Option E} {hi : E} : evA v ρ (.rng tu lo hi) s = v ρ (.rng tu lo hi) s := (rfl)
theorem evA_dic0 {v : Ev}  : evA v ρ (.dic0) s = v ρ (.dic0) s := (rfl)
theorem evA_idx {v : Ev} {a i : E} : evA v ρ (.idx a i) s = v ρ (.idx a i) s := (rfl)
theorem evA_slice {v : Ev} {a : E} {lo hi : Option E} : evA v ρ (.slice a lo hi) s = v ρ (.slice a lo hi) s := (rfl)
theorem evA_rev {v : Ev} {a : E} : evA v ρ (.rev a) s = v ρ (.rev a) s := (rfl)
theorem evA_comp {v : Ev} {elt : E} {tg : T} {it : It} {vs : List Nat} {ifs : List E} : evA v ρ (.comp elt tg it vs ifs) s = v ρ (.comp elt tg it vs ifs) s := (rfl)
theorem evA_f1 {v : Ev} {f : F1} {a : E} : evA v ρ (.f1 f a) s = v ρ (.f1 f a) s := (rfl)
theorem evA_f2 {v : Ev} {f : F2} {a b : E} : evA v ρ (.f2 f a b) s = v ρ (.f2 f a b) s := (rfl)
theorem evA_call {v : Ev} {k : Nat} {es : List E} : evA v ρ (.call k es) s = v ρ (.call k es) s := (rfl)
theorem evA_callS {v : Ev} {k : Nat} {es : List E} : evA v ρ (.callS k es) s = v ρ (.callS k es) s := (rfl)
theorem evA_srcI {v : Ev} {k : Nat} : evA v ρ (.srcI k) s = v ρ (.srcI k) s := (rfl)
theorem evA_srcN {v : Ev} : evA v ρ .srcN s = v ρ .srcN s := (rfl)
theorem evA_cmp2 {v : Ev} {o p : CO} {a b c : E} : evA v ρ (.cmp2 o p a b c) s = v ρ (.cmp2 o p a b c) s := (rfl)
theorem evA_isi {v : Ev} {a : E} {t : Ty} : evA v ρ (.isi a t) s = v ρ (.isi a t) s := (rfl)
theorem evA_dicPut {v : Ev} {a b c : E} : evA v ρ (.dicPut a b c) s = v ρ (.dicPut a b c) s := (rfl)
theorem binD_add {i j : Int} : binD .add (.int i) (.int j) = some (.int (i + j)) := (rfl)
theorem binD_sub {i j : Int} : binD .sub (.int i) (.int j) = some (.int (i - j)) := (rfl)
theorem e_non : ev Fs Gs (n + 1) ρ .non s = some (.non, s) := (rfl)
theorem e_bl {b : Bool} : ev Fs Gs (n + 1) ρ (.bl b) s = some (.bl b, s) := (rfl)
theorem e_int {i : Int} : ev Fs Gs (n + 1) ρ (.int i) s = some (.int i, s) := (rfl)
theorem e_str {x : String} : ev Fs Gs (n + 1) ρ (.str x) s = some (.str x, s) := (rfl)
theorem e_var {i : Nat} : ev Fs Gs (n + 1) ρ (.var i) s = match ρ[i]? with
    | some (some (.val d)) => some (d, s)
    | _ => none := (rfl)
theorem e_bin {o : BO} {a b : E} : ev Fs Gs (n + 1) ρ (.bin o a b) s = bindR (evA (ev Fs Gs n) ρ a s) fun x s => bindR (evA (ev Fs Gs n) ρ b s) fun y s => retO (binD o x y) s := (rfl)
theorem e_neg {i : Int} : ev Fs Gs (n + 2) ρ (.neg (.int i)) s = some (.int (-i), s) := (rfl)
theorem e_not {a : E} : ev Fs Gs (n + 1) ρ (.not a) s = bindR (ev Fs Gs n ρ a s) fun x s => retO ((asBl x).map fun b => .bl (!b)) s := (rfl)
theorem e_and {a b : E} : ev Fs Gs (n + 1) ρ (.and a b) s = bindR (ev Fs Gs n ρ a s) fun x s => ob (asBl x) fun c => sel c (bindR (ev Fs Gs n ρ b s) fun y s => retO ((asBl y).map .bl) s) (some (.bl false, s)) := (rfl)
theorem e_or {a b : E} : ev Fs Gs (n + 1) ρ (.or a b) s = bindR (ev Fs Gs n ρ a s) fun x s => ob (asBl x) fun c => sel c (some (.bl true, s)) (bindR (ev Fs Gs n ρ b s) fun y s => retO ((asBl y).map .bl) s) := (rfl)
theorem e_cmp {o : CO} {a b : E} : ev Fs Gs (n + 1) ρ (.cmp o a b) s = bindR (evA (ev Fs Gs n) ρ a s) fun x s => bindR (evA (ev Fs Gs n) ρ b s) fun y s => retO ((cmpD o x y).map .bl) s := (rfl)
theorem e_cmp2 {o p : CO} {a b c : E} : ev Fs Gs (n + 1) ρ (.cmp2 o p a b c) s = bindR (evA (ev Fs Gs n) ρ a s) fun x s => bindR (evA (ev Fs Gs n) ρ b s) fun y s => ob (cmpD o x y) fun t =>
      sel t (bindR (evA (ev Fs Gs n) ρ c s) fun z s => retO ((cmpD p y z).map .bl) s) (some (.bl false, s)) := (rfl)
theorem e_ite {c a b : E} : ev Fs Gs (n + 1) ρ (.ite c a b) s = bindR (ev Fs Gs n ρ c s) fun x s => ob (asBl x) fun t => sel t (ev Fs Gs n ρ a s) (ev Fs Gs n ρ b s) := (rfl)
theorem e_tup {es : List E} : ev Fs Gs (n + 1) ρ (.tup es) s = bindR (evL (ev Fs Gs n ρ) es s) fun xs s => lim xs.length (some (.tup xs, s)) := (rfl)
theorem e_lst {es : List E} : ev Fs Gs (n + 1) ρ (.lst es) s = bindR (evL (ev Fs Gs n ρ) es s) fun xs s => lim xs.length (some (.lst xs, s)) := (rfl)
def rngD (tu : Bool) (i : Int) : D → Option D
  | .int j => (rangeL i j).bind fun xs => some (if tu then .tup xs else .lst xs)
  | _ => none
theorem e_rng0 {tu : Bool} {hi : E} : ev Fs Gs (n + 1) ρ (.rng tu none hi) s = bindR (ev Fs Gs n ρ hi s) fun h s => retO (rngD tu 0 h) s := by
  show ((ev Fs Gs n ρ hi s).bind fun p => _) = (ev Fs Gs n ρ hi s).bind fun p => _
  congr 1
  funext p
  obtain ⟨d, s⟩ := p
  cases d with
  | int j => simp only [rngD]; cases rangeL 0 j <;> rfl
  | _ => rfl
theorem e_dic0 : ev Fs Gs (n + 1) ρ .dic0 s = some (.dic [], s) := (rfl)
theorem e_idx {a i : E} : ev Fs Gs (n + 1) ρ (.idx a i) s = bindR (evA (ev Fs Gs n) ρ a s) fun x s => bindR (ev Fs Gs n ρ i s) fun y s => retO (idxD x y) s := (rfl)
theorem e_slice {a : E} {lo hi : Option E} : ev Fs Gs (n + 1) ρ (.slice a lo hi) s = bindR (evA (ev Fs Gs n) ρ a s) fun x s => bindR (evO (ev Fs Gs n ρ) lo s) fun l s => bindR (evO (ev Fs Gs n ρ) hi s) fun h s => retO (sliceD x l h) s := (rfl)
theorem e_rev {a : E} : ev Fs Gs (n + 1) ρ (.rev a) s = bindR (evA (ev Fs Gs n) ρ a s) fun x s => retO (revD x) s := (rfl)
theorem e_comp {elt : E} {tg : T} {it : It} {vs : List Nat} {ifs : List E} : ev Fs Gs (n + 1) ρ (.comp elt tg it vs ifs) s = bindR (evI (ev Fs Gs n) ρ it s) fun xs s => lim xs.length (bindR (compL (ev Fs Gs n) (wipe ρ vs) elt tg ifs xs s) fun ys s => some (.lst ys, s)) := (rfl)
theorem e_f1 {f : F1} {a : E} : ev Fs Gs (n + 1) ρ (.f1 f a) s = bindR (evA (ev Fs Gs n) ρ a s) fun x s => retO (f1D f x) s := (rfl)
theorem e_f2 {f : F2} {a b : E} : ev Fs Gs (n + 1) ρ (.f2 f a b) s = bindR (evA (ev Fs Gs n) ρ a s) fun x s => bindR (evA (ev Fs Gs n) ρ b s) fun y s => retO (f2D f x y) s := (rfl)
theorem e_isi {a : E} {t : Ty} : ev Fs Gs (n + 1) ρ (.isi a t) s = bindR (evA (ev Fs Gs n) ρ a s) fun x s => retO ((isTy t x).map .bl) s := (rfl)
theorem e_call {k : Nat} {es : List E} : ev Fs Gs (n + 1) ρ (.call k es) s = bindR (evL (evA (ev Fs Gs n) ρ) es s) fun xs s => ob (Fs[k]?) fun F => ob (F xs) fun r => sel (es.any isOwn && !still r) none (some (r, s)) := (rfl)
theorem e_callS {k : Nat} {es : List E} {S0 : Src} {xs : List D} (h : evL (evA (ev Fs Gs n) ρ) es s = some (xs, some S0)) : ev Fs Gs (n + 1) ρ (.callS k es) s = ob (Gs[k]?) fun G => ob (G S0 xs) fun p => if es.any isOwn && !still p.1 then none else some (p.1, some p.2) := by
  show bindS (evL (evA (ev Fs Gs n) ρ) es s) (fun xs s => match s, Gs[k]? with
    | some src, some G => (G src xs).bind fun p => if es.any isOwn && !still p.1 then none else some (p.1, some p.2)
    | _, _ => none) = _
  rw [h]
  show (match some S0, Gs[k]? with
    | some src, some G => (G src xs).bind fun p => if es.any isOwn && !still p.1 then none else some (p.1, some p.2)
    | _, _ => none) = _
  cases Gs[k]? <;> rfl
def callG : Option Gn → S → List D → Bool → Option (D × S)
  | some G, some S0, xs, b => ob (G S0 xs) fun p => sel (b && !still p.1) none (some (p.1, some p.2))
  | _, _, _, _ => none
theorem callG_some {G : Gn} {S0 : Src} {xs : List D} {b : Bool} : callG (some G) (some S0) xs b = ob (G S0 xs) fun p => sel (b && !still p.1) none (some (p.1, some p.2)) := (rfl)
theorem e_callG {k : Nat} {es : List E} : ev Fs Gs (n + 1) ρ (.callS k es) s = bindR (evL (evA (ev Fs Gs n) ρ) es s) fun xs s => callG (Gs[k]?) s xs (es.any isOwn) := by
  have e0 : ev Fs Gs (n + 1) ρ (.callS k es) s = bindR (evL (evA (ev Fs Gs n) ρ) es s) fun xs s => (match s, Gs[k]? with
    | some src, some G => (G src xs).bind fun p => if es.any isOwn && !still p.1 then none else some (p.1, some p.2)
    | _, _ => none) := (rfl)
  have e1 : (fun (xs : List D) (s : S) => (match s, Gs[k]? with
    | some src, some G => (G src xs).bind fun p => if es.any isOwn && !still p.1 then none else some (p.1, some p.2)
    | _, _ => none : Option (D × S))) = fun xs s => callG (Gs[k]?) s xs (es.any isOwn) := by
    funext xs s
    cases s with
    | none => cases Gs[k]? <;> rfl
    | some S0 => cases Gs[k]? <;> rfl
  rw [e0, e1]
theorem srcSet_int {v : Ev} {x : Ex} {k : Nat} {e : E} : stepS v x ρ (.srcSet k e) s = bindR (v ρ e s) fun d s => srcPut ρ k d s := by
  have e0 : stepS v x ρ (.srcSet k e) s = (v ρ e s).bind fun p => (match p.1, p.2 with
    | .int i, some S => some (Out.nx, ρ, some (S.put k i))
    | _, _ => none : Res) := (rfl)
  rw [e0]
  cases v ρ e s with
  | none => rfl
  | some p =>
    obtain ⟨d, s⟩ := p
    cases d <;> first | rfl | (cases s <;> rfl)
theorem srcPut_int {k : Nat} {i : Int} {S0 : Src} : srcPut ρ k (.int i) (some S0) = some (.nx, ρ, some (S0.put k i)) := (rfl)
theorem e_srcI {k : Nat} {S0 : Src} : ev Fs Gs (n + 1) ρ (.srcI k) (some S0) = some (.int (S0.get k), some S0) := (rfl)
theorem e_srcN {S0 : Src} : ev Fs Gs (n + 1) ρ .srcN (some S0) = some (.int (S0.cells.length : Int), some S0) := (rfl)
theorem evL_nil {v : E → S → Option (D × S)} : evL v [] s = some ([], s) := (rfl)
theorem evL_cons {v : E → S → Option (D × S)} {e : E} {es : List E} : evL v (e :: es) s = bindR (v e s) fun x s => bindR (evL v es s) fun xs s => some (x :: xs, s) := (rfl)
theorem evO_none {v : E → S → Option (D × S)} : evO v none s = some (none, s) := (rfl)
theorem evO_some {v : E → S → Option (D × S)} {e : E} : evO v (some e) s = bindR (v e s) fun x s => some (some x, s) := (rfl)
theorem runF_is {d : Def} {xs : List D} (h : xs.length = d.args) : runF Fs d xs = (endR (ex Fs [] 40 20 (startE d xs) d.body none)).map (·.1) := by unfold runF; rw [if_pos h]
/-! statements -/
theorem s_set {v : Ev} {x : Ex} {i : Nat} {e : E} : stepS v x ρ (.set i e) s = bindR (v ρ e s) fun d s => nxt (setV ρ i (.val d)) s := (rfl)
theorem s_setO {v : Ev} {x : Ex} {i : Nat} {e : E} : stepS v x ρ (.setO i e) s = sel (fresh e) (bindR (v ρ e s) fun d s => ob (asOwn d) fun y => nxt (setV ρ i y) s) none := (rfl)
theorem fresh_lst {es : List E} : fresh (.lst es) = true := (rfl)
theorem fresh_comp {elt : E} {tg : T} {it : It} {vs : List Nat} {ifs : List E} : fresh (.comp elt tg it vs ifs) = true := (rfl)
theorem fresh_dic0 : fresh .dic0 = true := (rfl)
theorem fresh_rng {tu : Bool} {lo : Option E} {hi : E} : fresh (.rng tu lo hi) = true := (rfl)
theorem fresh_list {a : E} : fresh (.f1 .list a) = true := (rfl)
theorem fresh_sorted {a : E} : fresh (.f1 .sorted a) = true := (rfl)
theorem fresh_dict {a : E} : fresh (.f1 .dict a) = true := (rfl)
theorem fresh_add {a b : E} : fresh (.bin .add a b) = true := (rfl)
theorem fresh_mul {a b : E} : fresh (.bin .mul a b) = true := (rfl)
theorem fresh_slice {a : E} {l h : Option E} : fresh (.slice a l h) = true := (rfl)
theorem asOwn_lst {xs : List D} : asOwn (.lst xs) = some (.own xs) := (rfl)
theorem asOwn_dic {xs : List (D × D)} : asOwn (.dic xs) = some (.ownd xs) := (rfl)
theorem s_unpack {v : Ev} {x : Ex} {ts : List T} {e : E} : stepS v x ρ (.unpack ts e) s = bindR (v ρ e s) fun d s => nxt (bindT 9 (.tup ts) d ρ) s := (rfl)
theorem s_append {v : Ev} {x : Ex} {i : Nat} {e : E} : stepS v x ρ (.append i e) s = bindR (v ρ e s) fun d s => ob (getOwn ρ i) fun xs => lim (xs.length + 1) (nxt (setV ρ i (.own (xs ++ [d]))) s) := (rfl)
theorem s_iff {v : Ev} {x : Ex} {c : E} {a b : List St} : stepS v x ρ (.iff c a b) s = bindR (v ρ c s) fun d s => ob (asBl d) fun t => sel t (x ρ a s) (x ρ b s) := (rfl)
theorem s_for {v : Ev} {x : Ex} {tg : T} {it : It} {b : List St} : stepS v x ρ (.for_ tg it b) s = sel (itOwn it) none (bindR (evI v ρ it s) fun xs s => forX x b tg xs ρ s) := (rfl)
theorem s_while {v : Ev} {x : Ex} {c : E} {m : Nat} {b : List St} : stepS v x ρ (.while_ c m b) s = whileX v x c b m ρ s := (rfl)
theorem s_pass {v : Ev} {x : Ex} : stepS v x ρ .pass s = some (.nx, ρ, s) := (rfl)
theorem s_freeze {v : Ev} {x : Ex} {i : Nat} : stepS v x ρ (.freeze i) s = match ρ[i]? with
    | some (some y) => nxt (setV ρ i (freezeS y)) s
    | _ => none := (rfl)
theorem s_extend {v : Ev} {x : Ex} {i : Nat} {e : E} : stepS v x ρ (.extend i e) s = bindR (v ρ e s) fun d s => ob (itemsOf d) fun ys => ob (getOwn ρ i) fun xs => lim (xs.length + ys.length) (nxt (setV ρ i (.own (xs ++ ys))) s) := (rfl)
def parOk : List Tg → List E → Bool
  | .nmO _ :: ts, e :: es => fresh e && parOk ts es
  | _ :: ts, _ :: es => parOk ts es
  | _, _ => true
theorem parOk_nil {es : List E} : parOk [] es = true := (rfl)
theorem parOk_nm {i : Nat} {e : E} {ts : List Tg} {es : List E} : parOk (.nm i :: ts) (e :: es) = parOk ts es := (rfl)
theorem parOk_sub {i : Nat} {k e : E} {ts : List Tg} {es : List E} : parOk (.sub i k :: ts) (e :: es) = parOk ts es := (rfl)
theorem parOk_tup {us : List T} {e : E} {ts : List Tg} {es : List E} : parOk (.tup us :: ts) (e :: es) = parOk ts es := (rfl)
theorem parOk_nmO {i : Nat} {e : E} {ts : List Tg} {es : List E} : parOk (.nmO i :: ts) (e :: es) = (fresh e && parOk ts es) := (rfl)
theorem parOk_eq : ∀ (ts : List Tg) (es : List E), (ts.zip es).all (fun q => match q.1 with | .nmO _ => fresh q.2 | _ => true) = parOk ts es
  | [], es => (rfl)
  | t :: ts, [] => by cases t <;> rfl
  | t :: ts, e :: es => by
    rw [List.zip_cons_cons, List.all_cons, parOk_eq ts es]
    cases t <;> first | rfl | exact Bool.true_and _
theorem s_par {v : Ev} {x : Ex} {ts : List Tg} {es : List E} : stepS v x ρ (.par ts es) s = sel (parOk ts es) (bindR (evL (v ρ) es s) fun ds s => nxt (tgsSet v s ts ds ρ) s) none := by
  rw [← parOk_eq]
  exact rfl
theorem tgs_nil {v : Ev} : tgsSet v s [] [] ρ = some ρ := (rfl)
theorem tgs_nm {v : Ev} {i : Nat} {ts : List Tg} {d : D} {ds : List D} : tgsSet v s (.nm i :: ts) (d :: ds) ρ = ob (setV ρ i (.val d)) fun ρ => tgsSet v s ts ds ρ := (rfl)
theorem tgs_nmO {v : Ev} {i : Nat} {ts : List Tg} {d : D} {ds : List D} : tgsSet v s (.nmO i :: ts) (d :: ds) ρ = ob (ob (asOwn d) fun x => setV ρ i x) fun ρ => tgsSet v s ts ds ρ := (rfl)
theorem s_sub {v : Ev} {x : Ex} {i : Nat} {k e : E} : stepS v x ρ (.sub i k e) s = bindR (v ρ e s) fun d s => bindR (v ρ k s) fun q s => nxt (subSet ρ i q d) s := (rfl)
/-- x[k] = v of one's own, the slot known -/
def subL (ρ : Env) (i : Nat) (v : D) (xs : List D) : D → Option Env
  | .int j => ob (ixN xs.length j) fun n => setV ρ i (.own (xs.set n v))
  | _ => none
theorem subSet_eq {i : Nat} {k v : D} : subSet ρ i k v = match ρ[i]? with
  | some (some (.own xs)) => subL ρ i v xs k
  | some (some (.ownd kvs)) => sel (keyD k && dlim kvs.length) (setV ρ i (.ownd (putK k v kvs))) none
  | _ => none := by
  unfold subSet
  generalize ρ[i]? = o
  match o with
  | none => rfl
  | some none => rfl
  | some (some (.val _)) => rfl
  | some (some (.own xs)) => cases k <;> rfl
  | some (some (.ownd kvs)) => rfl
theorem subL_int {i : Nat} {v : D} {xs : List D} {j : Int} : subL ρ i v xs (.int j) = ob (ixN xs.length j) fun n => setV ρ i (.own (xs.set n v)) := (rfl)
theorem getOwn_eq {i : Nat} : getOwn ρ i = match ρ[i]? with
  | some (some (.own xs)) => some xs
  | _ => none := (rfl)
def augD (o : BO) : D → D → Option D
  | .int i, .int j => binD o (.int i) (.int j)
  | _, _ => none
theorem augD_int {o : BO} {i j : Int} : augD o (.int i) (.int j) = binD o (.int i) (.int j) := (rfl)
theorem s_augN {v : Ev} {x : Ex} {i : Nat} {o : BO} {e : E} : stepS v x ρ (.augN i o e) s = match ρ[i]? with
  | some (some (.val d)) => bindR (v ρ e s) fun p s => ob (augD o d p) fun r => nxt (setV ρ i (.val r)) s
  | _ => none := by
  show (match ρ[i]? with
    | some (some (.val d)) => (v ρ e s).bind fun p => match d, p.1 with
      | .int _, .int _ => (binD o d p.1).bind fun r => nxt (setV ρ i (.val r)) p.2
      | _, _ => none
    | _ => none) = _
  generalize ρ[i]? = o
  match o with
  | none => rfl
  | some none => rfl
  | some (some (.own xs)) => rfl
  | some (some (.ownd kvs)) => rfl
  | some (some (.val d)) =>
    show (v ρ e s).bind _ = (v ρ e s).bind _
    congr 1
    funext p
    obtain ⟨q, s⟩ := p
    cases d <;> first | rfl | (cases q <;> rfl)
theorem s_remove {v : Ev} {x : Ex} {i : Nat} {e : E} {j : Int} {s2 : S} {l : List Int} {xs : List D} (h : v ρ e s = some (.int j, s2)) (h2 : getOwn ρ i = some xs) (h3 : intsOf xs = some l) : stepS v x ρ (.remove i e) s = ob (removeL (.int j) xs) fun ys => nxt (setV ρ i (.own ys)) s2 := by
  show ((v ρ e s).bind fun p => (getOwn ρ i).bind fun xs => match p.1, intsOf xs with
    | .int _, some _ => (removeL p.1 xs).bind fun ys => nxt (setV ρ i (.own ys)) p.2
    | _, _ => none) = _
  rw [h, h2]
  show (match D.int j, intsOf xs with
    | .int _, some _ => (removeL (.int j) xs).bind fun ys => nxt (setV ρ i (.own ys)) s2
    | _, _ => none) = _
  rw [h3]
  rfl
theorem s_popTo {v : Ev} {x : Ex} {i j : Nat} (h : (i = j) = False) : stepS v x ρ (.popTo j i) s = ob (getOwn ρ i) fun xs => ob xs.getLast? fun y => ob (setV ρ i (.own xs.dropLast)) fun ρ => nxt (setV ρ j (.val y)) s := by
  have e0 : stepS v x ρ (.popTo j i) s = if i = j then none else ob (getOwn ρ i) fun xs => ob (xs[xs.length - 1]?) fun y => ob (setV ρ i (.own xs.dropLast)) fun ρ => nxt (setV ρ j (.val y)) s := (rfl)
  have e1 : (fun xs : List D => ob (xs[xs.length - 1]?) fun y => ob (setV ρ i (.own xs.dropLast)) fun ρ => nxt (setV ρ j (.val y)) s) = fun xs => ob xs.getLast? fun y => ob (setV ρ i (.own xs.dropLast)) fun ρ => nxt (setV ρ j (.val y)) s := by
    funext xs
    rw [List.getLast?_eq_getElem?]
  rw [e0, if_neg (by rw [h]; exact not_false), e1]
theorem s_expr {v : Ev} {x : Ex} {e : E} : stepS v x ρ (.expr e) s = bindR (v ρ e s) fun d s => some (.nx, ρ, s) := (rfl)
theorem s_brk {v : Ev} {x : Ex} : stepS v x ρ .brk s = some (.bk, ρ, s) := (rfl)
theorem s_cont {v : Ev} {x : Ex} : stepS v x ρ .cont s = some (.ct, ρ, s) := (rfl)
theorem s_srcSet {v : Ev} {x : Ex} {k : Nat} {e : E} {i : Int} {S0 : Src} (h : v ρ e s = some (.int i, some S0)) : stepS v x ρ (.srcSet k e) s = some (.nx, ρ, some (S0.put k i)) := by
  have e0 : stepS v x ρ (.srcSet k e) s = (v ρ e s).bind fun p => (match p.1, p.2 with
    | .int i, some S => some (Out.nx, ρ, some (S.put k i))
    | _, _ => none : Res) := (rfl)
  rw [e0, h]
  exact rfl
theorem s_srcPop {v : Ev} {x : Ex} {S0 : Src} : stepS v x ρ .srcPop (some S0) = ob (S0.cells[S0.cells.length - 1]?) fun i => some (.nx, ρ, some { S0 with cells := S0.cells.dropLast, left := i }) := (rfl)
theorem s_orNil {v : Ev} {x : Ex} {i : Nat} {c : E} : stepS v x ρ (.orNil i c) s = bindR (v ρ c s) fun d s => ob (asBl d) fun b => ob (getOwn ρ i) fun _ => sel b (some (.nx, ρ, s)) (nxt (setV ρ i (.own [])) s) := (rfl)
theorem e_dicPut {a k w : E} : ev Fs Gs (n + 1) ρ (.dicPut a k w) s = bindR (evA (ev Fs Gs n) ρ a s) fun x s => bindR (ev Fs Gs n ρ k s) fun y s => bindR (ev Fs Gs n ρ w s) fun z s => match x with
    | .dic kvs => sel (keyD y && dlim kvs.length) (some (.dic (putK y z kvs), s)) none
    | _ => none := (rfl)
def zipO : D → D → Option (List D)
  | .lst xs, .lst ys => some (zipL xs ys)
  | .tup xs, .tup ys => some (zipL xs ys)
  | _, _ => none
theorem zip_lst {xs ys : List D} : zipO (.lst xs) (.lst ys) = some (zipL xs ys) := (rfl)
theorem zip_tup {xs ys : List D} : zipO (.tup xs) (.tup ys) = some (zipL xs ys) := (rfl)
theorem evI_zip {v : Ev} {a b : E} : evI v ρ (.zip a b) s = bindR (evA v ρ a s) fun x s => bindR (evA v ρ b s) fun y s => retO (zipO x y) s := by
  show (evA v ρ a s).bind _ = (evA v ρ a s).bind _
  congr 1
  funext p
  obtain ⟨d, s⟩ := p
  show (evA v ρ b s).bind _ = (evA v ρ b s).bind _
  congr 1
  funext q
  obtain ⟨e, s⟩ := q
  cases d <;> first | rfl | (cases e <;> rfl)
theorem evI_items {v : Ev} {a : E} {kvs : List (D × D)} {s2 : S} (h : evA v ρ a s = some (.dic kvs, s2)) : evI v ρ (.items a) s = some (kvs.map fun q => .tup [q.1, q.2], s2) := by
  show ((evA v ρ a s).bind _) = _
  rw [h]; rfl
theorem itOwn_zip {a b : E} : itOwn (.zip a b) = (isOwn a || isOwn b) := (rfl)
theorem itOwn_items {a : E} : itOwn (.items a) = isOwn a := (rfl)
theorem itOwn_seq {a : E} : itOwn (.seq a) = isOwn a := (rfl)
theorem itOwn_range {a : E} : itOwn (.range a) = false := (rfl)
theorem itOwn_range2 {a b : E} : itOwn (.range2 a b) = false := (rfl)
theorem itOwn_enum {a : E} : itOwn (.enum a) = isOwn a := (rfl)
def rangeO (i : D) (j : D) : Option (List D) := match i, j with
  | .int i, .int j => rangeL i j
  | _, _ => none
theorem evI_seq {v : Ev} {a : E} : evI v ρ (.seq a) s = bindR (evA v ρ a s) fun x s => ob (itemsOf x) fun xs => some (xs, s) := (rfl)
theorem evI_range {v : Ev} {a : E} : evI v ρ (.range a) s = bindR (v ρ a s) fun x s => retO (rangeO (.int 0) x) s := by
  show (v ρ a s).bind _ = (v ρ a s).bind _
  congr 1
  funext p
  obtain ⟨d, s⟩ := p
  cases d with
  | int j => show (rangeL 0 j).bind _ = retO (rangeL 0 j) s; cases rangeL 0 j <;> rfl
  | _ => rfl
theorem evI_range2 {v : Ev} {a b : E} : evI v ρ (.range2 a b) s = bindR (v ρ a s) fun x s => bindR (v ρ b s) fun y s => retO (rangeO x y) s := by
  show (v ρ a s).bind _ = (v ρ a s).bind _
  congr 1
  funext p
  obtain ⟨d, s⟩ := p
  show (v ρ b s).bind _ = (v ρ b s).bind _
  congr 1
  funext q
  obtain ⟨e, s⟩ := q
  show (match d, e with | .int i, .int j => (rangeL i j).bind fun xs => some (xs, s) | _, _ => none) = retO (rangeO d e) s
  unfold rangeO
  split
  · rename_i i j; cases rangeL i j <;> rfl
  · rfl
theorem evI_enum {v : Ev} {a : E} : evI v ρ (.enum a) s = bindR (evA v ρ a s) fun x s => ob (itemsOf x) fun xs => lim xs.length (some (enumL xs, s)) := (rfl)
theorem items_lst {xs : List D} : itemsOf (.lst xs) = some xs := (rfl)
theorem items_tup {xs : List D} : itemsOf (.tup xs) = some xs := (rfl)
theorem tests_nil {v : Ev} : testsL v ρ [] s = some (true, s) := (rfl)
theorem tests_cons {v : Ev} {c : E} {cs : List E} : testsL v ρ (c :: cs) s = bindR (v ρ c s) fun x s => ob (asBl x) fun b => sel b (testsL v ρ cs s) (some (false, s)) := (rfl)
theorem tests_two {v : Ev} {c d : E} {cs : List E} : testsL v ρ (c :: d :: cs) s = bindR (v ρ c s) fun x s => ob (asBl x) fun b => sel b (testsL v ρ (d :: cs) s) (some (false, s)) := (rfl)
theorem tests_one {v : Ev} {c : E} : testsL v ρ [c] s = bindR (v ρ c s) fun x s => ob (asBl x) fun b => some (b, s) := by
  rw [tests_cons]
  have e : (fun (x : D) (s : S) => ob (asBl x) fun b => sel b (testsL v ρ [] s) (some (false, s))) = fun (x : D) (s : S) => ob (asBl x) fun b => some (b, s) := by
    funext x s
    cases asBl x with
    | none => rfl
    | some b => cases b <;> rfl
  rw [e]
theorem selB {b c : Bool} {x : Option (D × S)} (h : b = true → x = some (.bl c, s)) : sel b x (some (.bl false, s)) = some (.bl (b && c), s) := by
  cases b with
  | true => rw [h rfl]; rfl
  | false => rfl
theorem selO {b c : Bool} {x : Option (D × S)} (h : b = false → x = some (.bl c, s)) : sel b (some (.bl true, s)) x = some (.bl (b || c), s) := by
  cases b with
  | true => rfl
  | false => rw [h rfl]; rfl
theorem asBl_bl {b : Bool} : asBl (.bl b) = some b := (rfl)
theorem s_ret {v : Ev} {x : Ex} {e : E} : stepS v x ρ (.ret (some e)) s = bindR (v (freezeAll ρ) e s) fun d s => some (.rt d, ρ, s) := (rfl)
theorem s_retN {v : Ev} {x : Ex} : stepS v x ρ (.ret none) s = some (.rt .non, ρ, s) := (rfl)
/-- a slot is filled -/
def putV : Env → Nat → Slot → Option Env
  | [], _, _ => none
  | _ :: ρ, 0, x => some (some x :: ρ)
  | o :: ρ, i + 1, x => ob (putV ρ i x) fun ρ => some (o :: ρ)
theorem putV_zero {o : Option Slot} {x : Slot} : putV (o :: ρ) 0 x = some (some x :: ρ) := (rfl)
theorem putV_succ {o : Option Slot} {x : Slot} {i : Nat} : putV (o :: ρ) (i + 1) x = ob (putV ρ i x) fun ρ => some (o :: ρ) := (rfl)
theorem put_eq {x : Slot} : ∀ (ρ : Env) (i : Nat), (if i < ρ.length then some (ρ.set i (some x)) else none) = putV ρ i x
  | [], i => by rw [if_neg (by simp)]; rfl
  | o :: ρ, 0 => by rw [if_pos (by simp)]; rfl
  | o :: ρ, i + 1 => by
    rw [putV_succ, ← put_eq ρ i]
    by_cases h : i < ρ.length
    · rw [if_pos (by simpa using h), if_pos h]; rfl
    · rw [if_neg (by simpa using h), if_neg h]; rfl
theorem setV_eq {x : Slot} {i : Nat} : setV ρ i x = putV ρ i x := put_eq ρ i
theorem bindT_var {i k : Nat} {d : D} : bindT (k + 1) (.var i) d ρ = putV ρ i (.val d) := put_eq ρ i
theorem bindT_tup2 {t u : T} {d e : D} {k : Nat} : bindT (k + 1) (.tup [t, u]) (.tup [d, e]) ρ = ob (bindT k t d ρ) fun ρ => bindT k u e ρ := by
  show (bindT k t d ρ).bind (fun ρ => (bindT k u e ρ).bind some) = (bindT k t d ρ).bind fun ρ => bindT k u e ρ
  congr 1; funext ρ; cases bindT k u e ρ <;> rfl
theorem bindT_lst2 {t u : T} {d e : D} {k : Nat} : bindT (k + 1) (.tup [t, u]) (.lst [d, e]) ρ = ob (bindT k t d ρ) fun ρ => bindT k u e ρ := by
  show (bindT k t d ρ).bind (fun ρ => (bindT k u e ρ).bind some) = (bindT k t d ρ).bind fun ρ => bindT k u e ρ
  congr 1; funext ρ; cases bindT k u e ρ <;> rfl
theorem wipe_nil : wipe ρ [] = ρ := (rfl)
theorem wipe_cons {i : Nat} {r : List Nat} : wipe ρ (i :: r) = (wipe ρ r).set i none := (rfl)
theorem endR_rt {d : D} : endR (some (.rt d, ρ, s)) = some (d, s) := (rfl)
theorem endR_nx : endR (some (.nx, ρ, s)) = some (.non, s) := (rfl)
theorem fz_nil : freezeAll [] = [] := (rfl)
theorem fz_none : freezeAll (none :: ρ) = none :: freezeAll ρ := (rfl)
theorem fz_val {d : D} : freezeAll (some (.val d) :: ρ) = some (.val d) :: freezeAll ρ := (rfl)
theorem fz_own {d : List D} : freezeAll (some (.own d) :: ρ) = some (.val (.lst d)) :: freezeAll ρ := (rfl)
theorem fz_ownd {d : List (D × D)} : freezeAll (some (.ownd d) :: ρ) = some (.val (.dic d)) :: freezeAll ρ := (rfl)
theorem fz_cons {o : Option Slot} : freezeAll (o :: ρ) = o.map freezeS :: freezeAll ρ := (rfl)
theorem fzS_val {d : D} : freezeS (.val d) = .val d := (rfl)
theorem fzS_own {d : List D} : freezeS (.own d) = .val (.lst d) := (rfl)
theorem fzS_ownd {d : List (D × D)} : freezeS (.ownd d) = .val (.dic d) := (rfl)
theorem own_var {i : Nat} : isOwn (.var i) = false := (rfl)
theorem own_idx {a i : E} : isOwn (.idx a i) = false := (rfl)
theorem own_call {k : Nat} {es : List E} : isOwn (.call k es) = false := (rfl)
theorem own_comp {elt : E} {tg : T} {it : It} {vs : List Nat} {ifs : List E} : isOwn (.comp elt tg it vs ifs) = false := (rfl)
theorem own_f1 {f : F1} {a : E} : isOwn (.f1 f a) = false := (rfl)
theorem own_tup {es : List E} : isOwn (.tup es) = false := (rfl)
theorem own_lst {es : List E} : isOwn (.lst es) = false := (rfl)
theorem own_non : isOwn .non = false := (rfl)
theorem own_bl {b : Bool} : isOwn (.bl b) = false := (rfl)
theorem own_int {b : Int} : isOwn (.int b) = false := (rfl)
theorem own_str {b : String} : isOwn (.str b) = false := (rfl)
theorem own_bin {o : BO} {a b : E} : isOwn (.bin o a b) = false := (rfl)
theorem own_neg {a : E} : isOwn (.neg a) = false := (rfl)
theorem own_not {a : E} : isOwn (.not a) = false := (rfl)
theorem own_and {a b : E} : isOwn (.and a b) = false := (rfl)
theorem own_or {a b : E} : isOwn (.or a b) = false := (rfl)
theorem own_cmp {o : CO} {a b : E} : isOwn (.cmp o a b) = false := (rfl)
theorem own_cmp2 {o p : CO} {a b c : E} : isOwn (.cmp2 o p a b c) = false := (rfl)
theorem own_ite {c a b : E} : isOwn (.ite c a b) = false := (rfl)
theorem own_slice {a : E} {l h : Option E} : isOwn (.slice a l h) = false := (rfl)
theorem own_rev {a : E} : isOwn (.rev a) = false := (rfl)
theorem own_f2 {f : F2} {a b : E} : isOwn (.f2 f a b) = false := (rfl)
theorem own_isi {a : E} {t : Ty} : isOwn (.isi a t) = false := (rfl)
theorem own_callS {k : Nat} {es : List E} : isOwn (.callS k es) = false := (rfl)
theorem own_rng {tu : Bool} {l : Option E} {h : E} : isOwn (.rng tu l h) = false := (rfl)
theorem own_own {i : Nat} : isOwn (.own i) = true := (rfl)
end

end Mini

local macro_rules | `(tactic| simp! [$ls,*]) => `(tactic| simp only [Mini.ex_s, Mini.runL_cons, Mini.runL_nil, Mini.s_ret, Mini.s_retN, Mini.s_set, Mini.s_iff, Mini.s_unpack, Mini.s_append, Mini.fz_nil, Mini.fz_cons, Mini.fzS_val, Mini.fzS_own, Mini.fzS_ownd, Option.map_none, List.map_cons, List.map_nil, Option.map_some, Mini.e_non, Mini.e_bl, Mini.e_int, Mini.e_str, Mini.e_var, Mini.e_bin, Mini.e_neg, Mini.e_not, Mini.e_and, Mini.e_or, Mini.e_cmp, Mini.e_cmp2, Mini.e_ite, Mini.e_tup, Mini.e_lst, Mini.e_idx, Mini.e_slice, Mini.e_rev, Mini.e_comp, Mini.fresh_lst, Mini.fresh_comp, Mini.fresh_dic0, Mini.fresh_rng, Mini.fresh_list, Mini.fresh_sorted, Mini.fresh_dict, Mini.fresh_add, Mini.fresh_mul, Mini.fresh_slice, Mini.asOwn_lst, Mini.asOwn_dic, Mini.e_rng0, Mini.e_dic0, Mini.s_setO, Mini.s_for, Mini.s_while, Mini.s_pass, Mini.s_freeze, Mini.s_extend, Mini.s_par, Mini.parOk_nil, Mini.parOk_nm, Mini.parOk_nmO, Mini.parOk_sub, Mini.parOk_tup, Mini.tgs_nil, Mini.tgs_nm, Mini.tgs_nmO, Mini.s_sub, Mini.subSet_eq, Mini.subL_int, Mini.getOwn_eq, Mini.augD_int, Mini.s_augN, Mini.s_popTo, Nat.reduceEqDiff, eq_self, Mini.s_expr, Mini.s_brk, Mini.s_cont, Mini.s_srcPop, Mini.s_orNil, Mini.zip_lst, Mini.zip_tup, Mini.evI_zip, Mini.itOwn_zip, Mini.itOwn_items, Bool.and_true, Bool.true_and, Bool.and_self, Mini.e_srcN, Mini.e_srcI, Mini.e_callG, Mini.callG_some, Mini.srcSet_int, Mini.srcPut_int, Mini.own_f1, Mini.itOwn_seq, Mini.itOwn_range, Mini.itOwn_range2, Mini.itOwn_enum, Mini.evI_seq, Mini.evI_range, Mini.evI_range2, Mini.evI_enum, Mini.items_lst, Mini.items_tup, Mini.tests_nil, Mini.tests_one, Mini.tests_two, Mini.asBl_bl, Mini.e_f1, Mini.e_f2, Mini.e_isi, Mini.e_call, Mini.evL_cons, Mini.evL_nil, Mini.evO_none, Mini.evO_some, Mini.evA_var, Mini.evA_non, Mini.evA_bl, Mini.evA_int, Mini.evA_str, Mini.evA_bin, Mini.evA_neg, Mini.evA_not, Mini.evA_and, Mini.evA_or, Mini.evA_cmp, Mini.evA_ite, Mini.evA_tup, Mini.evA_lst, Mini.evA_rng, Mini.evA_dic0, Mini.evA_idx, Mini.evA_slice, Mini.evA_rev, Mini.evA_comp, Mini.evA_f1, Mini.evA_f2, Mini.evA_call, Mini.evA_callS, Mini.evA_srcI, Mini.evA_srcN, Mini.evA_cmp2, Mini.evA_isi, Mini.evA_dicPut, Mini.evA_own, Mini.bindR_val, Mini.bindR_no, Mini.lim_le, Nat.zero_le, Nat.reduceLeDiff, Nat.reduceAdd, Nat.zero_add, List.length_cons, List.length_nil, List.length_map, List.length_range, List.length_append, Mini.retO_val, Mini.ob_val, Mini.nxt_val, List.getElem?_cons_zero, List.getElem?_cons_succ, List.any_cons, List.any_nil, Mini.own_var, Mini.own_idx, Mini.own_call, Mini.own_comp, Mini.own_own, Mini.own_tup, Mini.own_lst, Mini.own_non, Mini.own_bl, Mini.own_int, Mini.own_str, Mini.own_bin, Mini.own_neg, Mini.own_not, Mini.own_and, Mini.own_or, Mini.own_cmp, Mini.own_cmp2, Mini.own_ite, Mini.own_slice, Mini.own_rev, Mini.own_f2, Mini.own_isi, Mini.own_callS, Mini.own_rng, Bool.or_false, Bool.false_or, Bool.false_and, Bool.not_true, Bool.not_false, Mini.sel_true, Mini.sel_false, Mini.binD_add, Mini.binD_sub, Mini.seqR_nx, Mini.seqR_rt, Mini.seqR_bk, Mini.seqR_ct, Mini.endR_rt, Mini.endR_nx, Mini.putV_zero, Mini.putV_succ, Mini.setV_eq, Mini.bindT_var, Mini.bindT_tup2, Mini.bindT_lst2, Mini.wipe_nil, Mini.wipe_cons, List.set_cons_zero, List.set_cons_succ, $ls,*])

/-! ## Loop -/
set_option autoImplicit false
set_option linter.all false
/-! Loop: comprehensions and loops of Mini, by what they do at each item. -/
namespace Mini
/-- a comprehension that draws nothing -/
theorem compL_fm {A : Type} {ev : Ev} {ρ : Env} {elt : E} {tg : T} {ifs : List E} {s : S} (enc : A → D) (p : A → Bool) (g : A → D) :
    ∀ xs : List A, (∀ a ∈ xs, ∃ ρ', bindT 9 tg (enc a) ρ = some ρ' ∧ testsL ev ρ' ifs s = some (p a, s) ∧ (p a = true → ev ρ' elt s = some (g a, s))) →
      compL ev ρ elt tg ifs (xs.map enc) s = some ((xs.filter p).map g, s)
  | [], _ => rfl
  | a :: xs, h => by
    obtain ⟨ρ', h1, h2, h3⟩ := h a (List.mem_cons_self ..)
    have ih := compL_fm (s := s) enc p g xs fun b hb => h b (List.mem_cons_of_mem _ hb)
    rw [List.map_cons, compL, h1]
    show (testsL ev ρ' ifs s).bind _ = _
    rw [h2]
    show (if p a = true then _ else _) = _
    cases hp : p a with
    | true =>
      rw [if_pos rfl, h3 hp]
      show (compL ev ρ elt tg ifs (xs.map enc) s).bind _ = _
      rw [ih, List.filter_cons_of_pos hp]; rfl
    | false =>
      rw [if_neg Bool.false_ne_true, ih, List.filter_cons_of_neg (by rw [hp]; exact Bool.false_ne_true)]
/-- a comprehension without tests that draws nothing -/
theorem compL_map {A : Type} {ev : Ev} {ρ : Env} {elt : E} {tg : T} {s : S} (enc : A → D) (g : A → D) (xs : List A)
    (h : ∀ a ∈ xs, ∃ ρ', bindT 9 tg (enc a) ρ = some ρ' ∧ ev ρ' elt s = some (g a, s)) :
    compL ev ρ elt tg [] (xs.map enc) s = some (xs.map g, s) := by
  have := compL_fm (s := s) (ev := ev) (ρ := ρ) (elt := elt) (tg := tg) (ifs := []) enc (fun _ => true) g xs fun a ha => by
    obtain ⟨ρ', h1, h2⟩ := h a ha
    exact ⟨ρ', h1, rfl, fun _ => h2⟩
  rwa [List.filter_eq_self.2 fun _ _ => rfl] at this
/-- a for whose body goes on each time -/
theorem forL_inv {A : Type} {body : Env → S → Res} {tg : T} (enc : A → D) (I : List A → Env → S → Prop) :
    ∀ (xs d : List A) (ρ : Env) (s : S),
      (∀ (d' : List A) (a : A) (r : List A) (ρ : Env) (s : S), d ++ xs = d' ++ a :: r → I d' ρ s →
        ∃ ρ1 ρ2 s2, bindT 9 tg (enc a) ρ = some ρ1 ∧ (body ρ1 s = some (.nx, ρ2, s2) ∨ body ρ1 s = some (.ct, ρ2, s2)) ∧ I (d' ++ [a]) ρ2 s2) →
      I d ρ s → ∃ ρ' s', forL body tg (xs.map enc) ρ s = some (.nx, ρ', s') ∧ I (d ++ xs) ρ' s'
  | [], d, ρ, s, _, h0 => ⟨ρ, s, rfl, by rwa [List.append_nil]⟩
  | a :: xs, d, ρ, s, h, h0 => by
    obtain ⟨ρ1, ρ2, s2, h1, h2, h3⟩ := h d a xs ρ s rfl h0
    obtain ⟨ρ', s', h4, h5⟩ := forL_inv enc I xs (d ++ [a]) ρ2 s2 (fun d' b r ρ s he hi => h d' b r ρ s (by rw [← he]; simp) hi) h3
    refine ⟨ρ', s', ?_, by simpa using h5⟩
    rw [List.map_cons, forL, h1]
    show (body ρ1 s).bind _ = _
    rcases h2 with h2 | h2 <;> (rw [h2]; exact h4)
/-- a for that goes on, or returns -/
theorem forL_ret {A : Type} {body : Env → S → Res} {tg : T} (enc : A → D) (I : List A → Env → S → Prop) (Q : Out → Env → S → Prop) :
    ∀ (xs d : List A) (ρ : Env) (s : S),
      (∀ (d' : List A) (a : A) (r : List A) (ρ : Env) (s : S), d ++ xs = d' ++ a :: r → I d' ρ s →
        ∃ ρ1 o ρ2 s2, bindT 9 tg (enc a) ρ = some ρ1 ∧ body ρ1 s = some (o, ρ2, s2) ∧ ((o = .nx ∧ I (d' ++ [a]) ρ2 s2) ∨ (∃ v, o = .rt v) ∧ Q o ρ2 s2)) →
      (∀ ρ s, I (d ++ xs) ρ s → Q .nx ρ s) →
      I d ρ s → ∃ o ρ' s', forL body tg (xs.map enc) ρ s = some (o, ρ', s') ∧ Q o ρ' s'
  | [], d, ρ, s, _, hq, h0 => ⟨.nx, ρ, s, rfl, hq ρ s (by rwa [List.append_nil])⟩
  | a :: xs, d, ρ, s, h, hq, h0 => by
    obtain ⟨ρ1, o, ρ2, s2, h1, h2, h3⟩ := h d a xs ρ s rfl h0
    rcases h3 with ⟨rfl, h3⟩ | ⟨⟨v, rfl⟩, h3⟩
    · obtain ⟨o, ρ', s', h4, h5⟩ := forL_ret enc I Q xs (d ++ [a]) ρ2 s2 (fun d' b r ρ s he hi => h d' b r ρ s (by rw [← he]; simp) hi) (fun ρ s hi => hq ρ s (by simpa using hi)) h3
      refine ⟨o, ρ', s', ?_, h5⟩
      rw [List.map_cons, forL, h1]
      show (body ρ1 s).bind _ = _
      rw [h2]; exact h4
    · refine ⟨.rt v, ρ2, s2, ?_, h3⟩
      rw [List.map_cons, forL, h1]
      show (body ρ1 s).bind _ = _
      rw [h2]; rfl
/-- a while: a measure that falls -/
theorem whileL_inv {test : Env → S → Option (Bool × S)} {body : Env → S → Res} (I : Nat → Env → S → Prop)
    (h : ∀ k ρ s, I k ρ s → ∃ b, test ρ s = some (b, s) ∧ (b = true → ∃ k' ρ' s', k' < k ∧ body ρ s = some (.nx, ρ', s') ∧ I k' ρ' s')) :
    ∀ (m k : Nat) (ρ : Env) (s : S), k < m → I k ρ s → ∃ k' ρ' s', whileL test body m ρ s = some (.nx, ρ', s') ∧ I k' ρ' s' ∧ test ρ' s' = some (false, s')
  | 0, _, _, _, hk, _ => absurd hk (Nat.not_lt_zero _)
  | m + 1, k, ρ, s, hk, hi => by
    obtain ⟨b, h1, h2⟩ := h k ρ s hi
    rw [whileL, h1]
    show ∃ k' ρ' s', (if b = true then _ else _) = _ ∧ _
    cases b with
    | false => exact ⟨k, ρ, s, by rw [if_neg Bool.false_ne_true], hi, h1⟩
    | true =>
      obtain ⟨k1, ρ1, s1, h3, h4, h5⟩ := h2 rfl
      obtain ⟨k', ρ', s', h6, h7⟩ := whileL_inv I h m k1 ρ1 s1 (by omega) h5
      refine ⟨k', ρ', s', ?_, h7⟩
      rw [if_pos rfl, h4]; exact h6
end Mini

/-! ## Wp -/
set_option autoImplicit false
set_option linter.all false
/-! Wp: loops and comprehensions of Mini driven by the goal; facts about data. -/
namespace Mini
def Post (r : Res) (Q : Out → Env → S → Prop) (_ : Tag Q := .mk) : Prop := ∃ o ρ s, r = some (o, ρ, s) ∧ Q o ρ s
theorem Post_some {o : Out} {ρ : Env} {s : S} {Q : Out → Env → S → Prop} : Post (some (o, ρ, s)) Q = Q o ρ s := by
  refine propext ⟨?_, fun h => ⟨o, ρ, s, rfl, h⟩⟩
  rintro ⟨o', ρ', s', h, q⟩
  cases h
  exact q
theorem Post.mono {r : Res} {Q R : Out → Env → S → Prop} (h : Post r Q) (k : ∀ o ρ s, Q o ρ s → R o ρ s) : Post r R := by
  obtain ⟨o, ρ, s, e, q⟩ := h
  exact ⟨o, ρ, s, e, k _ _ _ q⟩
theorem Post_rt {X : Res} {k : Env → S → Res} {Q : Out → Env → S → Prop} (h : Post X fun o ρ s => (∃ v, o = .rt v) ∧ Q o ρ s) : Post (seqT X k) Q := by
  obtain ⟨o, ρ, s, rfl, ⟨v, rfl⟩, q⟩ := h
  exact ⟨_, _, _, rfl, q⟩
theorem Post_nx {X : Res} {k : Env → S → Res} {Q : Out → Env → S → Prop} (h : Post X fun o ρ s => o = .nx ∧ Post (k ρ s) Q) : Post (seqT X k) Q := by
  obtain ⟨o, ρ, s, rfl, rfl, q⟩ := h
  exact q
/-- one item of a comprehension -/
def itemL (ev : Ev) (ρ : Env) (elt : E) (tg : T) (ifs : List E) (d : D) (s : S) : Option (Option D × S) :=
  ob (bindT 9 tg d ρ) fun ρ' => bindR (testsL ev ρ' ifs s) fun b s => sel b (bindR (ev ρ' elt s) fun v s => some (some v, s)) (some (none, s))
theorem compL_item {ev : Ev} {ρ : Env} {elt : E} {tg : T} {ifs : List E} {d : D} {ds : List D} {s : S} :
    compL ev ρ elt tg ifs (d :: ds) s = bindR (itemL ev ρ elt tg ifs d s) fun v s => bindR (compL ev ρ elt tg ifs ds s) fun r s => some (match v with | some v => v :: r | none => r, s) := by
  rw [compL, itemL]
  unfold ob bindR
  cases bindT 9 tg d ρ with
  | none => rfl
  | some ρ' =>
    simp only [Option.bind_some]
    cases testsL ev ρ' ifs s with
    | none => rfl
    | some p =>
      obtain ⟨b, s⟩ := p
      simp only [Option.bind_some]
      cases b with
      | true =>
        show ((ev ρ' elt s).bind _) = ((ev ρ' elt s).bind _).bind _
        cases ev ρ' elt s with
        | none => rfl
        | some q => rfl
      | false =>
        show compL ev ρ elt tg ifs ds s = (compL ev ρ elt tg ifs ds s).bind _
        cases compL ev ρ elt tg ifs ds s <;> rfl
/-- a comprehension, without draws -/
theorem comp_of {A : Type} {ev : Ev} {ρ : Env} {elt : E} {tg : T} {ifs : List E} {ds : List D} {s : S} {X : Option (List D × S)} (hX : compL ev ρ elt tg ifs ds s = X)
    (enc : A → D) (p : A → Bool) (g : A → D) (xs : List A) (hd : ds = xs.map enc)
    (h : ∀ a ∈ xs, itemL ev ρ elt tg ifs (enc a) s = some (if p a = true then some (g a) else none, s)) : X = some ((xs.filter p).map g, s) := by
  subst hX; subst hd
  induction xs with
  | nil => rfl
  | cons a xs ih =>
    rw [List.map_cons, compL_item, h a (List.mem_cons_self ..), bindR_val, ih fun b hb => h b (List.mem_cons_of_mem _ hb), bindR_val]
    cases hp : p a with
    | true => rw [List.filter_cons_of_pos hp]; rfl
    | false => rw [List.filter_cons_of_neg (by rw [hp]; exact Bool.false_ne_true)]; rfl
/-- a comprehension without tests and draws -/
theorem map_of {A : Type} {ev : Ev} {ρ : Env} {elt : E} {tg : T} {ds : List D} {s : S} {X : Option (List D × S)} (hX : compL ev ρ elt tg [] ds s = X)
    (enc : A → D) (g : A → D) (xs : List A) (hd : ds = xs.map enc)
    (h : ∀ a ∈ xs, ob (bindT 9 tg (enc a) ρ) (fun ρ => ev ρ elt s) = some (g a, s)) : X = some (xs.map g, s) := by
  have := comp_of hX enc (fun _ => true) g xs hd fun a ha => by
    have h1 := h a ha
    unfold itemL
    revert h1
    cases bindT 9 tg (enc a) ρ with
    | none => exact fun h => nomatch h
    | some ρ' => intro h1; rw [ob_val] at h1 ⊢; rw [tests_nil, bindR_val, sel_true, h1, bindR_val]; rfl
  rwa [List.filter_eq_self.2 fun _ _ => rfl] at this
/-- a comprehension with tests, without draws -/
theorem filt_of {A : Type} {ev : Ev} {ρ : Env} {elt : E} {tg : T} {ifs : List E} {ds : List D} {s : S} {X : Option (List D × S)} (hX : compL ev ρ elt tg ifs ds s = X)
    (enc : A → D) (p : A → Bool) (g : A → D) (xs : List A) (hd : ds = xs.map enc)
    (h1 : ∀ a ∈ xs, ob (bindT 9 tg (enc a) ρ) (fun ρ => testsL ev ρ ifs s) = some (p a, s))
    (h2 : ∀ a ∈ xs, p a = true → ob (bindT 9 tg (enc a) ρ) (fun ρ => ev ρ elt s) = some (g a, s)) : X = some ((xs.filter p).map g, s) := by
  refine comp_of hX enc p g xs hd fun a ha => ?_
  have e1 := h1 a ha
  have e2 := h2 a ha
  unfold itemL
  revert e1 e2
  cases bindT 9 tg (enc a) ρ with
  | none => exact fun h => nomatch h
  | some ρ' =>
    intro e1 e2
    rw [ob_val] at e1 e2 ⊢
    rw [e1, bindR_val]
    cases hp : p a with
    | true => rw [sel_true, e2 hp, bindR_val]; rfl
    | false => rw [sel_false]; rfl
/-- a comprehension with draws: each value is good -/
theorem comp_dr {A : Type} {ev : Ev} {ρ : Env} {elt : E} {tg : T} {ifs : List E} {ds : List D} {s : S} {X : Option (List D × S)} (hX : compL ev ρ elt tg ifs ds s = X)
    (enc : A → D) (J : S → Prop) (Q : A → Option D → Prop) (xs : List A) (hd : ds = xs.map enc) (h0 : J s)
    (h : ∀ a ∈ xs, ∀ s, J s → ∃ v s', itemL ev ρ elt tg ifs (enc a) s = some (v, s') ∧ J s' ∧ Q a v) :
    ∃ vs s', X = some (vs.filterMap id, s') ∧ J s' ∧ vs.length = xs.length ∧ ∀ p ∈ xs.zip vs, Q p.1 p.2 := by
  subst hX; subst hd
  induction xs generalizing s with
  | nil => exact ⟨[], s, rfl, h0, rfl, fun p hp => by cases hp⟩
  | cons a xs ih =>
    obtain ⟨v, s1, h1, h2, h3⟩ := h a (List.mem_cons_self ..) s h0
    obtain ⟨vs, s', h4, h5, h6, h7⟩ := ih h2 fun b hb => h b (List.mem_cons_of_mem _ hb)
    refine ⟨v :: vs, s', ?_, h5, by rw [List.length_cons, List.length_cons, h6], ?_⟩
    · rw [List.map_cons, compL_item, h1, bindR_val, h4, bindR_val]
      cases v <;> rfl
    · intro p hp
      rw [List.zip_cons_cons, List.mem_cons] at hp
      rcases hp with rfl | hp
      · exact h3
      · exact h7 p hp
/-- a for whose body goes on each time -/
theorem for_of {A : Type} {x : Ex} {b : List St} {tg : T} {ds : List D} {ρ : Env} {s : S} {X : Res} (hX : forX x b tg ds ρ s = X)
    (enc : A → D) (I : List A → Env → S → Prop) (xs : List A) (hd : ds = xs.map enc) (h0 : I [] ρ s)
    (h : ∀ d a r ρ s, xs = d ++ a :: r → I d ρ s → Post (ob (bindT 9 tg (enc a) ρ) fun ρ => x ρ b s) fun o ρ s => (o = .nx ∨ o = .ct) ∧ I (d ++ [a]) ρ s) :
    ∃ ρ' s', X = some (.nx, ρ', s') ∧ I xs ρ' s' := by
  subst hX; subst hd
  unfold forX
  have := forL_inv (body := fun ρ s => x ρ b s) (tg := tg) enc I xs [] ρ s (fun d a r ρ s he hi => by
    obtain ⟨o, ρ2, s2, h1, h2, h3⟩ := h d a r ρ s he hi
    revert h1
    cases bindT 9 tg (enc a) ρ with
    | none => exact fun h => nomatch h
    | some ρ1 =>
      intro h1
      rw [ob_val] at h1
      rcases h2 with rfl | rfl
      · exact ⟨ρ1, ρ2, s2, rfl, .inl h1, h3⟩
      · exact ⟨ρ1, ρ2, s2, rfl, .inr h1, h3⟩) h0
  rwa [List.nil_append] at this
/-- a for that goes on, or returns, or breaks -/
theorem forR_of {A : Type} {x : Ex} {b : List St} {tg : T} {ds : List D} {ρ : Env} {s : S} {X : Res} (hX : forX x b tg ds ρ s = X)
    (enc : A → D) (I : List A → Env → S → Prop) (Q : Out → Env → S → Prop) (xs : List A) (hd : ds = xs.map enc) (h0 : I [] ρ s)
    (h : ∀ d a r ρ s, xs = d ++ a :: r → I d ρ s → Post (ob (bindT 9 tg (enc a) ρ) fun ρ => x ρ b s) fun o ρ s => match o with | .rt v => Q (.rt v) ρ s | .bk => Q .nx ρ s | _ => I (d ++ [a]) ρ s)
    (hq : ∀ ρ s, I xs ρ s → Q .nx ρ s) : Post X Q := by
  subst hX; subst hd
  have key : ∀ (ys d : List A) (ρ : Env) (s : S), xs = d ++ ys → I d ρ s → Post (forL (fun ρ s => x ρ b s) tg (ys.map enc) ρ s) Q := by
    intro ys
    induction ys with
    | nil => intro d ρ s he hi; rw [List.append_nil] at he; subst he; exact ⟨.nx, ρ, s, rfl, hq _ _ hi⟩
    | cons a ys ih =>
      intro d ρ s he hi
      obtain ⟨o, ρ2, s2, h1, h2⟩ := h d a ys ρ s he hi
      rw [List.map_cons, forL]
      revert h1
      cases bindT 9 tg (enc a) ρ with
      | none => exact fun h => nomatch h
      | some ρ1 =>
        intro h1
        rw [ob_val] at h1
        rw [Option.bind_some, h1, Option.bind_some]
        cases o with
        | nx => exact ih (d ++ [a]) ρ2 s2 (by rw [he]; simp) h2
        | ct => exact ih (d ++ [a]) ρ2 s2 (by rw [he]; simp) h2
        | bk => exact ⟨.nx, ρ2, s2, rfl, h2⟩
        | rt v => exact ⟨.rt v, ρ2, s2, rfl, h2⟩
  exact key xs [] ρ s rfl h0
/-- a while: a measure that falls -/
theorem while_of {v : Ev} {x : Ex} {c : E} {b : List St} {m : Nat} {ρ : Env} {s : S} {X : Res} (hX : whileX v x c b m ρ s = X)
    (I : Nat → Env → S → Prop) (Q : Env → S → Prop) (k : Nat) (hk : k < m) (h0 : I k ρ s)
    (h : ∀ k ρ s, I k ρ s → ∃ t s1, testX v c ρ s = some (t, s1) ∧ (t = true → Post (x ρ b s1) fun o ρ s => (o = .nx ∨ o = .ct) ∧ ∃ k', k' < k ∧ I k' ρ s) ∧ (t = false → Q ρ s1)) :
    ∃ ρ' s', X = some (.nx, ρ', s') ∧ Q ρ' s' := by
  subst hX
  unfold whileX
  induction m generalizing k ρ s with
  | zero => exact absurd hk (Nat.not_lt_zero _)
  | succ m ih =>
    obtain ⟨t, s1, h1, h2, h3⟩ := h k ρ s h0
    rw [whileL, h1, Option.bind_some]
    cases t with
    | false => exact ⟨ρ, s1, rfl, h3 rfl⟩
    | true =>
      obtain ⟨o, ρ2, s2, h4, h5, k', h6, h7⟩ := h2 rfl
      obtain ⟨ρ', s', h8, h9⟩ := ih k' (by omega) h7
      refine ⟨ρ', s', ?_, h9⟩
      rw [if_pos rfl, h4, Option.bind_some]
      rcases h5 with rfl | rfl <;> exact h8
/-! data -/
abbrev natD (k : Nat) : D := .int (k : Int)
abbrev natsT (l : List Nat) : D := .tup (l.map natD)
abbrev natsL (l : List Nat) : D := .lst (l.map natD)
section
variable {i j : Int} {a b : Nat} {β : Type}
theorem cmp_eq : cmpD .eq (.int i) (.int j) = some (decide (i = j)) := (rfl)
theorem cmp_ne : cmpD .ne (.int i) (.int j) = some (!decide (i = j)) := (rfl)
theorem cmp_lt : cmpD .lt (.int i) (.int j) = some (decide (i < j)) := (rfl)
theorem cmp_gt : cmpD .gt (.int i) (.int j) = some (decide (j < i)) := (rfl)
theorem cmp_ge : cmpD .ge (.int i) (.int j) = some (decide (j ≤ i)) := (rfl)
theorem cmp_le : cmpD .le (.int i) (.int j) = some (decide (i ≤ j)) := (rfl)
theorem cmp_eq_nilL {xs : List D} : cmpD .eq (.lst xs) (.lst []) = some xs.isEmpty := (rfl)
theorem cmp_ne_nilL {xs : List D} : cmpD .ne (.lst xs) (.lst []) = some (!xs.isEmpty) := (rfl)
theorem cmp_eq_nilT {xs : List D} : cmpD .eq (.tup xs) (.tup []) = some xs.isEmpty := (rfl)
theorem cmp_ne_nilT {xs : List D} : cmpD .ne (.tup xs) (.tup []) = some (!xs.isEmpty) := (rfl)
theorem cmp_str {x y : String} : cmpD .eq (.str x) (.str y) = some (decide (x = y)) := (rfl)
theorem cmp_strne {x y : String} : cmpD .ne (.str x) (.str y) = some (!decide (x = y)) := (rfl)
theorem cmp_rep {d : D} : cmpD .ne (.rep d) (.rep d) = some false := by show (if same d d = true then some false else none) = _; rw [if_pos (same_refl d)]
theorem cmp_repE {d : D} : cmpD .eq (.rep d) (.rep d) = some true := by show (if same d d = true then some true else none) = _; rw [if_pos (same_refl d)]
theorem len_tup {xs : List D} : f1D .len (.tup xs) = some (natD xs.length) := (rfl)
theorem len_lst {xs : List D} : f1D .len (.lst xs) = some (natD xs.length) := (rfl)
theorem len_dic {xs : List (D × D)} : f1D .len (.dic xs) = some (natD xs.length) := (rfl)
theorem tuple_lst {xs : List D} : f1D .tuple (.lst xs) = some (.tup xs) := (rfl)
theorem tuple_tup {xs : List D} : f1D .tuple (.tup xs) = some (.tup xs) := (rfl)
theorem list_lst {xs : List D} : f1D .list (.lst xs) = some (.lst xs) := (rfl)
theorem list_tup {xs : List D} : f1D .list (.tup xs) = some (.lst xs) := (rfl)
theorem int_int : f1D .int (.int i) = some (.int i) := (rfl)
theorem int_bl {b : Bool} : f1D .int (.bl b) = some (.int (b2i b)) := (rfl)
theorem abs_int : f1D .abs (.int i) = some (.int (if i < 0 then -i else i)) := (rfl)
theorem max_int : f2D .max (.int i) (.int j) = some (.int (if j > i then j else i)) := (rfl)
theorem min_int : f2D .min (.int i) (.int j) = some (.int (if j < i then j else i)) := (rfl)
theorem mod_int (h : 0 < j) : binD .mod (.int i) (.int j) = some (.int (i % j)) := by show (if 0 < j then _ else _) = _; rw [if_pos h]
theorem fdiv_int (h : 0 < j) (h2 : j < 1073741824) : binD .fdiv (.int i) (.int j) = some (.int (i / j)) := by show (if 0 < j ∧ j < 1073741824 then _ else _) = _; rw [if_pos ⟨h, h2⟩]
theorem mul_intL (h : -(2 ^ 64) < i ∧ i < 2 ^ 64) : binD .mul (.int i) (.int j) = some (.int (i * j)) := by show (if _ ∨ _ then _ else _) = _; rw [if_pos (.inl h)]
theorem mul_intR (h : -(2 ^ 64) < j ∧ j < 2 ^ 64) : binD .mul (.int i) (.int j) = some (.int (i * j)) := by show (if _ ∨ _ then _ else _) = _; rw [if_pos (.inr h)]
theorem addL {xs ys : List D} (h : (xs ++ ys).length ≤ LIM) : binD .add (.lst xs) (.lst ys) = some (.lst (xs ++ ys)) := if_pos h
theorem addT {xs ys : List D} (h : (xs ++ ys).length ≤ LIM) : binD .add (.tup xs) (.tup ys) = some (.tup (xs ++ ys)) := if_pos h
theorem isi_int {t : Ty} : isTy t (.int i) = some (match t with | .int => true | _ => false) := by cases t <;> rfl
theorem ixN_nat {n k : Nat} (h : k < n) : ixN n (k : Int) = some k := by
  unfold ixN
  rw [if_pos (by omega), if_pos (by omega)]; simp
theorem idxD_tup {xs : List D} {k : Nat} {d : D} (h : xs[k]? = some d) : idxD (.tup xs) (natD k) = some d := by
  have hk : k < xs.length := (List.getElem?_eq_some_iff.1 h).1
  show (ixN xs.length (k : Int)).bind (fun k => xs[k]?) = _
  rw [ixN_nat hk]
  exact h
theorem idxD_lst {xs : List D} {k : Nat} {d : D} (h : xs[k]? = some d) : idxD (.lst xs) (natD k) = some d := by
  have hk : k < xs.length := (List.getElem?_eq_some_iff.1 h).1
  show (ixN xs.length (k : Int)).bind (fun k => xs[k]?) = _
  rw [ixN_nat hk]
  exact h
theorem idx_tup {A : Type} (f : A → D) (l : List A) (k : Nat) (a : A) (h : l[k]? = some a) : idxD (.tup (l.map f)) (natD k) = some (f a) :=
  idxD_tup (by rw [List.getElem?_map, h]; rfl)
theorem idx_lst {A : Type} (f : A → D) (l : List A) (k : Nat) (a : A) (h : l[k]? = some a) : idxD (.lst (l.map f)) (natD k) = some (f a) :=
  idxD_lst (by rw [List.getElem?_map, h]; rfl)
theorem idx_t0 {d : D} {r : List D} : idxD (.tup (d :: r)) (.int 0) = some d := idxD_tup (k := 0) rfl
theorem idx_t1 {c d : D} {r : List D} : idxD (.tup (c :: d :: r)) (.int 1) = some d := idxD_tup (k := 1) rfl
theorem idx_l0 {d : D} {r : List D} : idxD (.lst (d :: r)) (.int 0) = some d := idxD_lst (k := 0) rfl
theorem idx_l1 {c d : D} {r : List D} : idxD (.lst (c :: d :: r)) (.int 1) = some d := idxD_lst (k := 1) rfl
theorem small_nat {n : Nat} (h : n < 1073741824) : small62 (n : Int) = true := by
  have h3 : (2 : Int) ^ 30 = 1073741824 := by decide
  have h1 : decide (-(2 ^ 30 : Int) ≤ (n : Int)) = true := decide_eq_true (by rw [h3]; omega)
  have h2 : decide ((n : Int) < 2 ^ 30) = true := decide_eq_true (by rw [h3]; omega)
  unfold small62
  rw [h1, h2]
  exact Bool.and_self _
theorem rangeL_any {lo hi : Int} (h1 : small62 lo = true) (h2 : small62 hi = true) (h3 : (hi - lo).toNat ≤ LIM) : rangeL lo hi = some ((List.range (hi - lo).toNat).map fun (k : Nat) => .int (lo + (k : Int))) := by
  have h4 : decide ((hi - lo).toNat ≤ LIM) = true := decide_eq_true h3
  have h5 : (small62 lo && small62 hi && decide ((hi - lo).toNat ≤ LIM)) = true := by rw [h1, h2, h4]; exact rfl
  exact if_pos h5
theorem rangeL_nat {n : Nat} (h : n ≤ LIM) : rangeL 0 (n : Int) = some ((List.range n).map natD) := by
  have h1 : ((n : Int) - 0).toNat = n := by omega
  have h2 := rangeL_any (lo := 0) (hi := (n : Int)) (small_nat (n := 0) (by decide)) (small_nat (Nat.lt_of_le_of_lt h (by decide))) (by rw [h1]; exact h)
  rw [h1] at h2
  refine h2.trans (congrArg some (List.map_congr_left fun k _ => ?_))
  show D.int (0 + (k : Int)) = D.int (k : Int)
  rw [Int.zero_add]
theorem rangeO_nat {n : Nat} (h : n ≤ LIM) : rangeO (.int 0) (natD n) = some ((List.range n).map natD) := rangeL_nat h
theorem rngD_nat {tu : Bool} {n : Nat} (h : n ≤ LIM) : rngD tu 0 (natD n) = some (if tu then natsT (List.range n) else natsL (List.range n)) := by
  have e : ∀ i j : Int, rngD tu i (.int j) = ob (rangeL i j) fun xs => some (if tu then .tup xs else .lst xs) := fun _ _ => (rfl)
  rw [natD, e, rangeL_nat h, ob_val]
theorem rngF_nat {n : Nat} (h : n ≤ LIM) : rngD false 0 (natD n) = some (natsL (List.range n)) := rngD_nat h
theorem rngT_nat {n : Nat} (h : n ≤ LIM) : rngD true 0 (natD n) = some (natsT (List.range n)) := rngD_nat h
theorem ints_map (l : List Int) : intsOf (l.map .int) = some l := by
  induction l with
  | nil => rfl
  | cons a l ih => rw [List.map_cons, intsOf, ih]; rfl
theorem ints_nat (l : List Nat) : intsOf (l.map natD) = some (l.map fun (k : Nat) => (k : Int)) := by
  rw [← ints_map, List.map_map]; rfl
theorem flat_nats (l : List Nat) : (l.map natD).all flat = true := by
  rw [List.all_map]; exact List.all_eq_true.2 fun _ _ => rfl
theorem inL_nat (a : Nat) (l : List Nat) : inL (natD a) (l.map natD) = some (decide (a ∈ l)) := by
  induction l with
  | nil => rfl
  | cons b l ih =>
    rw [List.map_cons, inL, ih]
    show some (((b : Int) == (a : Int)) || decide (a ∈ l)) = _
    congr 1
    by_cases h : b = a
    · subst h; simp
    · have : ((b : Int) == (a : Int)) = false := decide_eq_false (by omega)
      rw [this, Bool.false_or]
      simp [List.mem_cons, Ne.symm h]
theorem inD_nat (a : Nat) (l : List Nat) : inD (natD a) (l.map natD) = some (decide (a ∈ l)) := by
  unfold inD
  rw [flat_nats]
  exact inL_nat a l
theorem in_T (a : Nat) (l : List Nat) : cmpD .in_ (natD a) (natsT l) = some (decide (a ∈ l)) := inD_nat a l
theorem in_L (a : Nat) (l : List Nat) : cmpD .in_ (natD a) (natsL l) = some (decide (a ∈ l)) := inD_nat a l
theorem notin_T (a : Nat) (l : List Nat) : cmpD .notin (natD a) (natsT l) = some (!decide (a ∈ l)) := by show notO (inD _ _) = _; rw [inD_nat]; rfl
theorem notin_L (a : Nat) (l : List Nat) : cmpD .notin (natD a) (natsL l) = some (!decide (a ∈ l)) := by show notO (inD _ _) = _; rw [inD_nat]; rfl
theorem bls_map (l : List Bool) : bls (l.map .bl) = some l := by
  induction l with
  | nil => rfl
  | cons a l ih => rw [List.map_cons, bls, ih]; rfl
theorem all_map {A : Type} (p : A → Bool) (l : List A) : f1D .all (.lst (l.map fun a => .bl (p a))) = some (.bl (l.all p)) := by
  show (bls _).map _ = _
  rw [show (l.map fun a => D.bl (p a)) = (l.map p).map D.bl by rw [List.map_map]; rfl, bls_map]
  simp
theorem sel_pos {P : Prop} [Decidable P] {x y : β} (h : P) : sel (decide P) x y = x := by rw [decide_eq_true h]; rfl
theorem sel_neg {P : Prop} [Decidable P] {x y : β} (h : ¬ P) : sel (decide P) x y = y := by rw [decide_eq_false h]; rfl
theorem sel_npos {P : Prop} [Decidable P] {x y : β} (h : P) : sel (!decide P) x y = y := by rw [decide_eq_true h]; rfl
theorem sel_nneg {P : Prop} [Decidable P] {x y : β} (h : ¬ P) : sel (!decide P) x y = x := by rw [decide_eq_false h]; rfl
end
theorem b62 {i : Int} (h : -1000000000 ≤ i ∧ i ≤ 1000000000) : -(2 ^ 62) < i ∧ i < 2 ^ 62 := by
  have h62 : (2 : Int) ^ 62 = 4611686018427387904 := by decide
  rw [h62]
  omega
theorem slice_lo {xs : List D} {i : Int} (h : -1000000000 ≤ i ∧ i ≤ 1000000000) : sliceD (.lst xs) (some (.int i)) none = some (.lst (cut xs (some i) none)) := by
  unfold sliceD; simp only [if_pos (b62 h)]
theorem slice_loT {xs : List D} {i : Int} (h : -1000000000 ≤ i ∧ i ≤ 1000000000) : sliceD (.tup xs) (some (.int i)) none = some (.tup (cut xs (some i) none)) := by
  unfold sliceD; simp only [if_pos (b62 h)]
theorem slice_hi {xs : List D} {i : Int} (h : -1000000000 ≤ i ∧ i ≤ 1000000000) : sliceD (.lst xs) none (some (.int i)) = some (.lst (cut xs none (some i))) := by
  unfold sliceD; simp only [if_pos (b62 h)]
theorem slice_hiT {xs : List D} {i : Int} (h : -1000000000 ≤ i ∧ i ≤ 1000000000) : sliceD (.tup xs) none (some (.int i)) = some (.tup (cut xs none (some i))) := by
  unfold sliceD; simp only [if_pos (b62 h)]
theorem slice_lh {xs : List D} {i j : Int} (h : -1000000000 ≤ i ∧ i ≤ 1000000000) (k : -1000000000 ≤ j ∧ j ≤ 1000000000) : sliceD (.lst xs) (some (.int i)) (some (.int j)) = some (.lst (cut xs (some i) (some j))) := by
  unfold sliceD; simp only [if_pos (b62 h), if_pos (b62 k)]
theorem slice_lhT {xs : List D} {i j : Int} (h : -1000000000 ≤ i ∧ i ≤ 1000000000) (k : -1000000000 ≤ j ∧ j ≤ 1000000000) : sliceD (.tup xs) (some (.int i)) (some (.int j)) = some (.tup (cut xs (some i) (some j))) := by
  unfold sliceD; simp only [if_pos (b62 h), if_pos (b62 k)]
theorem clamp_nat {n k : Nat} : clamp n (k : Int) = min k n := by
  unfold clamp
  rw [if_neg (by omega)]
  congr 1
theorem cut_from {xs : List D} {k : Nat} : cut xs (some (k : Int)) none = xs.drop k := by
  show (xs.take xs.length).drop (clamp xs.length (k : Int)) = _
  rw [clamp_nat, List.take_length]
  by_cases h : k ≤ xs.length
  · rw [Nat.min_eq_left h]
  · rw [Nat.min_eq_right (by omega), List.drop_of_length_le (Nat.le_refl _), List.drop_of_length_le (by omega)]
theorem cut_to {xs : List D} {k : Nat} : cut xs none (some (k : Int)) = xs.take k := by
  show (xs.take (clamp xs.length (k : Int))).drop 0 = _
  rw [clamp_nat, List.drop_zero]
  by_cases h : k ≤ xs.length
  · rw [Nat.min_eq_left h]
  · rw [Nat.min_eq_right (by omega), List.take_of_length_le (Nat.le_refl _), List.take_of_length_le (by omega)]
theorem cut_both {xs : List D} {j k : Nat} : cut xs (some (j : Int)) (some (k : Int)) = (xs.take k).drop j := by
  show (xs.take (clamp xs.length (k : Int))).drop (clamp xs.length (j : Int)) = _
  rw [clamp_nat, clamp_nat]
  have e1 : xs.take (min k xs.length) = xs.take k := by
    by_cases h : k ≤ xs.length
    · rw [Nat.min_eq_left h]
    · rw [Nat.min_eq_right (by omega), List.take_of_length_le (Nat.le_refl _), List.take_of_length_le (by omega)]
  rw [e1]
  by_cases h : j ≤ xs.length
  · rw [Nat.min_eq_left h]
  · rw [Nat.min_eq_right (by omega), List.drop_of_length_le (by rw [List.length_take]; omega), List.drop_of_length_le (by rw [List.length_take]; omega)]
/-- what a def gives, by its post -/
theorem runF_of {Fs : List Fn} {d : Def} {xs : List D} {r : D} (h : xs.length = d.args) (hp : Post (ex Fs [] 40 20 (startE d xs) d.body none) fun o _ _ => o = .rt r) : runF Fs d xs = some r := by
  rw [runF_is h]
  obtain ⟨o, ρ, s, e, rfl⟩ := hp
  rw [e]; rfl
/-- the draws go on well -/
abbrev Sok (s : Src) : Prop := s.cells.length ≤ 63
def Dr (r : Option (D × Src)) (Q : D → Prop) : Prop := ∃ d S', r = some (d, S') ∧ Sok S' ∧ Q d
theorem runG_of {Fs : List Fn} {Gs : List Gn} {d : Def} {src : Src} {xs : List D} {Q : D → Prop} (h : xs.length + 1 = d.args)
    (hp : Post (ex Fs Gs 40 20 (none :: startE ⟨d.names - 1, d.args - 1, d.body⟩ xs) d.body (some src)) fun o _ s => ∃ r S', o = .rt r ∧ s = some S' ∧ Sok S' ∧ Q r) : Dr (runG Fs Gs d src xs) Q := by
  unfold runG
  rw [if_pos h]
  obtain ⟨o, ρ, s, e, r, S', rfl, rfl, h1, h2⟩ := hp
  rw [e]
  exact ⟨r, S', rfl, h1, h2⟩
end Mini

/-! ## Draw -/
set_option autoImplicit false
set_option linter.all false
set_option Elab.async false
set_option maxHeartbeats 2000000
/-! Draw: the law's number of the draws. -/
namespace Mini
def dPick : Def := ⟨4, 2, [.while_ (.and (.cmp .gt (.var 1) (.int 1)) (.and (.cmp .lt (.srcI 0) (.int 2)) (.cmp .gt .srcN (.int 0)))) 1000 [.srcPop],
    .set 2 (.srcI 0),
    .iff (.or (.cmp .lt (.var 1) (.int 2)) (.cmp .gt (.var 2) (.int 1))) [.srcSet 0 (.bin .fdiv (.var 2) (.f2 .max (.int 1) (.var 1))),
    .ret (some (.bin .mod (.f1 .int (.var 2)) (.f2 .max (.int 1) (.var 1))))] [],
    .srcSet 2 (.bin .add (.srcI 2) (.int 1)),
    .set 3 (.bin .mod (.f1 .int (.bin .add (.srcI 1) (.bin .mul (.srcI 2) (.int 104729)))) (.int 998244353)),
    .set 3 (.bin .mod (.f1 .int (.bin .add (.bin .mul (.var 3) (.var 3)) (.bin .mul (.srcI 2) (.int 17)))) (.int 2147483647)),
    .srcSet 1 (.var 3),
    .ret (some (.bin .mod (.f1 .int (.bin .fdiv (.var 3) (.int 16))) (.var 1)))]⟩
theorem pick_ok {S0 : Src} {many : Int} (h : Sok S0) (hm : many < 1000000000) :
    Dr (runG [] [] dPick S0 [.int many]) fun r => ∃ k : Nat, r = natD k ∧ ((k : Int) < many ∨ k = 0) := by
  refine runG_of (by rfl) ?_
  rw [show (none :: startE ⟨dPick.names - 1, dPick.args - 1, dPick.body⟩ [.int many]) = [none, some (.val (.int many)), none, none] from rfl, dPick]
  simp! []
  generalize hX : whileX _ _ _ _ _ _ _ = X
  obtain ⟨ρ', s', rfl, rfl, S1, rfl, h1, ht⟩ := while_of hX (fun k ρ s => ρ = [none, some (.val (.int many)), none, none] ∧ ∃ S1 : Src, s = some S1 ∧ S1.cells.length = k ∧ k ≤ 63)
    (fun ρ s => ρ = [none, some (.val (.int many)), none, none] ∧ ∃ S1 : Src, s = some S1 ∧ Sok S1 ∧ True)
    S0.cells.length (Nat.lt_of_le_of_lt h (by decide)) ⟨rfl, S0, rfl, rfl, h⟩ (by
      clear hX
      rintro k ρ s ⟨rfl, S1, rfl, rfl, hk⟩
      refine ⟨decide (1 < many) && (decide ((S1.get 0) < 2) && decide (0 < (S1.cells.length : Int))), some S1, ?_, ?_, ?_⟩
      · unfold testX
        simp! [cmp_gt]
        rw [selB (c := decide ((S1.get 0) < 2) && decide (0 < (S1.cells.length : Int))) (fun _ => by
          simp! [cmp_lt]
          rw [selB (c := decide (0 < (S1.cells.length : Int))) (fun _ => by simp! [cmp_gt])]
          simp! [])]
        simp! []
      · intro ht
        rw [Bool.and_eq_true, Bool.and_eq_true, decide_eq_true_iff, decide_eq_true_iff, decide_eq_true_iff] at ht
        have hl : S1.cells.length - 1 < S1.cells.length := by omega
        simp! [List.getElem?_eq_getElem hl, Post_some]
        exact ⟨.inl trivial, S1.cells.length - 1, by omega, trivial, _, rfl, List.length_dropLast, by omega⟩
      · intro _
        exact ⟨rfl, S1, rfl, hk, trivial⟩)
  clear hX ht
  simp! [cmp_lt, cmp_gt]
  rw [selO (c := decide (1 < S1.get 0)) (fun _ => by simp! [cmp_gt])]
  simp! []
  have hmax : (0 : Int) < if many > 1 then many else 1 := by split <;> omega
  have hmax2 : (if many > 1 then many else 1 : Int) < 1073741824 := by split <;> omega
  cases hb : (decide (many < 2) || decide (1 < S1.get 0)) with
  | true =>
    simp! [max_int, fdiv_int hmax hmax2, int_int, mod_int hmax, Post_some]
    have h2 := Int.emod_nonneg (S1.get 0) (b := if many > 1 then many else 1) (by omega)
    have h3 := Int.emod_lt_of_pos (S1.get 0) hmax
    refine ⟨_, _, rfl, rfl, h1, (S1.get 0 % if many > 1 then many else 1).toNat, ?_, ?_⟩
    · show D.int _ = D.int _
      rw [Int.toNat_of_nonneg h2]
    · rw [Int.toNat_of_nonneg h2]
      by_cases h : many > 1
      · rw [if_pos h] at h3 ⊢; exact .inl h3
      · rw [if_neg h] at h3 ⊢; right; omega
  | false =>
    rw [Bool.or_eq_false_iff, decide_eq_false_iff_not, decide_eq_false_iff_not] at hb
    have m2 : (0 : Int) < many := by omega
    have b1 : ∀ x : Int, 0 ≤ x % 998244353 ∧ x % 998244353 < 998244353 := fun x => ⟨Int.emod_nonneg _ (by decide), Int.emod_lt_of_pos _ (by decide)⟩
    have b2 : ∀ x : Int, 0 ≤ x % 2147483647 ∧ x % 2147483647 < 2147483647 := fun x => ⟨Int.emod_nonneg _ (by decide), Int.emod_lt_of_pos _ (by decide)⟩
    have e64 : (2 : Int) ^ 64 = 18446744073709551616 := by decide
    simp! [max_int, int_int, mul_intR (i := _) (j := 104729) (by decide), mul_intR (i := _) (j := 17) (by decide), mod_int (show (0 : Int) < 998244353 by decide), mod_int (show (0 : Int) < 2147483647 by decide), Post_some]
    rw [mul_intL (by have := b1 ((Src.put S1 2 (S1.get 2 + 1)).get 1 + (Src.put S1 2 (S1.get 2 + 1)).get 2 * 104729); rw [e64]; omega)]
    simp! [max_int, int_int, mul_intR (i := _) (j := 17) (by decide), mod_int (show (0 : Int) < 2147483647 by decide), fdiv_int (show (0 : Int) < 16 by decide) (show (16 : Int) < 1073741824 by decide), mod_int m2, Post_some]
    refine ⟨_, _, rfl, rfl, h1, (((((Src.put S1 2 (S1.get 2 + 1)).get 1 + (Src.put S1 2 (S1.get 2 + 1)).get 2 * 104729) % 998244353 * (((Src.put S1 2 (S1.get 2 + 1)).get 1 + (Src.put S1 2 (S1.get 2 + 1)).get 2 * 104729) % 998244353) + (Src.put S1 2 (S1.get 2 + 1)).get 2 * 17) % 2147483647 / 16) % many).toNat, ?_, ?_⟩
    · show D.int _ = D.int _
      rw [Int.toNat_of_nonneg (Int.emod_nonneg _ (by omega))]
    · rw [Int.toNat_of_nonneg (Int.emod_nonneg _ (by omega))]
      exact .inl (Int.emod_lt_of_pos _ m2)
end Mini
namespace Mini
def dOf : Def := ⟨2, 2, [.ret (some (.idx (.var 1) (.callS 0 [(.f1 .len (.var 1))])))]⟩
theorem of_ok {S0 : Src} {xs : List D} (h : Sok S0) (hx : xs ≠ []) (hl : xs.length ≤ 1000000) :
    Dr (runG [] [runG [] [] dPick] dOf S0 [.lst xs]) fun r => r ∈ xs := by
  refine runG_of (by rfl) ?_
  rw [show (none :: startE ⟨dOf.names - 1, dOf.args - 1, dOf.body⟩ [.lst xs]) = [none, some (.val (.lst xs))] from rfl, dOf]
  simp! [len_lst]
  obtain ⟨_, S1, e1, hS1, k, rfl, hk⟩ := pick_ok (many := (xs.length : Int)) h (by omega)
  have hp := List.length_pos_iff.2 hx
  have hk : k < xs.length := by omega
  simp! [e1, idxD_lst (List.getElem?_eq_getElem hk), Post_some]
  exact ⟨_, _, rfl, rfl, hS1, List.getElem_mem hk⟩
end Mini

/-! ## Graph -/
set_option autoImplicit false
set_option linter.all false
/-! Graph: crossings joined by roads; heads. Plain Lean. -/
namespace Gr
abbrev Rd := Nat × Nat
/-- joined by roads -/
inductive Cn (E : List Rd) : Nat → Nat → Prop
  | refl (x : Nat) : Cn E x x
  | step {x y z : Nat} : Cn E x y → ((y, z) ∈ E ∨ (z, y) ∈ E) → Cn E x z
theorem Cn.trans {E : List Rd} {x y z : Nat} (h : Cn E x y) (k : Cn E y z) : Cn E x z := by
  induction k with
  | refl => exact h
  | step _ e ih => exact .step ih e
theorem Cn.one {E : List Rd} {x y : Nat} (h : (x, y) ∈ E ∨ (y, x) ∈ E) : Cn E x y := .step (.refl x) h
theorem Cn.symm {E : List Rd} {x y : Nat} (h : Cn E x y) : Cn E y x := by
  induction h with
  | refl => exact .refl _
  | step _ e ih => exact (Cn.one e.symm).trans ih
theorem Cn.mono {E F : List Rd} (h : ∀ e ∈ E, e ∈ F) {x y : Nat} (k : Cn E x y) : Cn F x y := by
  induction k with
  | refl => exact .refl _
  | step _ e ih => exact .step ih (e.imp (h _) (h _))
/-- one road more -/
theorem Cn.snoc {E : List Rd} {a b x y : Nat} : Cn (E ++ [(a, b)]) x y ↔ Cn E x y ∨ ((Cn E x a ∨ Cn E x b) ∧ (Cn E y a ∨ Cn E y b)) := by
  have up : ∀ {u v}, Cn E u v → Cn (E ++ [(a, b)]) u v := fun h => h.mono fun e he => List.mem_append_left _ he
  have ab : Cn (E ++ [(a, b)]) a b := .one (.inl (by simp))
  constructor
  · intro h
    induction h with
    | refl => exact .inl (.refl _)
    | @step y z _ e ih =>
      have hz : Cn E y z ∨ ((y = a ∧ z = b) ∨ (y = b ∧ z = a)) := by
        rcases e with e | e <;> (rw [List.mem_append, List.mem_singleton] at e; rcases e with e | e)
        · exact .inl (.one (.inl e))
        · cases e; exact .inr (.inl ⟨rfl, rfl⟩)
        · exact .inl (.one (.inr e))
        · cases e; exact .inr (.inr ⟨rfl, rfl⟩)
      rcases hz with hz | hz
      · rcases ih with ih | ⟨h1, h2⟩
        · exact .inl (ih.trans hz)
        · exact .inr ⟨h1, h2.imp (hz.symm.trans ·) (hz.symm.trans ·)⟩
      · rcases hz with ⟨rfl, rfl⟩ | ⟨rfl, rfl⟩
        · rcases ih with ih | ⟨h1, h2⟩
          · exact .inr ⟨.inl ih, .inr (.refl _)⟩
          · exact .inr ⟨h1, .inr (.refl _)⟩
        · rcases ih with ih | ⟨h1, h2⟩
          · exact .inr ⟨.inr ih, .inl (.refl _)⟩
          · exact .inr ⟨h1, .inl (.refl _)⟩
  · rintro (h | ⟨h1, h2⟩)
    · exact up h
    · have hx : Cn (E ++ [(a, b)]) x a := by rcases h1 with h | h; exact up h; exact (up h).trans ab.symm
      have hy : Cn (E ++ [(a, b)]) y a := by rcases h2 with h | h; exact up h; exact (up h).trans ab.symm
      exact hx.trans hy.symm
/-- the heads, a road more -/
def mergeH (f : Nat → Nat) (e : Rd) (x : Nat) : Nat := if f x = max (f e.1) (f e.2) then min (f e.1) (f e.2) else f x
def heads (E : List Rd) : Nat → Nat := E.foldl mergeH id
theorem heads_nil : heads [] = id := rfl
theorem heads_snoc (E : List Rd) (e : Rd) : heads (E ++ [e]) = mergeH (heads E) e := by rw [heads, List.foldl_append]; rfl
theorem snoc_ind {A : Type} {P : List A → Prop} (h0 : P []) (h : ∀ l a, P l → P (l ++ [a])) (l : List A) : P l := by
  have : ∀ l : List A, P l.reverse := fun l => by
    induction l with
    | nil => exact h0
    | cons a l ih => rw [List.reverse_cons]; exact h _ _ ih
  have := this l.reverse
  rwa [List.reverse_reverse] at this
theorem merge_eq (f : Nat → Nat) (a b x y : Nat) : mergeH f (a, b) x = mergeH f (a, b) y ↔ f x = f y ∨ ((f x = f a ∨ f x = f b) ∧ (f y = f a ∨ f y = f b)) := by
  unfold mergeH
  simp only
  split <;> split <;> omega
theorem heads_iff (E : List Rd) : ∀ x y, heads E x = heads E y ↔ Cn E x y := by
  refine snoc_ind (P := fun E => ∀ x y, heads E x = heads E y ↔ Cn E x y) ?_ ?_ E
  · intro x y
    constructor
    · intro h; cases h; exact .refl _
    · intro h
      induction h with
      | refl => rfl
      | step _ e _ => simp at e
  · intro E e ih x y
    obtain ⟨a, b⟩ := e
    rw [heads_snoc, merge_eq, Cn.snoc, ih, ih, ih, ih, ih]
theorem heads_le (E : List Rd) : ∀ x, heads E x ≤ x := by
  refine snoc_ind (P := fun E => ∀ x, heads E x ≤ x) (fun x => Nat.le_refl _) ?_ E
  intro E e ih x
  rw [heads_snoc, mergeH]
  have := ih x
  split <;> omega
theorem heads_heads (E : List Rd) : ∀ x, heads E (heads E x) = heads E x := by
  refine snoc_ind (P := fun E => ∀ x, heads E (heads E x) = heads E x) (fun x => rfl) ?_ E
  intro E e ih x
  obtain ⟨a, b⟩ := e
  have h1 := ih x
  have h2 := ih a
  have h3 := ih b
  rw [heads_snoc]
  unfold mergeH
  simp only
  by_cases hx : heads E x = max (heads E a) (heads E b)
  · rw [if_pos hx]
    rcases Nat.le_total (heads E a) (heads E b) with h | h
    · rw [Nat.min_eq_left h, h2]; split <;> omega
    · rw [Nat.min_eq_right h, h3]; split <;> omega
  · rw [if_neg hx, h1, if_neg hx]
theorem heads_cn (E : List Rd) (x : Nat) : Cn E x (heads E x) := (heads_iff E x _).1 (heads_heads E x).symm
theorem heads_least {E : List Rd} {x y : Nat} (h : Cn E x y) : heads E x ≤ y := by rw [(heads_iff E x y).2 h]; exact heads_le E y
/-- the heads hang on who is joined alone -/
theorem heads_same {E F : List Rd} (h : ∀ x y, Cn E x y ↔ Cn F x y) (x : Nat) : heads E x = heads F x :=
  Nat.le_antisymm (heads_least ((h _ _).2 (heads_cn F x))) (heads_least ((h _ _).1 (heads_cn E x)))
end Gr

/-! ## GraphB -/
set_option autoImplicit false
set_option linter.all false
/-! GraphB: degrees, pieces, ranks. Plain Lean. -/
namespace Gr
def ends (E : List Rd) : List Nat := E.flatMap fun e => [e.1, e.2]
theorem ends_len (E : List Rd) : (ends E).length = 2 * E.length := by
  induction E with
  | nil => rfl
  | cons e E ih => show (e.1 :: e.2 :: ends E).length = _; rw [List.length_cons, List.length_cons, ih, List.length_cons]; omega
theorem mem_ends {E : List Rd} {x : Nat} : x ∈ ends E ↔ ∃ e ∈ E, e.1 = x ∨ e.2 = x := by
  unfold ends
  rw [List.mem_flatMap]
  constructor
  · rintro ⟨e, he, h⟩
    simp only [List.mem_cons, List.not_mem_nil, or_false] at h
    exact ⟨e, he, h.imp Eq.symm Eq.symm⟩
  · rintro ⟨e, he, h⟩
    exact ⟨e, he, by simp only [List.mem_cons, List.not_mem_nil, or_false]; exact h.imp Eq.symm Eq.symm⟩
/-- all below n: the counts add up to the length -/
theorem sum_count (n : Nat) (l : List Nat) (h : ∀ x ∈ l, x < n) : ((List.range n).map fun x => l.count x).sum = l.length := by
  induction l with
  | nil => 
    have : ((List.range n).map fun x => ([] : List Nat).count x) = List.replicate n 0 := by
      rw [List.eq_replicate_iff]; exact ⟨by simp, by simp⟩
    rw [this]; simp
  | cons a l ih =>
    have ih := ih fun x hx => h x (List.mem_cons_of_mem _ hx)
    have ha := h a (List.mem_cons_self ..)
    have one : ∀ m : Nat, ((List.range m).map fun x => (a :: l).count x).sum = ((List.range m).map fun x => l.count x).sum + if a < m then 1 else 0 := by
      intro m
      induction m with
      | zero => rfl
      | succ m im =>
        rw [List.range_succ, List.map_append, List.sum_append, im, List.map_append, List.sum_append]
        simp only [List.map_cons, List.map_nil, List.sum_cons, List.sum_nil, List.count_cons]
        by_cases h1 : a = m
        · subst h1; simp; omega
        · have : (a == m) = false := by simpa using h1
          rw [this]
          by_cases h2 : a < m
          · have h3 : a < m + 1 := by omega
            simp [h2, h3]; omega
          · have h3 : ¬ a < m + 1 := by omega
            simp [h2, h3]
    rw [one n, ih, if_pos ha, List.length_cons]
/-- weights at least 2 where p: the sum is at least twice as many; if it is not more, all are 2 there and 0 elsewhere -/
theorem sum_two (f : Nat → Nat) (p : Nat → Bool) (l : List Nat) (h : ∀ x ∈ l, p x = true → 2 ≤ f x) :
    2 * (l.filter p).length ≤ (l.map f).sum ∧ ((l.map f).sum = 2 * (l.filter p).length → ∀ x ∈ l, p x = true → f x = 2) := by
  induction l with
  | nil => exact ⟨Nat.le_refl _, fun _ x hx => by simp at hx⟩
  | cons a l ih =>
    obtain ⟨h1, h2⟩ := ih fun x hx => h x (List.mem_cons_of_mem _ hx)
    rw [List.map_cons, List.sum_cons]
    cases ha : p a with
    | true =>
      have h3 := h a (List.mem_cons_self ..) ha
      rw [List.filter_cons_of_pos ha, List.length_cons]
      refine ⟨by omega, fun he x hx hp => ?_⟩
      rcases List.mem_cons.1 hx with rfl | hx
      · omega
      · exact h2 (by omega) x hx hp
    | false =>
      rw [List.filter_cons_of_neg (by rw [ha]; exact Bool.false_ne_true)]
      refine ⟨by omega, fun he x hx hp => ?_⟩
      rcases List.mem_cons.1 hx with rfl | hx
      · rw [ha] at hp; cases hp
      · exact h2 (by omega) x hx hp
def pieces (n : Nat) (E : List Rd) : Nat := ((List.range n).filter fun x => decide (heads E x = x)).length
theorem heads_bare {E : List Rd} {x : Nat} (h : x ∉ ends E) : heads E x = x := by
  have : ∀ {y z}, Cn E y z → y = x → z = x := by
    intro y z k
    induction k with
    | refl => exact id
    | @step u w _ e ih =>
      intro hy
      have := ih hy
      subst this
      exact absurd (mem_ends.2 (by rcases e with e | e; exact ⟨_, e, .inl rfl⟩; exact ⟨_, e, .inr rfl⟩)) h
  exact this (heads_cn E x) rfl
/-- a count split by a test -/
theorem count_split {A : Type} (p q : A → Bool) (l : List A) : (l.filter p).length = (l.filter fun x => p x && q x).length + (l.filter fun x => p x && !q x).length := by
  induction l with
  | nil => rfl
  | cons a l ih => cases hp : p a <;> cases hq : q a <;> simp [List.filter_cons, hp, hq] <;> omega
end Gr

/-! ## GraphC -/
set_option autoImplicit false
set_option linter.all false
/-! GraphC: a road more or less; circuits. Plain Lean. -/
namespace Gr
theorem filter_lt {A : Type} (p q : A → Bool) (l : List A) (h : ∀ x ∈ l, p x = true → q x = true) :
    (l.filter p).length ≤ (l.filter q).length ∧ (∀ x ∈ l, q x = true → p x = false → (l.filter p).length < (l.filter q).length) := by
  induction l with
  | nil => exact ⟨Nat.le_refl _, fun x hx => by simp at hx⟩
  | cons a l ih =>
    obtain ⟨h1, h2⟩ := ih fun x hx => h x (List.mem_cons_of_mem _ hx)
    have h3 := h a (List.mem_cons_self ..)
    cases hp : p a with
    | true =>
      have hq := h3 hp
      rw [List.filter_cons_of_pos hp, List.filter_cons_of_pos hq, List.length_cons, List.length_cons]
      refine ⟨by omega, fun x hx hqx hpx => ?_⟩
      rcases List.mem_cons.1 hx with rfl | hx
      · rw [hp] at hpx; cases hpx
      · have := h2 x hx hqx hpx; omega
    | false =>
      rw [List.filter_cons_of_neg (by rw [hp]; exact Bool.false_ne_true)]
      cases hq : q a with
      | true =>
        rw [List.filter_cons_of_pos hq, List.length_cons]
        exact ⟨by omega, fun x hx hqx hpx => by omega⟩
      | false =>
        rw [List.filter_cons_of_neg (by rw [hq]; exact Bool.false_ne_true)]
        refine ⟨h1, fun x hx hqx hpx => ?_⟩
        rcases List.mem_cons.1 hx with rfl | hx
        · rw [hq] at hqx; cases hqx
        · exact h2 x hx hqx hpx
theorem Cn.same {E F : List Rd} (h : ∀ e, e ∈ E ↔ e ∈ F) (x y : Nat) : Cn E x y ↔ Cn F x y :=
  ⟨fun k => k.mono fun e he => (h e).1 he, fun k => k.mono fun e he => (h e).2 he⟩
theorem pieces_same {n : Nat} {E F : List Rd} (h : ∀ x y, Cn E x y ↔ Cn F x y) : pieces n E = pieces n F := by
  unfold pieces
  congr 2
  funext x
  rw [heads_same h x]
/-- a road more, its ends joined already: as many pieces -/
theorem pieces_in {n : Nat} {E F : List Rd} {a b : Nat} (h : ∀ e, e ∈ E ↔ e ∈ F ∨ e = (a, b)) (k : Cn F a b) : pieces n E = pieces n F := by
  have h' : ∀ e, e ∈ E ↔ e ∈ F ++ [(a, b)] := fun e => by rw [h e, List.mem_append, List.mem_singleton]
  refine pieces_same fun x y => ?_
  rw [Cn.same h', Cn.snoc]
  refine ⟨?_, .inl⟩
  rintro (h | ⟨h1, h2⟩)
  · exact h
  · have hx : Cn F x a := by rcases h1 with h | h; exact h; exact h.trans k.symm
    have hy : Cn F y a := by rcases h2 with h | h; exact h; exact h.trans k.symm
    exact hx.trans hy.symm
/-- a road more, its ends not joined before: fewer pieces -/
theorem pieces_lt {n : Nat} {E F : List Rd} {a b : Nat} (h : ∀ e, e ∈ E ↔ e ∈ F ∨ e = (a, b)) (ha : a < n) (hb : b < n) (k : ¬ Cn F a b) : pieces n E < pieces n F := by
  have up : ∀ {x y}, Cn F x y → Cn E x y := fun c => c.mono fun e he => (h e).2 (.inl he)
  have hab : Cn E a b := .one (.inl ((h _).2 (.inr rfl)))
  obtain ⟨h1, h2⟩ := filter_lt (fun x => decide (heads E x = x)) (fun x => decide (heads F x = x)) (List.range n) fun x _ hx => by
    have hx := of_decide_eq_true hx
    refine decide_eq_true (Nat.le_antisymm (heads_le F x) ?_)
    rw [← hx]
    exact heads_least (by rw [hx]; exact up (heads_cn F x))
  have hne : heads F a ≠ heads F b := fun e => k ((heads_iff F a b).1 e)
  have hs : heads E (heads F a) = heads E (heads F b) := (heads_iff E _ _).2 ((up (heads_cn F a)).symm.trans (hab.trans (up (heads_cn F b))))
  have hla := heads_le F a
  have hlb := heads_le F b
  by_cases hq : heads E (heads F a) = heads F a
  · exact h2 (heads F b) (List.mem_range.2 (by omega)) (decide_eq_true (heads_heads F b)) (decide_eq_false (by omega))
  · exact h2 (heads F a) (List.mem_range.2 (by omega)) (decide_eq_true (heads_heads F a)) (decide_eq_false hq)
end Gr

/-! ## GraphD -/
set_option autoImplicit false
set_option linter.all false
/-! GraphD: parity; circuits. Plain Lean. -/
namespace Gr
/-- a set that no road leaves: its ends are even -/
theorem even_in (p : Nat → Bool) (F : List Rd) (h : ∀ e ∈ F, p e.1 = p e.2) : (ends F).countP p % 2 = 0 := by
  induction F with
  | nil => rfl
  | cons e F ih =>
    have ih := ih fun e he => h e (List.mem_cons_of_mem _ he)
    have h1 := h e (List.mem_cons_self ..)
    show (e.1 :: e.2 :: ends F).countP p % 2 = 0
    rw [List.countP_cons, List.countP_cons, h1]
    cases p e.2 <;> simp <;> omega
/-- the ends in a set, by crossings -/
theorem countP_sum (p : Nat → Bool) (n : Nat) (l : List Nat) (h : ∀ x ∈ l, x < n) : l.countP p = (((List.range n).filter p).map fun x => l.count x).sum := by
  induction l with
  | nil =>
    rw [List.countP_nil]
    generalize (List.range n).filter p = r
    induction r with
    | nil => rfl
    | cons a r ih => rw [List.map_cons, List.sum_cons, ← ih]; rfl
  | cons a l ih =>
    have ih := ih fun x hx => h x (List.mem_cons_of_mem _ hx)
    have ha := h a (List.mem_cons_self ..)
    have one : ∀ r : List Nat, (r.map fun x => (a :: l).count x).sum = (r.map fun x => l.count x).sum + r.count a := by
      intro r
      induction r with
      | nil => rfl
      | cons b r ir =>
        rw [List.map_cons, List.sum_cons, ir, List.map_cons, List.sum_cons, List.count_cons, List.count_cons]
        by_cases hb : a = b
        · subst hb; simp; omega
        · have h1 : (a == b) = false := by simpa using hb
          have h2 : (b == a) = false := by simpa using Ne.symm hb
          rw [h1, h2]; simp; omega
    rw [List.countP_cons, one, ih]
    congr 1
    have nd : ((List.range n).filter p).Nodup := List.Pairwise.filter _ List.nodup_range
    cases hp : p a with
    | true => rw [if_pos rfl, List.Nodup.count nd, if_pos (List.mem_filter.2 ⟨List.mem_range.2 ha, hp⟩)]
    | false => rw [if_neg Bool.false_ne_true, List.Nodup.count nd, if_neg (fun hm => by have := (List.mem_filter.1 hm).2; rw [hp] at this; cases this)]
/-- all even but a: not alone in its class -/
theorem odd_not_alone {F : List Rd} {n a b : Nat} (hn : ∀ x ∈ ends F, x < n) (ha : a < n) (hb : (ends F).count a % 2 = 1)
    (he : ∀ x, x ≠ a → x ≠ b → (ends F).count x % 2 = 0) : Cn F a b := by
  refine Classical.byContradiction fun k => ?_
  let p : Nat → Bool := fun x => decide (heads F x = heads F a)
  have h1 := even_in p F fun e he => by
    have : heads F e.1 = heads F e.2 := (heads_iff F _ _).2 (.one (.inl he))
    show decide _ = decide _
    rw [this]
  rw [countP_sum p n _ hn] at h1
  have hpb : p b = false := decide_eq_false fun h => k ((heads_iff F b a).1 h).symm
  have key : ∀ r : List Nat, (∀ x ∈ r, x ≠ b) → ((r.map fun x => (ends F).count x).sum) % 2 = (r.count a) % 2 := by
    intro r hr
    induction r with
    | nil => rfl
    | cons x r ih =>
      have ih := ih fun y hy => hr y (List.mem_cons_of_mem _ hy)
      rw [List.map_cons, List.sum_cons, List.count_cons]
      by_cases hx : x = a
      · subst hx; simp; omega
      · have h2 := he x hx (hr x (List.mem_cons_self ..))
        have h3 : (x == a) = false := by simpa using hx
        rw [h3]; simp; omega
  have nd : ((List.range n).filter p).Nodup := List.Pairwise.filter _ List.nodup_range
  rw [key _ (fun x hx hxb => by have := (List.mem_filter.1 hx).2; rw [hxb, hpb] at this; cases this), List.Nodup.count nd,
    if_pos (List.mem_filter.2 ⟨List.mem_range.2 ha, decide_eq_true rfl⟩)] at h1
  omega
end Gr

/-! ## GraphE -/
set_option autoImplicit false
set_option linter.all false
/-! GraphE: what is a simple ring, by ranks and by degrees. Plain Lean. -/
namespace Gr
def touch (E : List Rd) (x : Nat) : Bool := decide (x ∈ ends E)
def tops (n : Nat) (E : List Rd) : Nat := ((List.range n).filter fun x => decide (heads E x = x) && touch E x).length
theorem filter_not {A : Type} (q : A → Bool) (l : List A) : (l.filter q).length + (l.filter fun x => !q x).length = l.length := by
  induction l with
  | nil => rfl
  | cons a l ih => cases hq : q a <;> simp [List.filter_cons, hq] <;> omega
theorem pieces_split (n : Nat) (E : List Rd) : pieces n E + ((List.range n).filter (touch E)).length = n + tops n E := by
  have h1 := count_split (fun x => decide (heads E x = x)) (touch E) (List.range n)
  have h2 := filter_not (touch E) (List.range n)
  have h3 : ((List.range n).filter fun x => decide (heads E x = x) && !touch E x) = (List.range n).filter fun x => !touch E x := by
    refine List.filter_congr fun x _ => ?_
    cases ht : touch E x with
    | true => rw [Bool.not_true, Bool.and_false]
    | false => rw [decide_eq_true (heads_bare (of_decide_eq_false ht))]; rfl
  rw [h3] at h1
  rw [List.length_range] at h2
  unfold pieces tops
  omega
theorem tops_pos {n : Nat} {E : List Rd} (hn : ∀ x ∈ ends E, x < n) (h : E ≠ []) : 1 ≤ tops n E := by
  obtain ⟨e, he⟩ := List.exists_mem_of_ne_nil E h
  have h1 : e.1 ∈ ends E := mem_ends.2 ⟨e, he, .inl rfl⟩
  have h2 := heads_le E e.1
  have h3 := hn _ h1
  have h4 : heads E e.1 ∈ ends E := Classical.byContradiction fun k => by
    have : ∀ {y z}, Cn E y z → z ∉ ends E → y = z := by
      intro y z c
      cases c with
      | refl => exact fun _ => rfl
      | step _ e => exact fun hz => absurd (mem_ends.2 (by rcases e with e | e; exact ⟨_, e, .inr rfl⟩; exact ⟨_, e, .inl rfl⟩)) hz
    have := this (heads_cn E e.1) k
    rw [← this] at k
    exact k h1
  exact List.length_pos_iff.2 (List.ne_nil_of_mem (List.mem_filter.2 ⟨List.mem_range.2 (by omega : heads E e.1 < n), by
    rw [decide_eq_true (heads_heads E _), Bool.true_and]; exact decide_eq_true h4⟩))
/-- one top alone: all that is touched is joined -/
theorem tops_one {n : Nat} {E : List Rd} (hn : ∀ x ∈ ends E, x < n) (h : E ≠ []) : tops n E = 1 ↔ ∀ x ∈ ends E, ∀ y ∈ ends E, Cn E x y := by
  have hd : ∀ x ∈ ends E, heads E x ∈ (List.range n).filter fun x => decide (heads E x = x) && touch E x := fun x hx => by
    have hl := heads_le E x
    have := hn x hx
    refine List.mem_filter.2 ⟨List.mem_range.2 (by omega), ?_⟩
    rw [decide_eq_true (heads_heads E x), Bool.true_and]
    refine decide_eq_true (Classical.byContradiction fun k => ?_)
    have e := heads_bare k
    have : ∀ {y z}, Cn E y z → z ∉ ends E → y = z := by
      intro y z c
      cases c with
      | refl => exact fun _ => rfl
      | step _ e => exact fun hz => absurd (mem_ends.2 (by rcases e with e | e; exact ⟨_, e, .inr rfl⟩; exact ⟨_, e, .inl rfl⟩)) hz
    rw [← this (heads_cn E x) k] at k
    exact k hx
  constructor
  · intro h1 x hx y hy
    unfold tops at h1
    obtain ⟨t, ht⟩ := List.length_eq_one_iff.1 h1
    have hx := hd x hx
    have hy := hd y hy
    rw [ht, List.mem_singleton] at hx hy
    exact (heads_iff E x y).1 (hx.trans hy.symm)
  · intro hc
    have h1 := tops_pos hn h
    refine Nat.le_antisymm ?_ h1
    refine Classical.byContradiction fun k => ?_
    have nd : ((List.range n).filter fun x => decide (heads E x = x) && touch E x).Nodup := List.Pairwise.filter _ List.nodup_range
    unfold tops at k
    generalize hl : ((List.range n).filter fun x => decide (heads E x = x) && touch E x) = l at *
    match l, k, nd with
    | a :: b :: r, _, nd =>
      have ha : a ∈ (List.range n).filter fun x => decide (heads E x = x) && touch E x := by rw [hl]; simp
      have hb : b ∈ (List.range n).filter fun x => decide (heads E x = x) && touch E x := by rw [hl]; simp
      have ha := (List.mem_filter.1 ha).2
      have hb := (List.mem_filter.1 hb).2
      rw [Bool.and_eq_true] at ha hb
      have := (heads_iff E a b).2 (hc a (of_decide_eq_true ha.2) b (of_decide_eq_true hb.2))
      rw [of_decide_eq_true ha.1, of_decide_eq_true hb.1] at this
      subst this
      exact (List.nodup_cons.1 nd).1 (List.mem_cons_self ..)
    | [a], k, _ => simp at k
    | [], k, _ => simp at k
end Gr

/-! ## GraphF -/
set_option autoImplicit false
set_option linter.all false
/-! GraphF: a simple ring by ranks is a simple ring by degrees. Plain Lean. -/
namespace Gr
theorem touched_le {n : Nat} {E : List Rd} (hn : ∀ x ∈ ends E, x < n) (h2 : ∀ x ∈ ends E, 2 ≤ (ends E).count x) :
    ((List.range n).filter (touch E)).length ≤ E.length ∧ (((List.range n).filter (touch E)).length = E.length → ∀ x ∈ ends E, (ends E).count x = 2) := by
  obtain ⟨a, b⟩ := sum_two (fun x => (ends E).count x) (touch E) (List.range n) fun x _ hx => h2 x (of_decide_eq_true hx)
  rw [sum_count n _ hn, ends_len] at a b
  exact ⟨by omega, fun h x hx => b (by omega) x (List.mem_range.2 (hn x hx)) (decide_eq_true hx)⟩
theorem touched_eq {n : Nat} {E : List Rd} (hn : ∀ x ∈ ends E, x < n) (h2 : ∀ x ∈ ends E, (ends E).count x = 2) :
    ((List.range n).filter (touch E)).length = E.length := by
  have h := sum_count n _ hn
  rw [ends_len] at h
  have key : ∀ l : List Nat, (l.map fun x => (ends E).count x).sum = 2 * (l.filter (touch E)).length := by
    intro l
    induction l with
    | nil => rfl
    | cons a l ih =>
      rw [List.map_cons, List.sum_cons, ih]
      cases ha : touch E a with
      | true => rw [List.filter_cons_of_pos ha, List.length_cons, h2 a (of_decide_eq_true ha)]; omega
      | false => rw [List.filter_cons_of_neg (by rw [ha]; exact Bool.false_ne_true), List.count_eq_zero.2 (of_decide_eq_false ha)]; omega
  rw [key] at h
  omega
end Gr
namespace Gr
theorem ends_cons (e : Rd) (E : List Rd) : ends (e :: E) = e.1 :: e.2 :: ends E := rfl
theorem ends_perm {E F : List Rd} (h : E.Perm F) : (ends E).Perm (ends F) := h.flatMap_right _
/-- roads E are a road e and others F -/
theorem circ_of_ranks {n : Nat} {E : List Rd} (hn : ∀ x ∈ ends E, x < n) (hne : E ≠ [])
    (hr : pieces n E + E.length = n + 1) (hb : ∀ e F, E.Perm (e :: F) → pieces n F = pieces n E) :
    (∀ x ∈ ends E, (ends E).count x = 2) ∧ ∀ x ∈ ends E, ∀ y ∈ ends E, Cn E x y := by
  have two : ∀ x ∈ ends E, 2 ≤ (ends E).count x := by
    intro x hx
    obtain ⟨e, he, hex⟩ := mem_ends.1 hx
    have hp : E.Perm (e :: E.erase e) := List.perm_cons_erase he
    have hc : (ends E).count x = (e.1 :: e.2 :: ends (E.erase e)).count x := (ends_perm hp).count_eq x
    have hk : Cn (E.erase e) e.1 e.2 := Classical.byContradiction fun k => by
      have := pieces_lt (n := n) (E := E) (F := E.erase e) (a := e.1) (b := e.2) (fun d => by rw [hp.mem_iff, List.mem_cons, or_comm]) (hn _ (mem_ends.2 ⟨e, he, .inl rfl⟩)) (hn _ (mem_ends.2 ⟨e, he, .inr rfl⟩)) k
      rw [hb e _ hp] at this
      omega
    rw [hc, List.count_cons, List.count_cons]
    by_cases h12 : e.1 = e.2
    · have h1 : e.1 = x := by rcases hex with h | h; exact h; exact h12.trans h
      have h2 : e.2 = x := h12 ▸ h1
      rw [h1, h2]; simp
    · have hm : x ∈ ends (E.erase e) := by
        have left : ∀ {F : List Rd} {y z}, Cn F y z → y ≠ z → z ∈ ends F := by
          intro F y z c hyz
          cases c with
          | refl => exact absurd rfl hyz
          | step _ d => exact mem_ends.2 (by rcases d with d | d; exact ⟨_, d, .inr rfl⟩; exact ⟨_, d, .inl rfl⟩)
        rcases hex with h | h
        · rw [← h]; exact left hk.symm (Ne.symm h12)
        · rw [← h]; exact left hk h12
      have h1 : 1 ≤ (ends (E.erase e)).count x := List.one_le_count_iff.2 hm
      rcases hex with h | h
      · have : (e.1 == x) = true := by simpa using h
        rw [this]; simp; omega
      · have : (e.2 == x) = true := by simpa using h
        rw [this]; simp; omega
  obtain ⟨h1, h2⟩ := touched_le hn two
  have h3 := pieces_split n E
  have h4 := tops_pos hn hne
  have h5 : ((List.range n).filter (touch E)).length = E.length := by omega
  exact ⟨h2 h5, (tops_one hn hne).1 (by omega)⟩
theorem ranks_of_circ {n : Nat} {E : List Rd} (hn : ∀ x ∈ ends E, x < n) (hne : E ≠ [])
    (h2 : ∀ x ∈ ends E, (ends E).count x = 2) (hc : ∀ x ∈ ends E, ∀ y ∈ ends E, Cn E x y) :
    pieces n E + E.length = n + 1 ∧ ∀ e F, E.Perm (e :: F) → pieces n F = pieces n E := by
  have h3 := pieces_split n E
  rw [touched_eq hn h2, (tops_one hn hne).2 hc] at h3
  refine ⟨h3, fun e F hp => (pieces_in (a := e.1) (b := e.2) (fun d => by rw [hp.mem_iff, List.mem_cons, or_comm]) ?_).symm⟩
  by_cases h12 : e.1 = e.2
  · rw [h12]; exact .refl _
  have hm : ∀ x ∈ ends F, x ∈ ends E := fun x hx => (ends_perm hp).mem_iff.2 (List.mem_cons_of_mem _ (List.mem_cons_of_mem _ hx))
  have hcnt : ∀ x, (ends E).count x = (e.1 :: e.2 :: ends F).count x := fun x => (ends_perm hp).count_eq x
  have h1 : e.1 ∈ ends E := mem_ends.2 ⟨e, hp.mem_iff.2 (List.mem_cons_self ..), .inl rfl⟩
  refine odd_not_alone (n := n) (fun x hx => hn x (hm x hx)) (hn _ h1) ?_ ?_
  · have a := h2 _ h1
    rw [hcnt, List.count_cons, List.count_cons] at a
    have : (e.2 == e.1) = false := by simpa using Ne.symm h12
    rw [this] at a
    simp at a
    omega
  · intro x hx1 hx2
    have a := hcnt x
    rw [List.count_cons, List.count_cons] at a
    have e1 : (e.1 == x) = false := by simpa using Ne.symm hx1
    have e2 : (e.2 == x) = false := by simpa using Ne.symm hx2
    rw [e1, e2] at a
    simp at a
    by_cases hx : x ∈ ends E
    · rw [h2 x hx] at a; omega
    · rw [List.count_eq_zero.2 hx] at a; omega
end Gr

/-! ## GraphG -/
set_option autoImplicit false
set_option linter.all false
/-! GraphG: ways along roads. Plain Lean. -/
namespace Gr
/-- from s by the roads g, met m, now at x -/
inductive Walk (rd : Nat → Rd) (s : Nat) : List Nat → List Nat → Nat → Prop
  | nil : Walk rd s [] [] s
  | snoc {g m : List Nat} {x y r : Nat} : Walk rd s g m x → (rd r = (x, y) ∨ rd r = (y, x)) → Walk rd s (g ++ [r]) (m ++ [x]) y
variable {rd : Nat → Rd} {s x : Nat} {g m : List Nat}
theorem Walk.len (h : Walk rd s g m x) : g.length = m.length := by
  induction h with
  | nil => rfl
  | snoc _ _ ih => rw [List.length_append, List.length_append, ih]; rfl
theorem Walk.head (h : Walk rd s g m x) : (m ++ [x]).head? = some s := by
  induction h with
  | nil => rfl
  | @snoc g m x y r _ _ ih =>
    cases m with
    | nil => exact ih
    | cons a m => exact ih
theorem ends_append (E F : List Rd) : ends (E ++ F) = ends E ++ ends F := List.flatMap_append ..
theorem tail_snoc {A : Type} (l : List A) (a b : A) : (l ++ [a] ++ [b]).tail = (l ++ [a]).tail ++ [b] := by cases l <;> rfl
theorem Walk.ends (h : Walk rd s g m x) (z : Nat) : (Gr.ends (g.map rd)).count z = m.count z + (m ++ [x]).tail.count z := by
  induction h with
  | nil => rfl
  | @snoc g m x y r _ e ih =>
    rw [List.map_append, ends_append, List.count_append, ih, tail_snoc, List.count_append, List.count_append]
    have : (Gr.ends (List.map rd [r])).count z = [x].count z + [y].count z := by
      rw [← List.count_append]
      rcases e with e | e
      · show (Gr.ends [rd r]).count z = _; rw [e]; rfl
      · show (Gr.ends [rd r]).count z = _; rw [e]; exact List.Perm.count_eq (List.Perm.swap ..) z
    omega
theorem Walk.split {m1 m2 : List Nat} (h : Walk rd s g (m1 ++ m2) x) : ∃ g1 g2 z, g = g1 ++ g2 ∧ Walk rd s g1 m1 z ∧ Walk rd z g2 m2 x := by
  generalize hm : m1 ++ m2 = mm at h
  induction h generalizing m2 with
  | nil =>
    obtain ⟨rfl, rfl⟩ := List.append_eq_nil_iff.1 hm
    exact ⟨[], [], s, rfl, .nil, .nil⟩
  | @snoc g m x y r w e ih =>
    rcases List.eq_nil_or_concat m2 with rfl | ⟨l, a, rfl⟩
    · rw [List.append_nil] at hm
      subst hm
      exact ⟨g ++ [r], [], y, by simp, .snoc w e, .nil⟩
    · rw [List.concat_eq_append, ← List.append_assoc] at hm
      have h1 := List.append_inj' hm rfl
      obtain ⟨h1, h2⟩ := h1
      cases h2
      obtain ⟨g1, g2, z, h3, h4, h5⟩ := ih h1
      exact ⟨g1, g2 ++ [r], z, by rw [h3, List.append_assoc], h4, by rw [List.concat_eq_append]; exact .snoc h5 e⟩
theorem Walk.joined (h : Walk rd s g m x) : ∀ z ∈ m ++ [x], Cn (g.map rd) s z := by
  induction h with
  | nil => intro z hz; simp at hz; subst hz; exact .refl _
  | @snoc g m x y r _ e ih =>
    intro z hz
    have up : ∀ {u v}, Cn (g.map rd) u v → Cn ((g ++ [r]).map rd) u v := fun c => c.mono fun e he => by rw [List.map_append]; exact List.mem_append_left _ he
    rcases List.mem_append.1 hz with hz | hz
    · exact up (ih z hz)
    · rw [List.mem_singleton] at hz
      subst hz
      refine .step (up (ih x (by simp))) ?_
      have : rd r ∈ (g ++ [r]).map rd := by rw [List.map_append]; exact List.mem_append_right _ (by simp)
      rcases e with e | e
      · exact .inl (e ▸ this)
      · exact .inr (e ▸ this)
/-- a way that comes back: a ring -/
theorem Walk.ring {m1 m2 : List Nat} {y : Nat} (h : Walk rd s g (m1 ++ y :: m2) y) (nd : (m1 ++ y :: m2).Nodup) :
    ∃ g1 g2, g = g1 ++ g2 ∧ g1.length = m1.length ∧ g2 ≠ [] ∧ (∀ z ∈ Gr.ends (g2.map rd), (Gr.ends (g2.map rd)).count z = 2) ∧
      ∀ u ∈ Gr.ends (g2.map rd), ∀ v ∈ Gr.ends (g2.map rd), Cn (g2.map rd) u v := by
  obtain ⟨g1, g2, z, h1, h2, h3⟩ := h.split
  have hz := h3.head
  cases hz
  have nd2 : (y :: m2).Nodup := (List.nodup_append.1 nd).2.1
  have cnt : ∀ z, (Gr.ends (g2.map rd)).count z = 2 * (y :: m2).count z := by
    intro z
    rw [h3.ends z]
    show _ + (m2 ++ [y]).count z = _
    rw [List.count_append, List.count_cons, List.count_cons, List.count_nil]
    omega
  refine ⟨g1, g2, h1, h2.len, ?_, ?_, ?_⟩
  · intro e
    have := h3.len
    rw [e] at this
    cases this
  · intro z hz
    rw [cnt, List.Nodup.count nd2]
    rw [← List.one_le_count_iff, cnt] at hz
    rw [if_pos (List.one_le_count_iff.1 (by omega))]
  · have on : ∀ u ∈ Gr.ends (g2.map rd), Cn (g2.map rd) y u := by
      intro u hu
      rw [← List.one_le_count_iff, cnt] at hu
      exact h3.joined u (List.mem_append_left _ (List.one_le_count_iff.1 (by omega)))
    exact fun u hu v hv => (on u hu).symm.trans (on v hv)
end Gr

/-! ## GraphH -/
set_option autoImplicit false
set_option linter.all false
/-! GraphH: a way in an even lot never sticks. Plain Lean. -/
namespace Gr
variable {rd : Nat → Rd} {s x : Nat} {g m : List Nat}
theorem perm_split {lot g : List Nat} (nd : lot.Nodup) (gnd : g.Nodup) (sub : ∀ r ∈ g, r ∈ lot) : lot.Perm (g ++ lot.filter fun r => !decide (r ∈ g)) := by
  refine (List.perm_ext_iff_of_nodup nd ?_).2 ?_
  · refine List.nodup_append.2 ⟨gnd, List.Pairwise.filter _ nd, fun a ha b hb => ?_⟩
    have := (List.mem_filter.1 hb).2
    rintro rfl
    rw [decide_eq_true ha] at this
    cases this
  · intro r
    rw [List.mem_append, List.mem_filter]
    by_cases h : r ∈ g
    · exact ⟨fun _ => .inl h, fun _ => sub r h⟩
    · rw [decide_eq_false h]
      exact ⟨fun hl => .inr ⟨hl, rfl⟩, fun hl => hl.elim (sub r) (·.1)⟩
theorem Walk.more (h : Walk rd s g m x) (hx : x ∉ m) (hm : m ≠ []) {lot : List Nat} (nd : lot.Nodup) (gnd : g.Nodup) (sub : ∀ r ∈ g, r ∈ lot)
    (ev : (Gr.ends (lot.map rd)).count x % 2 = 0) : ∃ r ∈ lot, r ∉ g ∧ ((rd r).1 = x ∨ (rd r).2 = x) := by
  have h1 := (ends_perm ((perm_split nd gnd sub).map rd)).count_eq x
  rw [List.map_append, ends_append, List.count_append, h.ends x, List.count_eq_zero.2 hx] at h1
  have h2 : (m ++ [x]).tail.count x = 1 := by
    cases m with
    | nil => exact absurd rfl hm
    | cons a m =>
      show (m ++ [x]).count x = 1
      rw [List.count_append, List.count_eq_zero.2 fun k => hx (List.mem_cons_of_mem _ k)]
      simp
  have h3 : 1 ≤ (Gr.ends ((lot.filter fun r => !decide (r ∈ g)).map rd)).count x := by omega
  obtain ⟨e, he, hex⟩ := mem_ends.1 (List.one_le_count_iff.1 h3)
  obtain ⟨r, hr, rfl⟩ := List.mem_map.1 he
  rw [List.mem_filter] at hr
  exact ⟨r, hr.1, fun k => (by rw [decide_eq_true k] at hr; cases hr.2 : False), hex⟩
/-- an even lot less an even lot is even -/
theorem even_less {lot g : List Nat} (nd : lot.Nodup) (gnd : g.Nodup) (sub : ∀ r ∈ g, r ∈ lot) (x : Nat)
    (h1 : (Gr.ends (lot.map rd)).count x % 2 = 0) (h2 : (Gr.ends (g.map rd)).count x % 2 = 0) :
    (Gr.ends ((lot.filter fun r => !decide (r ∈ g)).map rd)).count x % 2 = 0 := by
  have h3 := (ends_perm ((perm_split nd gnd sub).map rd)).count_eq x
  rw [List.map_append, ends_append, List.count_append] at h3
  omega
end Gr

/-! ## K80p -/
set_option Elab.async false
set_option linter.all false
set_option maxRecDepth 100000
set_option maxHeartbeats 4000000
namespace K80
def d_law_pick : Mini.Def := ⟨4, 2, [.while_ (.and (.cmp .gt (.var 1) (.int 1)) (.and (.cmp .lt (.srcI 0) (.int 2)) (.cmp .gt .srcN (.int 0)))) 1000 [.srcPop],
    .set 2 (.srcI 0),
    .iff (.or (.cmp .lt (.var 1) (.int 2)) (.cmp .gt (.var 2) (.int 1))) [.srcSet 0 (.bin .fdiv (.var 2) (.f2 .max (.int 1) (.var 1))),
    .ret (some (.bin .mod (.f1 .int (.var 2)) (.f2 .max (.int 1) (.var 1))))] [],
    .srcSet 2 (.bin .add (.srcI 2) (.int 1)),
    .set 3 (.bin .mod (.f1 .int (.bin .add (.srcI 1) (.bin .mul (.srcI 2) (.int 104729)))) (.int 998244353)),
    .set 3 (.bin .mod (.f1 .int (.bin .add (.bin .mul (.var 3) (.var 3)) (.bin .mul (.srcI 2) (.int 17)))) (.int 2147483647)),
    .srcSet 1 (.var 3),
    .ret (some (.bin .mod (.f1 .int (.bin .fdiv (.var 3) (.int 16))) (.var 1)))]⟩
def G_law_pick : Mini.Gn := Mini.runG [] [] d_law_pick
def d_law_of : Mini.Def := ⟨2, 2, [.ret (some (.idx (.var 1) (.callS 0 [(.f1 .len (.var 1))])))]⟩
def G_law_of : Mini.Gn := Mini.runG [] [G_law_pick] d_law_of
def d_law_frame : Mini.Def := ⟨9, 4, [.par [.nm 5, .nmO 6] [(.bin .add (.int 1) (.callS 0 [(.var 1)])), (.lst [])],
    .for_ (.var 4) (.range (.bin .add (.var 2) (.callS 0 [(.bin .add (.bin .sub (.var 3) (.var 2)) (.int 1))]))) [.par [.nm 7, .nm 8] [(.callS 0 [(.int 8)]), (.tup [(.callS 0 [(.var 5)]), (.callS 0 [(.var 5)])])],
    .iff (.and (.cmp .eq (.var 7) (.int 0)) (.cmp .ne (.own 6) (.lst []))) [.set 8 (.callS 1 [(.lst [(.callS 1 [(.own 6)]), (.rev (.callS 1 [(.own 6)]))])])] [],
    .iff (.and (.cmp .in_ (.var 7) (.tup [(.int 1), (.int 2), (.int 3)])) (.cmp .eq (.idx (.var 8) (.int 0)) (.idx (.var 8) (.int 1)))) [.set 8 (.tup [(.idx (.var 8) (.int 0)), (.bin .mod (.f1 .int (.bin .add (.idx (.var 8) (.int 1)) (.int 1))) (.var 5))])] [],
    .append 6 (.var 8)],
    .ret (some (.tup [(.var 5), (.f1 .tuple (.var 6))]))]⟩
def G_law_frame : Mini.Gn := Mini.runG [] [G_law_pick, G_law_of] d_law_frame
def d_lot_of_row : Mini.Def := ⟨3, 1, [.ret (some (.f1 .tuple (.comp (.var 1) (.tup [(.var 1), (.var 2)]) (.enum (.var 0)) [1, 2] [(.cmp .eq (.var 2) (.int 1))])))]⟩
def F_lot_of_row : Mini.Fn := Mini.runF [] d_lot_of_row
def d_odd_crossings : Mini.Def := ⟨5, 2, [.setO 2 (.lst []),
    .for_ (.var 3) (.seq (.call 0 [(.var 1)])) [.extend 2 (.idx (.idx (.var 0) (.int 1)) (.var 3))],
    .ret (some (.f1 .tuple (.comp (.var 4) (.var 4) (.range (.idx (.var 0) (.int 0))) [4] [(.cmp .eq (.bin .mod (.f2 .count (.var 2) (.var 4)) (.int 2)) (.int 1))])))]⟩
def F_odd_crossings : Mini.Fn := Mini.runF [F_lot_of_row] d_odd_crossings
def d_some_ring : Mini.Def := ⟨7, 2, [.par [.nm 2, .nmO 3, .nmO 4] [(.idx (.idx (.idx (.var 0) (.int 1)) (.idx (.var 1) (.int 0))) (.int 0)), (.lst []), (.lst [])],
    .while_ (.cmp .notin (.var 2) (.own 4)) 1000 [.append 4 (.var 2),
    .set 5 (.idx (.comp (.var 6) (.var 6) (.seq (.var 1)) [6] [(.and (.cmp .notin (.var 6) (.own 3)) (.cmp .in_ (.var 2) (.idx (.idx (.var 0) (.int 1)) (.var 6))))]) (.int 0)),
    .append 3 (.var 5),
    .set 2 (.bin .sub (.f1 .sum (.idx (.idx (.var 0) (.int 1)) (.var 5))) (.var 2))],
    .ret (some (.f1 .tuple (.f1 .sorted (.slice (.var 3) (some (.f2 .index (.var 4) (.var 2))) none))))]⟩
def F_some_ring : Mini.Fn := Mini.runF [] d_some_ring
def d_simple_rings_of : Mini.Def := ⟨6, 2, [.par [.nmO 2, .nm 3] [(.lst []), (.var 1)],
    .while_ (.cmp .ne (.var 3) (.tup [])) 1000 [.set 4 (.call 0 [(.var 0), (.var 3)]),
    .append 2 (.var 4),
    .set 3 (.f1 .tuple (.comp (.var 5) (.var 5) (.seq (.var 3)) [5] [(.cmp .notin (.var 5) (.var 4))]))],
    .ret (some (.f1 .tuple (.f1 .sorted (.var 2))))]⟩
def F_simple_rings_of : Mini.Fn := Mini.runF [F_some_ring] d_simple_rings_of
def d_ring_paper : Mini.Def := ⟨3, 2, [.set 2 (.call 0 [(.var 0), (.var 1)]),
    .ret (some (.ite (.cmp .ne (.var 2) (.tup [])) (.tup [(.str "odd"), (.idx (.var 2) (.int 0))]) (.tup [(.str "rings"), (.call 1 [(.var 0), (.call 2 [(.var 1)])])])))]⟩
def F_ring_paper : Mini.Fn := Mini.runF [F_odd_crossings, F_simple_rings_of, F_lot_of_row] d_ring_paper
def d_law_some_lot : Mini.Def := ⟨4, 2, [.set 2 (.callS 0 [(.lst [(.int 1), (.int 2), (.int 3)])]),
    .ret (some (.f1 .tuple (.comp (.var 3) (.var 3) (.range (.var 1)) [3] [(.cmp .lt (.callS 1 [(.int 4)]) (.var 2))])))]⟩
def G_law_some_lot : Mini.Gn := Mini.runG [] [G_law_of, G_law_pick] d_law_some_lot
def d_all_roads : Mini.Def := ⟨1, 1, [.ret (some (.rng true none (.f1 .len (.idx (.var 0) (.int 1)))))]⟩
def F_all_roads : Mini.Fn := Mini.runF [] d_all_roads
def d_is_pair_with : Mini.Def := ⟨2, 2, [.ret (some (.and (.isi (.var 0) .tuple) (.and (.cmp .eq (.f1 .len (.var 0)) (.int 2)) (.and (.isi (.idx (.var 0) (.int 0)) .str) (.cmp .in_ (.idx (.var 0) (.int 0)) (.var 1))))))]⟩
def F_is_pair_with : Mini.Fn := Mini.runF [] d_is_pair_with
def d_is_number_of : Mini.Def := ⟨2, 2, [.ret (some (.and (.isi (.var 0) .int) (.and (.not (.isi (.var 0) .bool)) (.cmp2 .le .lt (.int 0) (.var 0) (.var 1)))))]⟩
def F_is_number_of : Mini.Fn := Mini.runF [] d_is_number_of
def d_is_lot_of_numbers : Mini.Def := ⟨4, 2, [.iff (.or (.not (.isi (.var 0) .tuple)) (.not (.f1 .all (.comp (.call 0 [(.var 3), (.var 1)]) (.var 3) (.seq (.var 0)) [3] [])))) [.ret (some (.bl false))] [],
    .ret (some (.f1 .all (.comp (.cmp .lt (.idx (.var 0) (.var 2)) (.idx (.var 0) (.bin .add (.var 2) (.int 1)))) (.var 2) (.range (.bin .sub (.f1 .len (.var 0)) (.int 1))) [2] [])))]⟩
def F_is_lot_of_numbers : Mini.Fn := Mini.runF [F_is_number_of] d_is_lot_of_numbers
def d_are_lots_up : Mini.Def := ⟨4, 2, [.iff (.or (.not (.isi (.var 0) .tuple)) (.not (.f1 .all (.comp (.call 0 [(.var 3), (.var 1)]) (.var 3) (.seq (.var 0)) [3] [])))) [.ret (some (.bl false))] [],
    .ret (some (.f1 .all (.comp (.cmp .lt (.idx (.var 0) (.var 2)) (.idx (.var 0) (.bin .add (.var 2) (.int 1)))) (.var 2) (.range (.bin .sub (.f1 .len (.var 0)) (.int 1))) [2] [])))]⟩
def F_are_lots_up : Mini.Fn := Mini.runF [F_is_lot_of_numbers] d_are_lots_up
def d_heads_by : Mini.Def := ⟨8, 2, [.set 2 (.rng false none (.idx (.var 0) (.int 0))),
    .for_ (.var 3) (.seq (.var 1)) [.unpack [(.var 4), (.var 5)] (.f1 .sorted (.comp (.idx (.var 2) (.var 7)) (.var 7) (.seq (.idx (.idx (.var 0) (.int 1)) (.var 3))) [7] [])),
    .set 2 (.comp (.ite (.cmp .eq (.var 6) (.var 5)) (.var 4) (.var 6)) (.var 6) (.seq (.var 2)) [6] [])],
    .ret (some (.var 2))]⟩
def F_heads_by : Mini.Fn := Mini.runF [] d_heads_by
def d_pieces_by : Mini.Def := ⟨6, 2, [.par [.nm 3, .nmO 4] [(.call 0 [(.var 0), (.var 1)]), (.lst [])],
    .for_ (.var 2) (.range (.idx (.var 0) (.int 0))) [.iff (.cmp .eq (.idx (.var 3) (.var 2)) (.var 2)) [.append 4 (.f1 .tuple (.comp (.var 5) (.var 5) (.range (.idx (.var 0) (.int 0))) [5] [(.cmp .eq (.idx (.var 3) (.var 5)) (.var 2))]))] []],
    .ret (some (.f1 .tuple (.var 4)))]⟩
def F_pieces_by : Mini.Fn := Mini.runF [F_heads_by] d_pieces_by
def d_piece_count : Mini.Def := ⟨2, 2, [.ret (some (.f1 .len (.call 0 [(.var 0), (.var 1)])))]⟩
def F_piece_count : Mini.Fn := Mini.runF [F_pieces_by] d_piece_count
def d_frame_rank : Mini.Def := ⟨2, 2, [.ret (some (.bin .sub (.idx (.var 0) (.int 0)) (.call 0 [(.var 0), (.var 1)])))]⟩
def F_frame_rank : Mini.Fn := Mini.runF [F_piece_count] d_frame_rank
def d_is_simple_ring : Mini.Def := ⟨4, 2, [.iff (.cmp .ne (.call 0 [(.var 0), (.var 1)]) (.bin .sub (.f1 .len (.var 1)) (.int 1))) [.ret (some (.bl false))] [],
    .ret (some (.f1 .all (.comp (.cmp .eq (.call 0 [(.var 0), (.comp (.var 3) (.var 3) (.seq (.var 1)) [3] [(.cmp .ne (.var 3) (.var 2))])]) (.bin .sub (.f1 .len (.var 1)) (.int 1))) (.var 2) (.seq (.var 1)) [2] [])))]⟩
def F_is_simple_ring : Mini.Fn := Mini.runF [F_frame_rank] d_is_simple_ring
def d_judge_ring_paper : Mini.Def := ⟨6, 3, [.iff (.not (.call 1 [(.var 2), (.tup [(.str "rings"), (.str "odd")])])) [.ret (some (.tup [(.str "form")]))] [],
    .iff (.cmp .eq (.idx (.var 2) (.int 0)) (.str "odd")) [.iff (.not (.call 3 [(.idx (.var 2) (.int 1)), (.idx (.var 0) (.int 0))])) [.ret (some (.tup [(.str "form")]))] [],
    .ret (some (.ite (.cmp .in_ (.idx (.var 2) (.int 1)) (.call 5 [(.var 0), (.var 1)])) .non (.tup [(.str "even")])))] [],
    .iff (.not (.call 2 [(.idx (.var 2) (.int 1)), (.f1 .len (.idx (.var 0) (.int 1)))])) [.ret (some (.tup [(.str "form")]))] [],
    .for_ (.tup [(.var 4), (.var 5)]) (.enum (.idx (.var 2) (.int 1))) [.iff (.not (.call 4 [(.var 0), (.var 5)])) [.ret (some (.tup [(.str "ring"), (.var 4)]))] []],
    .for_ (.var 3) (.seq (.call 0 [(.var 0)])) [.iff (.cmp .ne (.f1 .len (.comp (.var 5) (.var 5) (.seq (.idx (.var 2) (.int 1))) [5] [(.cmp .in_ (.var 3) (.var 5))])) (.idx (.var 1) (.var 3))) [.ret (some (.tup [(.str "road"), (.var 3)]))] []],
    .ret (some .non)]⟩
def F_judge_ring_paper : Mini.Fn := Mini.runF [F_all_roads, F_is_pair_with, F_are_lots_up, F_is_number_of, F_is_simple_ring, F_odd_crossings] d_judge_ring_paper
def d_law_even_lot : Mini.Def := ⟨12, 2, [.setO 2 (.f1 .dict (.comp (.tup [(.var 10), (.int 0)]) (.var 10) (.range (.f1 .len (.idx (.var 1) (.int 1)))) [10] [])),
    .for_ (.var 3) (.range (.int 4)) [.par [.nm 5, .nmO 6] [(.callS 0 [(.idx (.var 1) (.int 0))]), (.lst [])],
    .par [.nmO 7, .nmO 8] [(.lst [(.var 5)]), (.f1 .list (.own 2))],
    .while_ (.cmp .ne (.own 8) (.lst [])) 1000 [.set 9 (.comp (.var 10) (.var 10) (.seq (.own 8)) [10] [(.cmp .in_ (.var 5) (.idx (.idx (.var 1) (.int 1)) (.var 10)))]),
    .orNil 8 (.cmp .ne (.var 9) (.lst [])),
    .iff (.cmp .ne (.var 9) (.lst [])) [.set 10 (.callS 1 [(.var 9)]),
    .remove 8 (.var 10),
    .append 6 (.var 10),
    .set 5 (.bin .sub (.bin .add (.idx (.idx (.idx (.var 1) (.int 1)) (.var 10)) (.int 0)) (.idx (.idx (.idx (.var 1) (.int 1)) (.var 10)) (.int 1))) (.var 5)),
    .append 7 (.var 5)] []],
    .for_ (.var 4) (.range (.bin .sub (.f1 .len (.own 7)) (.int 1))) [.iff (.and (.cmp .in_ (.idx (.own 7) (.var 4)) (.slice (.own 7) (some (.bin .add (.var 4) (.int 1))) none)) (.cmp .eq (.callS 0 [(.int 2)]) (.int 0))) [.set 11 (.bin .add (.bin .add (.var 4) (.int 1)) (.f2 .index (.slice (.own 7) (some (.bin .add (.var 4) (.int 1))) none) (.idx (.own 7) (.var 4)))),
    .for_ (.var 10) (.seq (.slice (.own 6) (some (.var 4)) (some (.var 11)))) [.sub 2 (.var 10) (.bin .sub (.int 1) (.idx (.own 2) (.var 10)))]] []]],
    .ret (some (.f1 .tuple (.comp (.var 10) (.var 10) (.seq (.f1 .sorted (.var 2))) [10] [(.cmp .eq (.idx (.var 2) (.var 10)) (.int 1))])))]⟩
def G_law_even_lot : Mini.Gn := Mini.runG [] [G_law_pick, G_law_of] d_law_even_lot
def d_law_row : Mini.Def := ⟨3, 2, [.ret (some (.f1 .tuple (.comp (.f1 .int (.cmp .in_ (.var 2) (.var 1))) (.var 2) (.range (.var 0)) [2] [])))]⟩
def F_law_row : Mini.Fn := Mini.runF [] d_law_row
def d_law_odd : Mini.Def := ⟨5, 2, [.setO 2 (.bin .mul (.lst [(.int 0)]) (.idx (.var 0) (.int 0))),
    .for_ (.var 3) (.seq (.var 1)) [.for_ (.var 4) (.seq (.idx (.idx (.var 0) (.int 1)) (.var 3))) [.sub 2 (.var 4) (.bin .add (.idx (.own 2) (.var 4)) (.int 1))]],
    .ret (some (.comp (.var 4) (.var 4) (.range (.idx (.var 0) (.int 0))) [4] [(.cmp .eq (.bin .mod (.f1 .int (.idx (.var 2) (.var 4))) (.int 2)) (.int 1))]))]⟩
def F_law_odd : Mini.Fn := Mini.runF [] d_law_odd
def d_law_is_pair : Mini.Def := ⟨2, 2, [.ret (some (.and (.isi (.var 0) .tuple) (.and (.cmp .eq (.f1 .len (.var 0)) (.int 2)) (.and (.isi (.idx (.var 0) (.int 0)) .str) (.cmp .in_ (.idx (.var 0) (.int 0)) (.var 1))))))]⟩
def F_law_is_pair : Mini.Fn := Mini.runF [] d_law_is_pair
def d_law_is_lot : Mini.Def := ⟨3, 2, [.iff (.not (.isi (.var 0) .tuple)) [.ret (some (.bl false))] [],
    .iff (.cmp .ne (.comp (.int 1) (.var 2) (.seq (.var 0)) [2] [(.or (.not (.isi (.var 2) .int)) (.or (.isi (.var 2) .bool) (.not (.cmp2 .le .lt (.int 0) (.var 2) (.var 1)))))]) (.lst [])) [.ret (some (.bl false))] [],
    .ret (some (.cmp .eq (.comp (.var 2) (.var 2) (.range2 (.int 1) (.f1 .len (.var 0))) [2] [(.cmp .le (.idx (.var 0) (.var 2)) (.idx (.var 0) (.bin .sub (.var 2) (.int 1))))]) (.lst [])))]⟩
def F_law_is_lot : Mini.Fn := Mini.runF [] d_law_is_lot
def d_law_pieces : Mini.Def := ⟨11, 2, [.par [.nmO 2, .nmO 3] [(.rng false none (.idx (.var 0) (.int 0))), (.lst [])],
    .while_ (.cmp .ne (.own 2) (.lst [])) 1000 [.par [.nmO 4, .nmO 5] [(.lst []), (.slice (.own 2) none (some (.int 1)))],
    .while_ (.cmp .ne (.own 5) (.lst [])) 1000 [.popTo 6 5,
    .iff (.cmp .in_ (.var 6) (.own 2)) [.remove 2 (.var 6),
    .append 4 (.var 6),
    .set 7 (.comp (.idx (.idx (.var 0) (.int 1)) (.var 8)) (.var 8) (.seq (.var 1)) [8] [(.cmp .in_ (.var 6) (.idx (.idx (.var 0) (.int 1)) (.var 8)))]),
    .setO 5 (.bin .add (.own 5) (.comp (.ite (.cmp .eq (.var 9) (.var 6)) (.var 10) (.var 9)) (.tup [(.var 9), (.var 10)]) (.seq (.var 7)) [9, 10] []))] []],
    .append 3 (.f1 .sorted (.own 4))],
    .ret (some (.var 3))]⟩
def F_law_pieces : Mini.Fn := Mini.runF [] d_law_pieces
def d_law_is_ring : Mini.Def := ⟨7, 2, [.iff (.or (.cmp .eq (.var 1) (.tup [])) (.cmp .ne (.call 0 [(.var 0), (.var 1)]) (.lst []))) [.ret (some (.bl false))] [],
    .set 2 (.lst []),
    .for_ (.var 3) (.seq (.var 1)) [.set 2 (.bin .add (.var 2) (.f1 .list (.idx (.idx (.var 0) (.int 1)) (.var 3))))],
    .iff (.cmp .ne (.comp (.var 4) (.var 4) (.seq (.var 2)) [4] [(.cmp .ne (.f1 .len (.comp (.int 1) (.var 6) (.seq (.var 2)) [6] [(.cmp .eq (.var 6) (.var 4))])) (.int 2))]) (.lst [])) [.ret (some (.bl false))] [],
    .ret (some (.cmp .eq (.f1 .len (.comp (.var 5) (.var 5) (.seq (.call 1 [(.var 0), (.var 1)])) [5] [(.cmp .ne (.comp (.var 4) (.var 4) (.seq (.var 5)) [4] [(.cmp .in_ (.var 4) (.var 2))]) (.lst []))])) (.int 1)))]⟩
def F_law_is_ring : Mini.Fn := Mini.runF [F_law_odd, F_law_pieces] d_law_is_ring
def d_law_fault : Mini.Def := ⟨8, 3, [.set 3 (.f1 .len (.idx (.var 0) (.int 1))),
    .iff (.not (.call 0 [(.var 2), (.tup [(.str "rings"), (.str "odd")])])) [.ret (some (.tup [(.str "form")]))] [],
    .iff (.cmp .eq (.idx (.var 2) (.int 0)) (.str "odd")) [.iff (.not (.call 1 [(.tup [(.idx (.var 2) (.int 1))]), (.idx (.var 0) (.int 0))])) [.ret (some (.tup [(.str "form")]))] [],
    .ret (some (.ite (.cmp .in_ (.idx (.var 2) (.int 1)) (.call 2 [(.var 0), (.comp (.var 5) (.var 5) (.range (.var 3)) [5] [(.cmp .eq (.idx (.var 1) (.var 5)) (.int 1))])])) .non (.tup [(.str "even")])))] [],
    .iff (.or (.not (.isi (.idx (.var 2) (.int 1)) .tuple)) (.cmp .ne (.comp (.int 1) (.var 7) (.seq (.idx (.var 2) (.int 1))) [7] [(.not (.call 1 [(.var 7), (.var 3)]))]) (.lst []))) [.ret (some (.tup [(.str "form")]))] [],
    .iff (.cmp .ne (.comp (.var 5) (.var 5) (.range2 (.int 1) (.f1 .len (.idx (.var 2) (.int 1)))) [5] [(.cmp .le (.idx (.idx (.var 2) (.int 1)) (.var 5)) (.idx (.idx (.var 2) (.int 1)) (.bin .sub (.var 5) (.int 1))))]) (.lst [])) [.ret (some (.tup [(.str "form")]))] [],
    .set 4 (.comp (.var 6) (.tup [(.var 6), (.var 7)]) (.enum (.idx (.var 2) (.int 1))) [6, 7] [(.not (.call 3 [(.var 0), (.var 7)]))]),
    .iff (.cmp .ne (.var 4) (.lst [])) [.ret (some (.tup [(.str "ring"), (.idx (.var 4) (.int 0))]))] [],
    .set 4 (.comp (.var 5) (.var 5) (.range (.var 3)) [5] [(.cmp .ne (.f1 .len (.comp (.var 7) (.var 7) (.seq (.idx (.var 2) (.int 1))) [7] [(.cmp .in_ (.var 5) (.var 7))])) (.idx (.var 1) (.var 5)))]),
    .ret (some (.ite (.cmp .ne (.var 4) (.lst [])) (.tup [(.str "road"), (.idx (.var 4) (.int 0))]) .non))]⟩
def F_law_fault : Mini.Fn := Mini.runF [F_law_is_pair, F_law_is_lot, F_law_odd, F_law_is_ring] d_law_fault
def d_law_bent : Mini.Def := ⟨5, 2, [.set 2 (.lst [.non, (.int 0), (.int 1), (.bl true), (.neg (.int 1)), (.int 14), (.str "a"), (.str "rings"), (.str "odd"), (.str "lot"), (.str "ring"), (.str "heights"), (.tup []), (.tup [(.int 0)]), (.tup [(.int 0), (.int 1)]), (.tup [(.tup [(.int 0)])]), (.lst []), .dic0]),
    .iff (.or (.not (.isi (.var 1) .tuple)) (.or (.cmp .eq (.var 1) (.tup [])) (.cmp .eq (.callS 0 [(.int 4)]) (.int 0)))) [.set 4 (.lst [(.callS 1 [(.var 2)])]),
    .iff (.isi (.var 1) .tuple) [.set 4 (.bin .add (.var 4) (.lst [(.slice (.var 1) (some (.int 1)) none), (.slice (.var 1) none (some (.neg (.int 1)))), (.bin .add (.var 1) (.slice (.var 1) none (some (.int 1)))), (.f1 .list (.var 1)), (.rev (.var 1)), (.bin .add (.var 1) (.tup [(.int 0)]))]))] [],
    .ret (some (.callS 1 [(.var 4)]))] [],
    .set 3 (.callS 0 [(.f1 .len (.var 1))]),
    .ret (some (.bin .add (.bin .add (.slice (.var 1) none (some (.var 3))) (.tup [(.callS 2 [(.idx (.var 1) (.var 3))])])) (.slice (.var 1) (some (.bin .add (.var 3) (.int 1))) none)))]⟩
def G_law_bent : Nat → Mini.Gn
  | 0 => fun _ _ => none
  | n + 1 => Mini.runG [] [G_law_pick, G_law_of, (G_law_bent n)] d_law_bent
def d_law : Mini.Def := ⟨16, 1, [.for_ (.var 2) (.range (.int 4)) [.set 3 (.callS 0 [(.idx (.lst [(.int 3), (.int 8), (.int 5), (.int 8)]) (.var 2)), (.int 1), (.idx (.lst [(.int 6), (.int 10), (.int 8), (.int 14)]) (.var 2))]),
    .par [.nm 10, .nm 11] [(.f1 .len (.idx (.var 3) (.int 1))), (.f1 .repr (.var 3))],
    .set 5 (.ite (.cmp .gt (.callS 3 [(.int 3)]) (.int 0)) (.callS 2 [(.var 3)]) (.callS 1 [(.var 10)])),
    .par [.nm 12, .nm 13] [(.call 2 [(.var 10), (.var 5)]), (.call 3 [(.var 3), (.var 5)])],
    .set 4 (.call 0 [(.var 3), (.var 12)]),
    .iff (.or (.cmp .ne (.f1 .repr (.call 7 [(.var 3), (.var 12)])) (.f1 .repr (.f1 .tuple (.var 13)))) (.cmp .ne (.idx (.var 4) (.int 0)) (.ite (.cmp .eq (.var 13) (.lst [])) (.str "rings") (.str "odd")))) [.ret (some (.bl false))] [],
    .iff (.or (.cmp .isnot (.call 4 [(.var 3), (.var 12), (.var 4)]) .non) (.cmp .ne (.f1 .repr (.call 0 [(.var 3), (.var 12)])) (.f1 .repr (.var 4)))) [.ret (some (.bl false))] [],
    .iff (.and (.cmp .eq (.var 13) (.lst [])) (.cmp .isnot (.call 4 [(.var 3), (.var 12), (.tup [(.str "rings"), (.call 8 [(.var 3), (.var 5)])])]) .non)) [.ret (some (.bl false))] [],
    .set 6 (.callS 1 [(.var 10)]),
    .iff (.cmp .ne (.f1 .repr (.call 5 [(.var 3), (.var 6)])) (.f1 .repr (.call 6 [(.var 3), (.var 6)]))) [.ret (some (.bl false))] [],
    .set 7 (.lst [(.var 4), (.tup [(.str "odd"), (.callS 3 [(.idx (.var 3) (.int 0))])]), (.tup [(.str "rings"), (.tup [(.var 5)])]), (.tup [(.str "rings"), (.tup [])]), (.tup [(.str "rings"), (.tup [(.var 6), (.var 5)])])]),
    .iff (.cmp .eq (.var 13) (.lst [])) [.set 7 (.bin .add (.var 7) (.lst [(.tup [(.str "rings"), (.call 8 [(.var 3), (.var 5)])]), (.tup [(.str "rings"), (.slice (.call 8 [(.var 3), (.var 5)]) (some (.int 1)) none)])]))] [],
    .set 8 (.bin .add (.var 7) (.comp (.callS 4 [(.callS 5 [(.bin .add (.var 7) (.bin .mul (.lst [(.var 4)]) (.int 3)))])]) (.var 15) (.range (.int 8)) [15] [])),
    .for_ (.var 9) (.seq (.bin .add (.var 8) (.lst [.non, (.tup []), (.str "odd"), (.f1 .list (.var 4)), (.callS 4 [(.callS 4 [(.var 4)])])]))) [.set 14 (.f1 .repr (.var 9)),
    .iff (.or (.cmp .ne (.f1 .repr (.call 1 [(.var 3), (.var 12), (.var 9)])) (.f1 .repr (.call 4 [(.var 3), (.var 12), (.var 9)]))) (.cmp .ne (.f1 .repr (.var 9)) (.var 14))) [.ret (some (.bl false))] []],
    .iff (.cmp .ne (.f1 .repr (.var 3)) (.var 11)) [.ret (some (.bl false))] []],
    .set 3 (.tup [(.int 3), (.tup [(.tup [(.int 0), (.int 1)]), (.tup [(.int 0), (.int 1)]), (.tup [(.int 0), (.int 2)]), (.tup [(.int 1), (.int 2)])])]),
    .set 4 (.lst [(.call 0 [(.var 3), (.tup [(.int 1), (.int 1), (.int 0), (.int 0)])]), (.call 1 [(.var 3), (.tup [(.int 1), (.int 0), (.int 0), (.int 0)]), (.tup [(.str "odd"), (.int 1)])])]),
    .ret (some (.cmp .eq (.f1 .repr (.bin .add (.var 4) (.lst [(.idx (.call 0 [(.var 3), (.tup [(.int 1), (.int 0), (.int 0), (.int 0)])]) (.int 0))]))) (.f1 .repr (.lst [(.tup [(.str "rings"), (.tup [(.tup [(.int 0), (.int 1)])])]), .non, (.str "odd")]))))]⟩
/-- what is left: the law, told in mini -/
def Plain : Prop := ∀ ns : List Int, ns.length ≤ 63 → ∃ ρ s, Mini.ex [F_ring_paper, F_judge_ring_paper, F_law_row, F_law_odd, F_law_fault, F_is_simple_ring, F_law_is_ring, F_odd_crossings, F_simple_rings_of] [G_law_frame, G_law_some_lot, G_law_even_lot, G_law_pick, (G_law_bent 8), G_law_of] 40 20 (List.replicate 16 none) d_law.body (some (Mini.srcOf ns)) = some (.rt (.bl true), ρ, s)
end K80

/-! ## K80c -/
set_option autoImplicit false
set_option linter.all false
set_option Elab.async false
set_option maxHeartbeats 2000000
namespace K80
open Mini Gr
def encR (r : Rd) : D := .tup [natD r.1, natD r.2]
def encF (n : Nat) (rs : List Rd) : D := .tup [natD n, .tup (rs.map encR)]
theorem idxF0 (n : Nat) (rs : List Rd) : idxD (encF n rs) (.int 0) = some (natD n) := (rfl)
theorem idxF1 (n : Nat) (rs : List Rd) : idxD (encF n rs) (.int 1) = some (.tup (rs.map encR)) := (rfl)
def rdOf (rs : List Rd) (k : Nat) : Rd := rs.getD k (0, 0)
theorem rdOf_get {rs : List Rd} {k : Nat} (h : k < rs.length) : rs[k]? = some (rdOf rs k) := by
  unfold rdOf; rw [List.getD_eq_getElem?_getD, List.getElem?_eq_getElem h]; rfl
theorem idx_rd {rs : List Rd} {k : Nat} (h : k < rs.length) : idxD (.tup (rs.map encR)) (natD k) = some (encR (rdOf rs k)) := idx_tup encR rs k _ (rdOf_get h)
theorem items_rd (r : Rd) : itemsOf (encR r) = some ([r.1, r.2].map natD) := (rfl)
/-- a frame: crossings from 1 to 8, roads from 1 to 14 -/
structure WF (n : Nat) (rs : List Rd) : Prop where
  n1 : 1 ≤ n
  n8 : n ≤ 8
  m1 : 1 ≤ rs.length
  m14 : rs.length ≤ 14
  ends : ∀ e ∈ rs, e.1 < n ∧ e.2 < n
theorem WF.rd {n : Nat} {rs : List Rd} (h : WF n rs) {k : Nat} (hk : k < rs.length) : (rdOf rs k).1 < n ∧ (rdOf rs k).2 < n := by
  refine h.ends _ ?_
  unfold rdOf; rw [List.getD_eq_getElem?_getD, List.getElem?_eq_getElem hk]; exact List.getElem_mem hk
theorem lim_n {n k : Nat} (h : n ≤ k) (hk : k ≤ 1000000) : n ≤ LIM := Nat.le_trans h hk
theorem sort2 (a b : Nat) : f1D .sorted (.lst [natD a, natD b]) = some (.lst [natD (min a b), natD (max a b)]) := by
  show sortD false (.lst [.int a, .int b]) = _
  have : sortI [(a : Int), (b : Int)] = [((min a b : Nat) : Int), ((max a b : Nat) : Int)] := by
    unfold sortI
    simp [List.mergeSort, List.MergeSort.Internal.splitInTwo, List.merge]
    by_cases h : a ≤ b
    · simp [h, Nat.min_eq_left h, Nat.max_eq_right h]
    · have h' : b ≤ a := by omega
      simp [h, Nat.min_eq_right h', Nat.max_eq_left h']
  simp only [sortD, intsOf, List.length_cons, List.length_nil]
  rw [if_pos (by decide)]
  simp only [Option.map_some, this]
  rfl
/-- a lot: a tuple or a list -/
def LotD (lot : List Nat) (d : D) : Prop := itemsOf d = some (lot.map natD)
theorem lot_tup (lot : List Nat) : LotD lot (natsT lot) := rfl
theorem lot_lst (lot : List Nat) : LotD lot (natsL lot) := rfl
theorem get_range_map {A : Type} (f : Nat → A) {n k : Nat} (h : k < n) : ((List.range n).map f)[k]? = some (f k) := by
  rw [List.getElem?_map, List.getElem?_range h]; rfl
abbrev tabL (n : Nat) (f : Nat → Nat) : D := .lst ((List.range n).map fun x => natD (f x))
theorem idx_tab {n x : Nat} {f : Nat → Nat} (h : x < n) : idxD (tabL n f) (natD x) = some (natD (f x)) := idx_lst (fun x => natD (f x)) (List.range n) x x (List.getElem?_range h)
theorem map_heads {E : List Rd} {e : Rd} {x : Nat} : heads (E ++ [e]) x = if heads E x = max (heads E e.1) (heads E e.2) then min (heads E e.1) (heads E e.2) else heads E x := by rw [heads_snoc]; rfl
theorem p_heads_by {n : Nat} {rs : List Rd} {lot : List Nat} {ld : D} (W : WF n rs) (hl : ∀ k ∈ lot, k < rs.length) (h : LotD lot ld) :
    F_heads_by [encF n rs, ld] = some (tabL n (heads (lot.map (rdOf rs)))) := by
  refine runF_of (by rfl) ?_
  have hn : n ≤ LIM := lim_n W.n8 (by decide)
  rw [show startE d_heads_by [encF n rs, ld] = [some (.val (encF n rs)), some (.val ld), none, none, none, none, none, none] from rfl, d_heads_by]
  simp! [idxF0, rngF_nat hn, show itemsOf ld = some (lot.map natD) from h]
  generalize hX : forX _ _ _ _ _ _ = X
  obtain ⟨ρ', s', rfl, o3, o4, o5, rfl, rfl⟩ := for_of hX natD (fun d ρ s => ∃ o3 o4 o5, ρ = [some (.val (encF n rs)), some (.val ld), some (.val (tabL n (heads (d.map (rdOf rs))))), o3, o4, o5, none, none] ∧ s = none) lot rfl ⟨none, none, none, rfl, rfl⟩ (by
    clear hX
    rintro d a r ρ s rfl ⟨o3, o4, o5, rfl, rfl⟩
    have ha : a < rs.length := hl a (by simp)
    have hr := W.rd ha
    generalize he : heads (d.map (rdOf rs)) = f
    simp! [idxF1, idx_rd ha, items_rd]
    generalize hX : compL _ _ _ _ _ _ _ = X
    have := map_of hX natD (fun x => natD (f x)) [(rdOf rs a).1, (rdOf rs a).2] rfl (by
      intro x hx
      have hx : x < n := by simp at hx; omega
      simp! [idx_tab hx])
    subst this
    simp! [sort2, Post_some, lim_ok (show 2 ≤ LIM by decide), List.length_cons, List.length_nil, List.length_map, List.length_range, lim_ok hn]
    clear hX
    generalize hX : compL _ _ _ _ _ _ _ = X
    have := map_of hX (fun x => natD (f x)) (fun x => natD (heads ((d ++ [a]).map (rdOf rs)) x)) (List.range n) rfl (by
      intro x hx
      rw [List.map_append, List.map_cons, List.map_nil, map_heads, he]
      simp! [cmp_eq]
      by_cases h : f x = max (f (rdOf rs a).1) (f (rdOf rs a).2)
      · rw [sel_pos (by omega), if_pos h]; simp! []
      · rw [sel_neg (by omega), if_neg h]; simp! [])
    subst this
    simp! [Post_some]
    exact ⟨.inl trivial, _, _, _, rfl, trivial⟩)
  simp! [Post_some]
/-- the pieces by a lot -/
def piecesL (n : Nat) (E : List Rd) : List (List Nat) := ((List.range n).filter fun x => decide (heads E x = x)).map fun f => (List.range n).filter fun x => decide (heads E x = f)
theorem p_pieces_by {n : Nat} {rs : List Rd} {lot : List Nat} {ld : D} (W : WF n rs) (hl : ∀ k ∈ lot, k < rs.length) (h : LotD lot ld) :
    F_pieces_by [encF n rs, ld] = some (.tup ((piecesL n (lot.map (rdOf rs))).map natsT)) := by
  refine runF_of (by rfl) ?_
  have hn : n ≤ LIM := lim_n W.n8 (by decide)
  rw [show startE d_pieces_by [encF n rs, ld] = [some (.val (encF n rs)), some (.val ld), none, none, none, none] from rfl, d_pieces_by]
  simp! [idxF0, rangeO_nat hn, p_heads_by W hl h]
  generalize he : heads (lot.map (rdOf rs)) = f
  generalize hX : forX _ _ _ _ _ _ = X
  obtain ⟨ρ', s', rfl, o2, rfl, rfl⟩ := for_of hX natD (fun d ρ s => ∃ o2, ρ = [some (.val (encF n rs)), some (.val ld), o2, some (.val (tabL n f)), some (.own (((d.filter fun x => decide (f x = x)).map fun y => (List.range n).filter fun x => decide (f x = y)).map natsT)), none] ∧ s = none) (List.range n) rfl ⟨none, rfl, rfl⟩ (by
    clear hX
    rintro d a r ρ s hd ⟨o2, rfl, rfl⟩
    have ha : a < n := by rw [← List.mem_range, hd]; simp
    have hlen : ((d.filter fun x => decide (f x = x)).map fun y => (List.range n).filter fun x => decide (f x = y)).length + 1 ≤ 1000000 := by
      have h1 := List.length_filter_le (fun x => decide (f x = x)) d
      have h2 := congrArg List.length hd
      rw [List.length_range, List.length_append, List.length_cons] at h2
      have := W.n8
      rw [List.length_map]
      omega
    simp! [idx_tab ha, cmp_eq]
    rw [List.filter_append, List.filter_cons, List.filter_nil]
    by_cases h : f a = a
    · rw [sel_pos (by omega), if_pos (decide_eq_true h)]
      simp! [idxF0, rangeO_nat hn, Nat.le_trans W.n8]
      generalize hX : compL _ _ _ _ _ _ _ = X
      have := filt_of hX natD (fun x => decide (f x = a)) natD (List.range n) rfl (fun x hx => by
        simp! [idx_tab (List.mem_range.1 hx), cmp_eq, Int.ofNat_inj]) (fun x hx _ => by simp! [])
      subst this
      rw [List.length_map] at hlen
      simp! [Post_some, tuple_lst, hlen]
      simp only [List.map_append]
      exact ⟨.inl trivial, _, rfl, trivial⟩
    · rw [sel_neg (by omega), if_neg (by simpa using h), List.append_nil]
      simp! [Post_some]
      exact ⟨.inl trivial, _, rfl, trivial⟩)
  simp! [Post_some, tuple_lst]
  rw [piecesL, he]
theorem p_piece_count {n : Nat} {rs : List Rd} {lot : List Nat} {ld : D} (W : WF n rs) (hl : ∀ k ∈ lot, k < rs.length) (h : LotD lot ld) :
    F_piece_count [encF n rs, ld] = some (natD (pieces n (lot.map (rdOf rs)))) := by
  refine runF_of (by rfl) ?_
  rw [show startE d_piece_count [encF n rs, ld] = [some (.val (encF n rs)), some (.val ld)] from rfl, d_piece_count]
  simp! [p_pieces_by W hl h, len_tup, Post_some]
  rw [piecesL, List.length_map]; rfl
theorem p_frame_rank {n : Nat} {rs : List Rd} {lot : List Nat} {ld : D} (W : WF n rs) (hl : ∀ k ∈ lot, k < rs.length) (h : LotD lot ld) :
    F_frame_rank [encF n rs, ld] = some (.int ((n : Int) - (pieces n (lot.map (rdOf rs)) : Nat))) := by
  refine runF_of (by rfl) ?_
  rw [show startE d_frame_rank [encF n rs, ld] = [some (.val (encF n rs)), some (.val ld)] from rfl, d_frame_rank]
  simp! [p_piece_count W hl h, idxF0, Post_some]
/-- a simple ring, by ranks -/
def isRingP (n : Nat) (rs : List Rd) (lot : List Nat) : Prop :=
  pieces n (lot.map (rdOf rs)) + lot.length = n + 1 ∧ ∀ r ∈ lot, pieces n ((lot.filter fun x => !decide (x = r)).map (rdOf rs)) + lot.length = n + 1
instance (n : Nat) (rs : List Rd) (lot : List Nat) : Decidable (isRingP n rs lot) := by unfold isRingP; infer_instance
theorem p_is_simple_ring {n : Nat} {rs : List Rd} {lot : List Nat} (W : WF n rs) (hl : ∀ k ∈ lot, k < rs.length) (h14 : lot.length ≤ 100) :
    F_is_simple_ring [encF n rs, natsT lot] = some (.bl (decide (isRingP n rs lot))) := by
  refine runF_of (by rfl) ?_
  rw [show startE d_is_simple_ring [encF n rs, natsT lot] = [some (.val (encF n rs)), some (.val (natsT lot)), none, none] from rfl, d_is_simple_ring]
  simp! [p_frame_rank W hl (lot_tup lot), len_tup, cmp_ne]
  by_cases h : pieces n (lot.map (rdOf rs)) + lot.length = n + 1
  · rw [sel_npos (by omega)]
    simp! [Nat.le_trans h14]
    generalize hX : compL _ _ _ _ _ _ _ = X
    have := map_of hX natD (fun r => .bl (decide (pieces n ((lot.filter fun x => !decide (x = r)).map (rdOf rs)) + lot.length = n + 1))) lot rfl (fun r hr => by
      simp! [Nat.le_trans h14]
      generalize hX : compL _ _ _ _ _ _ _ = X
      have := filt_of hX natD (fun x => !decide (x = r)) natD lot rfl (fun x hx => by simp! [cmp_ne, Int.ofNat_inj]) (fun x hx _ => by simp! [])
      subst this
      simp! [p_frame_rank W (fun k hk => hl k (List.mem_filter.1 hk).1) (lot_lst (lot.filter fun x => !decide (x = r))), len_tup, cmp_eq]
      congr 3
      exact decide_eq_decide.2 (by omega))
    subst this
    simp! [Post_some, all_map]
    congr 2
    rw [Bool.eq_iff_iff, List.all_eq_true, decide_eq_true_iff]
    exact ⟨fun k => ⟨h, fun r hr => of_decide_eq_true (k r hr)⟩, fun k r hr => decide_eq_true (k.2 r hr)⟩
  · rw [sel_nneg (by omega)]
    simp! [Post_some]
    rw [decide_eq_false fun k => h k.1]
end K80

/-! ## K80d -/
set_option autoImplicit false
set_option linter.all false
set_option Elab.async false
set_option maxHeartbeats 2000000
namespace K80
open Mini Gr
/-- a lot of numbers below m: they rise -/
structure IsLot (m : Nat) (lot : List Nat) : Prop where
  up : lot.Pairwise (· < ·)
  lt : ∀ k ∈ lot, k < m
theorem range_up (m : Nat) : (List.range m).Pairwise (· < ·) := List.pairwise_lt_range
theorem lot_filter {m : Nat} (p : Nat → Bool) : IsLot m ((List.range m).filter p) := ⟨(range_up m).filter _, fun k hk => List.mem_range.1 (List.mem_filter.1 hk).1⟩
theorem lot_sub {m : Nat} {lot : List Nat} (h : IsLot m lot) (p : Nat → Bool) : IsLot m (lot.filter p) := ⟨h.up.filter _, fun k hk => h.lt k (List.mem_filter.1 hk).1⟩
theorem up_ext : ∀ {a b : List Nat}, a.Pairwise (· < ·) → b.Pairwise (· < ·) → (∀ x, x ∈ a ↔ x ∈ b) → a = b
  | [], [], _, _, _ => rfl
  | [], y :: b, _, _, h => absurd ((h y).2 (List.mem_cons_self ..)) List.not_mem_nil
  | x :: a, [], _, _, h => absurd ((h x).1 (List.mem_cons_self ..)) List.not_mem_nil
  | x :: a, y :: b, ha, hb, h => by
    obtain ⟨ha1, ha2⟩ := List.pairwise_cons.1 ha
    obtain ⟨hb1, hb2⟩ := List.pairwise_cons.1 hb
    have hx := (h x).1 (List.mem_cons_self ..)
    have hy := (h y).2 (List.mem_cons_self ..)
    have e : x = y := by
      rcases List.mem_cons.1 hx with h1 | h1
      · exact h1
      · rcases List.mem_cons.1 hy with h2 | h2
        · exact h2.symm
        · have := hb1 x h1; have := ha1 y h2; omega
    subst e
    rw [up_ext ha2 hb2 fun z => ?_]
    have := h z
    rw [List.mem_cons, List.mem_cons] at this
    constructor
    · intro hz
      rcases this.1 (.inr hz) with h1 | h1
      · subst h1; have := ha1 z hz; omega
      · exact h1
    · intro hz
      rcases this.2 (.inr hz) with h1 | h1
      · subst h1; have := hb1 z hz; omega
      · exact h1
theorem IsLot.eq {m : Nat} {lot : List Nat} (h : IsLot m lot) : (List.range m).filter (fun k => decide (k ∈ lot)) = lot :=
  up_ext ((range_up m).filter _) h.up fun x => by
    rw [List.mem_filter, List.mem_range, decide_eq_true_iff]
    exact ⟨fun k => k.2, fun k => ⟨h.lt x k, k⟩⟩
theorem IsLot.nd {m : Nat} {lot : List Nat} (h : IsLot m lot) : lot.Nodup := h.up.imp fun h => Nat.ne_of_lt h
theorem IsLot.len {m : Nat} {lot : List Nat} (h : IsLot m lot) : lot.length ≤ m := by
  have := List.length_filter_le (fun k => decide (k ∈ lot)) (List.range m)
  rwa [h.eq, List.length_range] at this
def markOf (lot : List Nat) (k : Nat) : Nat := if k ∈ lot then 1 else 0
abbrev rowT (m : Nat) (lot : List Nat) : D := .tup ((List.range m).map fun k => natD (markOf lot k))
theorem idx_row {m k : Nat} {lot : List Nat} (h : k < m) : idxD (rowT m lot) (natD k) = some (natD (markOf lot k)) := idx_tup (fun k => natD (markOf lot k)) (List.range m) k k (List.getElem?_range h)
theorem p_law_row {m : Nat} {lot : List Nat} (hm : m ≤ 100) : F_law_row [natD m, natsT lot] = some (rowT m lot) := by
  refine runF_of (by rfl) ?_
  have hn : m ≤ LIM := lim_n hm (by decide)
  rw [show startE d_law_row [natD m, natsT lot] = [some (.val (natD m)), some (.val (natsT lot)), none] from rfl, d_law_row]
  simp! [rangeO_nat hn, Nat.le_trans hm]
  generalize hX : compL _ _ _ _ _ _ _ = X
  have := map_of hX natD (fun k => natD (markOf lot k)) (List.range m) rfl (fun k hk => by
    simp! [in_T, int_bl]
    unfold markOf b2i
    by_cases h : k ∈ lot <;> simp [h])
  subst this
  simp! [Post_some, tuple_lst]
theorem enum_map {A : Type} (f : A → D) (xs : List A) : enumL (xs.map f) = xs.zipIdx.map fun p => .tup [natD p.2, f p.1] := by
  unfold enumL
  rw [List.zipIdx_map, List.map_map]; rfl
theorem zipIdx_range (m : Nat) : (List.range m).zipIdx = (List.range m).map fun k => (k, k) := by
  apply List.ext_getElem?
  intro i
  rw [List.getElem?_zipIdx, List.getElem?_map]
  by_cases h : i < m
  · rw [List.getElem?_range h]; simp
  · rw [List.getElem?_eq_none (by rw [List.length_range]; omega)]; rfl
theorem enum_range {m : Nat} (f : Nat → D) : enumL ((List.range m).map f) = (List.range m).map fun k => .tup [natD k, f k] := by
  rw [enum_map, zipIdx_range, List.map_map]; rfl
theorem p_lot_of_row {m : Nat} {lot : List Nat} (hm : m ≤ 100) (h : IsLot m lot) : F_lot_of_row [rowT m lot] = some (natsT lot) := by
  refine runF_of (by rfl) ?_
  rw [show startE d_lot_of_row [rowT m lot] = [some (.val (rowT m lot)), none, none] from rfl, d_lot_of_row]
  simp! [enum_range, Nat.le_trans hm]
  generalize hX : compL _ _ _ _ _ _ _ = X
  have := filt_of hX (fun k => .tup [natD k, natD (markOf lot k)]) (fun k => decide (k ∈ lot)) natD (List.range m) rfl (fun k hk => by
    simp! [cmp_eq]
    unfold markOf
    by_cases h : k ∈ lot <;> simp [h]) (fun k hk _ => by simp! [])
  subst this
  simp! [Post_some, tuple_lst, h.eq]
/-- the odd crossings -/
def oddL (n : Nat) (E : List Rd) : List Nat := (List.range n).filter fun c => decide ((ends E).count c % 2 = 1)
theorem count_cast (l : List Nat) (a : Nat) : (l.map fun (k : Nat) => (k : Int)).count (a : Int) = l.count a := by
  induction l with
  | nil => rfl
  | cons b l ih =>
    rw [List.map_cons, List.count_cons, List.count_cons, ih]
    by_cases h : b = a
    · subst h; simp
    · have h1 : ((b : Int) == (a : Int)) = false := decide_eq_false (by omega)
      have h2 : (b == a) = false := by simpa using h
      rw [h1, h2]
theorem count_nat (l : List Nat) (a : Nat) : f2D .count (natsL l) (natD a) = some (natD (l.count a)) := by
  show (intsOf (l.map natD)).map _ = _
  rw [ints_nat, Option.map_some, count_cast]
theorem rds_len {rs : List Rd} {lot : List Nat} : (ends (lot.map (rdOf rs))).length = 2 * lot.length := by rw [ends_len, List.length_map]
theorem ends_snoc {rs : List Rd} {d : List Nat} {a : Nat} : ends ((d ++ [a]).map (rdOf rs)) = ends (d.map (rdOf rs)) ++ [(rdOf rs a).1, (rdOf rs a).2] := by
  rw [List.map_append, ends_append]; rfl
theorem p_odd_crossings {n : Nat} {rs : List Rd} {lot : List Nat} (W : WF n rs) (h : IsLot rs.length lot) :
    F_odd_crossings [encF n rs, rowT rs.length lot] = some (natsT (oddL n (lot.map (rdOf rs)))) := by
  refine runF_of (by rfl) ?_
  have hn : n ≤ LIM := lim_n W.n8 (by decide)
  have hm : rs.length ≤ 100 := Nat.le_trans W.m14 (by decide)
  rw [show startE d_odd_crossings [encF n rs, rowT rs.length lot] = [some (.val (encF n rs)), some (.val (rowT rs.length lot)), none, none, none] from rfl, d_odd_crossings]
  simp! [p_lot_of_row hm h]
  generalize hX : forX _ _ _ _ _ _ = X
  obtain ⟨ρ', s', rfl, o3, rfl, rfl⟩ := for_of hX natD (fun d ρ s => ∃ o3, ρ = [some (.val (encF n rs)), some (.val (rowT rs.length lot)), some (.own ((ends (d.map (rdOf rs))).map natD)), o3, none] ∧ s = none) lot rfl ⟨none, rfl, rfl⟩ (by
    clear hX
    rintro d a r ρ s rfl ⟨o3, rfl, rfl⟩
    have ha := h.lt a (by simp)
    have hl := h.len
    rw [List.length_append, List.length_cons] at hl
    have h2 : (ends (d.map (rdOf rs))).length + 2 ≤ 1000000 := by rw [rds_len]; omega
    simp! [idxF1, idx_rd ha, items_rd, h2, Post_some]
    rw [ends_snoc, List.map_append]
    exact ⟨.inl trivial, _, rfl, trivial⟩)
  clear hX
  simp! [idxF0, rangeO_nat hn, Nat.le_trans W.n8]
  generalize hX : compL _ _ _ _ _ _ _ = X
  have := filt_of hX natD (fun c => decide ((ends (lot.map (rdOf rs))).count c % 2 = 1)) natD (List.range n) rfl (fun c hc => by
    simp! [count_nat, mod_int (show (0 : Int) < 2 by decide), cmp_eq]
    congr 2
    exact decide_eq_decide.2 (by omega)) (fun k hk _ => by simp! [])
  subst this
  simp! [Post_some, tuple_lst]
  rfl
theorem rpt_one (x : D) (n : Nat) : rpt n [x] = List.replicate n x := by
  unfold rpt
  induction n with
  | zero => rfl
  | succ n ih => rw [List.replicate_succ, List.flatten_cons, ih]; rfl
theorem mul_rep (x : D) {n : Nat} (h : n ≤ 1000) : binD .mul (.lst [x]) (natD n) = some (.lst ((List.range n).map fun _ => x)) := by
  have e : binD .mul (.lst [x]) (natD n) = if 0 ≤ (n : Int) ∧ (n : Int) < 2 ^ 20 ∧ [x].length * (n : Int).toNat ≤ LIM then some (.lst (rpt (n : Int).toNat [x])) else none := (rfl)
  have hn : (n : Int).toNat = n := by omega
  have hL : (2 : Int) ^ 20 = 1048576 := by decide
  have h3 : [x].length * n ≤ LIM := by
    rw [List.length_singleton, Nat.one_mul]; exact Nat.le_trans h (by decide)
  rw [e, hn, rpt_one, if_pos ⟨by omega, by rw [hL]; omega, h3⟩, List.map_const', List.length_range]
theorem set_tab {n x : Nat} {f : Nat → Nat} (h : x < n) (v : Nat) : (((List.range n).map fun y => natD (f y)).set x (natD v)) = (List.range n).map fun y => natD (if y = x then v else f y) := by
  apply List.ext_getElem?
  intro i
  rw [List.getElem?_set, List.getElem?_map]
  by_cases hi : x = i
  · subst hi
    rw [if_pos rfl, List.getElem?_map, List.getElem?_range h, if_pos (by simpa using h)]
    simp
  · rw [if_neg hi, List.getElem?_map]
    by_cases h2 : i < n
    · rw [List.getElem?_range h2]; simp [Ne.symm hi]
    · rw [List.getElem?_eq_none (by rw [List.length_range]; omega)]; rfl
theorem p_law_odd {n : Nat} {rs : List Rd} {lot : List Nat} {ld : D} (W : WF n rs) (hl : ∀ k ∈ lot, k < rs.length) (h : LotD lot ld) :
    F_law_odd [encF n rs, ld] = some (natsL (oddL n (lot.map (rdOf rs)))) := by
  refine runF_of (by rfl) ?_
  have hn : n ≤ LIM := lim_n W.n8 (by decide)
  rw [show startE d_law_odd [encF n rs, ld] = [some (.val (encF n rs)), some (.val ld), none, none, none] from rfl, d_law_odd]
  simp! [idxF0, mul_rep, Nat.le_trans W.n8, show itemsOf ld = some (lot.map natD) from h]
  generalize hX : forX _ _ _ _ _ _ = X
  obtain ⟨ρ', s', rfl, o3, o4, rfl, rfl⟩ := for_of hX natD (fun d ρ s => ∃ o3 o4, ρ = [some (.val (encF n rs)), some (.val ld), some (.own ((List.range n).map fun x => natD ((ends (d.map (rdOf rs))).count x))), o3, o4] ∧ s = none) lot rfl ⟨none, none, rfl, rfl⟩ (by
    clear hX
    rintro d a r ρ s rfl ⟨o3, o4, rfl, rfl⟩
    have ha := hl a (by simp)
    have hr := W.rd ha
    simp! [idxF1, idx_rd ha, items_rd]
    generalize hX : forX _ _ _ _ _ _ = X
    obtain ⟨ρ', s', rfl, o4, rfl, rfl⟩ := for_of hX natD (fun e ρ s => ∃ o4, ρ = [some (.val (encF n rs)), some (.val ld), some (.own ((List.range n).map fun x => natD ((ends (d.map (rdOf rs)) ++ e).count x))), some (.val (natD a)), o4] ∧ s = none) [(rdOf rs a).1, (rdOf rs a).2] rfl ⟨o4, by rw [List.append_nil], rfl⟩ (by
      clear hX
      rintro e x r ρ s he ⟨o4, rfl, rfl⟩
      have hx : x < n := by
        have : x ∈ [(rdOf rs a).1, (rdOf rs a).2] := by rw [he]; simp
        simp at this; omega
      simp! [idx_tab (f := fun x => (ends (d.map (rdOf rs)) ++ e).count x) hx, ixN_nat hx]
      have e : (((List.range n).map fun y => natD ((ends (d.map (rdOf rs)) ++ e).count y)).set x (.int (((ends (d.map (rdOf rs)) ++ e).count x : Nat) + 1 : Int))) = (List.range n).map fun y => natD ((ends (d.map (rdOf rs)) ++ (e ++ [x])).count y) := by
        rw [show (D.int (((ends (d.map (rdOf rs)) ++ e).count x : Nat) + 1 : Int)) = natD ((ends (d.map (rdOf rs)) ++ e).count x + 1) from rfl, set_tab (f := fun y => (ends (d.map (rdOf rs)) ++ e).count y) hx]
        refine List.map_congr_left fun y _ => congrArg natD ?_
        rw [← List.append_assoc, List.count_append (l₁ := ends (d.map (rdOf rs)) ++ e)]
        by_cases h : y = x
        · subst h; simp
        · have : (x == y) = false := by simpa using Ne.symm h
          rw [if_neg h, List.count_cons, this]; simp
      rw [e]
      simp! [Post_some]
      exact ⟨.inl trivial, _, rfl, trivial⟩)
    simp! [Post_some]
    rw [ends_snoc]
    exact ⟨.inl trivial, _, _, rfl, trivial⟩)
  clear hX
  simp! [idxF0, rangeO_nat hn, Nat.le_trans W.n8]
  generalize hX : compL _ _ _ _ _ _ _ = X
  have := filt_of hX natD (fun c => decide ((ends (lot.map (rdOf rs))).count c % 2 = 1)) natD (List.range n) rfl (fun c hc => by
    simp! [idx_tab (f := fun x => (ends (lot.map (rdOf rs))).count x) (List.mem_range.1 hc), int_int, mod_int (show (0 : Int) < 2 by decide), cmp_eq]
    congr 2
    exact decide_eq_decide.2 (by omega)) (fun k hk _ => by simp! [])
  subst this
  simp! [Post_some]
  rfl
end K80

/-! ## K80e -/
set_option autoImplicit false
set_option linter.all false
set_option Elab.async false
set_option maxHeartbeats 2000000
namespace K80
open Mini Gr
theorem asym_ext {A : Type} {R : A → A → Prop} (as : ∀ a b, R a b → R b a → False) : ∀ {a b : List A}, a.Pairwise R → b.Pairwise R → (∀ x, x ∈ a ↔ x ∈ b) → a = b
  | [], [], _, _, _ => rfl
  | [], y :: b, _, _, h => absurd ((h y).2 (List.mem_cons_self ..)) List.not_mem_nil
  | x :: a, [], _, _, h => absurd ((h x).1 (List.mem_cons_self ..)) List.not_mem_nil
  | x :: a, y :: b, ha, hb, h => by
    obtain ⟨ha1, ha2⟩ := List.pairwise_cons.1 ha
    obtain ⟨hb1, hb2⟩ := List.pairwise_cons.1 hb
    have hx := (h x).1 (List.mem_cons_self ..)
    have hy := (h y).2 (List.mem_cons_self ..)
    have e : x = y := by
      rcases List.mem_cons.1 hx with h1 | h1
      · exact h1
      · rcases List.mem_cons.1 hy with h2 | h2
        · exact h2.symm
        · exact (as _ _ (hb1 x h1) (ha1 y h2)).elim
    subst e
    rw [asym_ext as ha2 hb2 fun z => ?_]
    have := h z
    rw [List.mem_cons, List.mem_cons] at this
    constructor
    · intro hz
      rcases this.1 (.inr hz) with h1 | h1
      · subst h1; exact (as _ _ (ha1 z hz) (ha1 z hz)).elim
      · exact h1
    · intro hz
      rcases this.2 (.inr hz) with h1 | h1
      · subst h1; exact (as _ _ (hb1 z hz) (hb1 z hz)).elim
      · exact h1
abbrev castL (l : List Nat) : List Int := l.map fun (k : Nat) => (k : Int)
theorem castL_nd {l : List Nat} (h : l.Nodup) : (castL l).Nodup := by
  refine List.pairwise_map.2 (h.imp fun {a b} hab hc => hab ?_)
  exact Int.ofNat.inj hc
theorem sortI_nats {l : List Nat} {m : Nat} (nd : l.Nodup) (h : ∀ k ∈ l, k < m) : sortI (castL l) = castL ((List.range m).filter fun k => decide (k ∈ l)) := by
  unfold sortI
  have hp := List.mergeSort_perm (castL l) fun a b => decide (a ≤ b)
  have hs := List.pairwise_mergeSort (le := fun a b => decide (a ≤ b)) (fun a b c h1 h2 => by simp at h1 h2 ⊢; omega) (fun a b => by simp; omega) (castL l)
  have hn : ((castL l).mergeSort fun a b => decide (a ≤ b)).Nodup := (hp.nodup_iff).2 (castL_nd nd)
  refine asym_ext (R := fun (a b : Int) => a < b) (fun a b h1 h2 => by omega) ?_ ?_ ?_
  · exact (hs.and hn).imp fun {a b} ⟨h1, h2⟩ => by have := of_decide_eq_true h1; omega
  · exact List.pairwise_map.2 (((range_up m).filter _).imp fun h => by omega)
  · intro x
    rw [hp.mem_iff, List.mem_map, List.mem_map]
    constructor
    · rintro ⟨k, hk, rfl⟩; exact ⟨k, List.mem_filter.2 ⟨List.mem_range.2 (h k hk), decide_eq_true hk⟩, rfl⟩
    · rintro ⟨k, hk, rfl⟩; exact ⟨k, of_decide_eq_true (List.mem_filter.1 hk).2, rfl⟩
theorem sorted_nats {l : List Nat} {m : Nat} (nd : l.Nodup) (h : ∀ k ∈ l, k < m) (hm : l.length ≤ 1000000) : f1D .sorted (natsL l) = some (natsL ((List.range m).filter fun k => decide (k ∈ l))) := by
  show sortD false (.lst (l.map natD)) = _
  have e : sortD false (.lst (l.map natD)) = if (l.map natD).length ≤ LIM then match intsOf (l.map natD) with
      | some is => if false then none else some (intsD (sortI is))
      | none => match lotsD (l.map natD) with
        | some l => some (.lst ((if false then sortRT l else sortT l).map lotD))
        | none => none
    else none := (rfl)
  rw [e, if_pos (by rw [List.length_map]; exact hm), ints_nat]
  show some (intsD (sortI (castL l))) = _
  rw [sortI_nats nd h]
  unfold intsD
  rw [List.map_map]; rfl
theorem inr (a : Nat) (r : Rd) : cmpD .in_ (natD a) (encR r) = some (decide (a ∈ [r.1, r.2])) := in_T a [r.1, r.2]
theorem sum_rd (r : Rd) : f1D .sum (encR r) = some (.int ((r.1 : Int) + (r.2 : Int))) := by
  show some (D.int ([(r.1 : Int), (r.2 : Int)].sum)) = _
  rw [List.sum_cons, List.sum_cons, List.sum_nil, Int.add_zero]
theorem index_nat (a : Nat) (m1 m2 : List Nat) (h : a ∉ m1) : f2D .index (natsL (m1 ++ a :: m2)) (natD a) = some (natD m1.length) := by
  have e : f2D .index (natsL (m1 ++ a :: m2)) (natD a) = if (flat (natD a) && ((m1 ++ a :: m2).map natD).all flat) = true then (indexL (natD a) ((m1 ++ a :: m2).map natD)).map fun (k : Nat) => .int (k : Int) else none := (rfl)
  rw [e, flat_nats, if_pos (show (flat (natD a) && true) = true from rfl)]
  have k : indexL (natD a) ((m1 ++ a :: m2).map natD) = some m1.length := by
    clear e
    induction m1 with
    | nil =>
      show (match eqD (natD a) (natD a) with | some true => some 0 | some false => (indexL (natD a) (m2.map natD)).map (· + 1) | none => none) = _
      have : eqD (natD a) (natD a) = some true := by show some ((a : Int) == (a : Int)) = _; simp
      rw [this]; rfl
    | cons b m1 ih =>
      rw [List.mem_cons, not_or] at h
      show (match eqD (natD b) (natD a) with | some true => some 0 | some false => (indexL (natD a) ((m1 ++ a :: m2).map natD)).map (· + 1) | none => none) = _
      have : eqD (natD b) (natD a) = some false := by show some ((b : Int) == (a : Int)) = _; rw [show ((b : Int) == (a : Int)) = false from decide_eq_false (by omega)]
      rw [this, ih h.2]; rfl
  rw [k]; rfl
theorem slice_from {xs : List D} {k : Nat} (h : k ≤ xs.length) (hx : xs.length ≤ 1000000) : sliceD (.lst xs) (some (natD k)) none = some (.lst (xs.drop k)) := by
  rw [slice_lo (by omega), cut_from]
/-- the roads of a circuit: each crossing twice, all joined -/
structure Circ (E : List Rd) : Prop where
  two : ∀ x ∈ ends E, (ends E).count x = 2
  on : ∀ x ∈ ends E, ∀ y ∈ ends E, Cn E x y
theorem Circ.perm {E F : List Rd} (h : Circ E) (p : E.Perm F) : Circ F := by
  have q := ends_perm p
  refine ⟨fun x hx => by rw [← q.count_eq]; exact h.two x (q.mem_iff.2 hx), fun x hx y hy => ?_⟩
  exact (Cn.same (fun e => p.mem_iff) x y).1 (h.on x (q.mem_iff.2 hx) y (q.mem_iff.2 hy))
theorem nd_len {n : Nat} {l : List Nat} (nd : l.Nodup) (h : ∀ x ∈ l, x < n) : l.length ≤ n := by
  have p : l.Perm ((List.range n).filter fun x => decide (x ∈ l)) := by
    refine (List.perm_ext_iff_of_nodup nd (List.nodup_range.filter _)).2 fun x => ?_
    rw [List.mem_filter, List.mem_range, decide_eq_true_iff]
    exact ⟨fun k => ⟨h x k, k⟩, fun k => k.2⟩
  rw [p.length_eq]
  exact Nat.le_trans (List.length_filter_le _ _) (by rw [List.length_range]; exact Nat.le_refl _)
theorem p_some_ring {n : Nat} {rs : List Rd} {lot : List Nat} (W : WF n rs) (h : IsLot rs.length lot) (hne : lot ≠ []) (hev : ∀ x, (ends (lot.map (rdOf rs))).count x % 2 = 0) :
    ∃ R, F_some_ring [encF n rs, natsT lot] = some (natsT R) ∧ IsLot rs.length R ∧ (∀ r ∈ R, r ∈ lot) ∧ R ≠ [] ∧ Circ (R.map (rdOf rs)) := by
  obtain ⟨r0, lt, rfl⟩ : ∃ a l, lot = a :: l := by cases lot with | nil => exact absurd rfl hne | cons a l => exact ⟨a, l, rfl⟩
  have hr0 := h.lt r0 (List.mem_cons_self ..)
  have hn := W.n8
  have hm := W.m14
  generalize hlot : r0 :: lt = lot at *
  -- the walk
  have key : ∀ (ρ : Env) (s : S), (∃ (g m1 m2 : List Nat) (x : Nat) (o5 : Option Slot), ρ = [some (.val (encF n rs)), some (.val (natsT lot)), some (.val (natD x)), some (.own (g.map natD)), some (.own ((m1 ++ x :: m2).map natD)), o5, none] ∧ s = none ∧ Walk (rdOf rs) (rdOf rs r0).1 g (m1 ++ x :: m2) x ∧ g.Nodup ∧ (∀ r ∈ g, r ∈ lot) ∧ (m1 ++ x :: m2).Nodup) →
      ∃ R, Post (runL (fun ρ st s => stepS (ev [] [] 40) (ex [] [] 40 19) ρ st s) [.ret (some (.f1 .tuple (.f1 .sorted (.slice (.var 3) (some (.f2 .index (.var 4) (.var 2))) none))))] ρ s) (fun o _ _ => o = .rt (natsT R)) ∧ IsLot rs.length R ∧ (∀ r ∈ R, r ∈ lot) ∧ R ≠ [] ∧ Circ (R.map (rdOf rs)) := by
    rintro ρ s ⟨g, m1, m2, x, o5, rfl, rfl, w, gnd, gsub, mnd⟩
    obtain ⟨g1, g2, rfl, hl, h2, c1, c2⟩ := w.ring mnd
    have nd2 : g2.Nodup := (List.nodup_append.1 gnd).2.1
    have lt2 : ∀ r ∈ g2, r < rs.length := fun r hr => h.lt r (gsub r (List.mem_append_right _ hr))
    have hlen := nd_len gnd fun r hr => h.lt r (gsub r hr)
    refine ⟨(List.range rs.length).filter fun k => decide (k ∈ g2), ?_, lot_filter _, ?_, ?_, ?_⟩
    · have hx : x ∉ m1 := fun hx => by
        have := (List.nodup_append.1 mnd).2.2 x hx x (List.mem_cons_self ..)
        exact this rfl
      have e1 : sliceD (.lst ((g1 ++ g2).map natD)) (some (natD m1.length)) none = some (natsL g2) := by
        rw [slice_from (by rw [List.length_map, List.length_append]; omega) (by rw [List.length_map]; omega)]
        rw [← hl, List.map_append, List.drop_left' (by rw [List.length_map])]
      simp! [index_nat x m1 m2 hx, e1, sorted_nats nd2 lt2 (by rw [List.length_append] at hlen; omega), tuple_lst, Post_some]
    · intro r hr
      exact gsub r (List.mem_append_right _ (of_decide_eq_true (List.mem_filter.1 hr).2))
    · intro e
      obtain ⟨r, t, e2⟩ : ∃ r t, g2 = r :: t := by cases g2 with | nil => exact absurd rfl h2 | cons r t => exact ⟨r, t, rfl⟩
      have hr : r ∈ g2 := by rw [e2]; exact List.mem_cons_self ..
      have : r ∈ (List.range rs.length).filter fun k => decide (k ∈ g2) := List.mem_filter.2 ⟨List.mem_range.2 (lt2 r hr), decide_eq_true hr⟩
      rw [e] at this
      cases this
    · refine Circ.perm ⟨c1, c2⟩ (List.Perm.map _ ?_)
      refine (List.perm_ext_iff_of_nodup nd2 (List.nodup_range.filter _)).2 fun x => ?_
      rw [List.mem_filter, List.mem_range, decide_eq_true_iff]
      exact ⟨fun k => ⟨lt2 x k, k⟩, fun k => k.2⟩
  suffices hw : ∃ R, Post (ex [] [] 40 20 (startE d_some_ring [encF n rs, natsT lot]) d_some_ring.body none) (fun o _ _ => o = .rt (natsT R)) ∧ IsLot rs.length R ∧ (∀ r ∈ R, r ∈ lot) ∧ R ≠ [] ∧ Circ (R.map (rdOf rs)) by
    obtain ⟨R, h1, h2⟩ := hw
    exact ⟨R, runF_of (by rfl) h1, h2⟩
  rw [show startE d_some_ring [encF n rs, natsT lot] = [some (.val (encF n rs)), some (.val (natsT lot)), none, none, none, none, none] from rfl, d_some_ring]
  have h0 : idxD (natsT lot) (.int 0) = some (natD r0) := by rw [← hlot]; exact idx_t0
  simp! [idxF1, h0, idx_rd hr0, show idxD (encR (rdOf rs r0)) (.int 0) = some (natD (rdOf rs r0).1) from rfl]
  generalize hX : whileX _ _ _ _ _ _ _ = X
  have hr := W.rd hr0
  obtain ⟨ρ', s', rfl, hq⟩ := while_of hX (fun k ρ s => ∃ (g m : List Nat) (x : Nat) (o5 : Option Slot), ρ = [some (.val (encF n rs)), some (.val (natsT lot)), some (.val (natD x)), some (.own (g.map natD)), some (.own (m.map natD)), o5, none] ∧ s = none ∧ Walk (rdOf rs) (rdOf rs r0).1 g m x ∧ g.Nodup ∧ (∀ r ∈ g, r ∈ lot) ∧ m.Nodup ∧ (∀ z ∈ m, z < n) ∧ x < n ∧ k = n - m.length)
    (fun ρ s => ∃ (g m1 m2 : List Nat) (x : Nat) (o5 : Option Slot), ρ = [some (.val (encF n rs)), some (.val (natsT lot)), some (.val (natD x)), some (.own (g.map natD)), some (.own ((m1 ++ x :: m2).map natD)), o5, none] ∧ s = none ∧ Walk (rdOf rs) (rdOf rs r0).1 g (m1 ++ x :: m2) x ∧ g.Nodup ∧ (∀ r ∈ g, r ∈ lot) ∧ (m1 ++ x :: m2).Nodup)
    n (by omega) ⟨[], [], _, none, rfl, rfl, .nil, List.nodup_nil, (fun _ h => nomatch h), List.nodup_nil, (fun _ h => nomatch h), hr.1, rfl⟩ (by
      clear hX
      rintro k ρ s ⟨g, m, x, o5, rfl, rfl, w, gnd, gsub, mnd, mlt, hx, rfl⟩
      refine ⟨!decide (x ∈ m), none, ?_, ?_, ?_⟩
      · unfold testX
        simp! [notin_L]
      · intro ht
        have hxm : x ∉ m := by simpa using ht
        have hm2 : (m ++ [x]).Nodup := List.nodup_append.2 ⟨mnd, List.pairwise_singleton _ _, fun a ha b hb => by rw [List.mem_singleton] at hb; rintro rfl; exact hxm (hb ▸ ha)⟩
        have hm3 : ∀ z ∈ m ++ [x], z < n := fun z hz => by
          rcases List.mem_append.1 hz with h | h
          · exact mlt z h
          · rw [List.mem_singleton] at h; omega
        have hm4 := nd_len hm2 hm3
        rw [List.length_append, List.length_singleton] at hm4
        have hmore : ∃ r ∈ lot, r ∉ g ∧ ((rdOf rs r).1 = x ∨ (rdOf rs r).2 = x) := by
          by_cases hm0 : m = []
          · subst hm0
            have hg : g = [] := List.length_eq_zero_iff.1 w.len
            have := w.head
            simp at this
            exact ⟨r0, by rw [← hlot]; exact List.mem_cons_self .., by rw [hg]; exact List.not_mem_nil, .inl this.symm⟩
          · exact w.more hxm hm0 h.nd gnd gsub (hev x)
        have hcomp : ∃ r t, lot.filter (fun a => !decide (a ∈ g) && decide (x ∈ [(rdOf rs a).1, (rdOf rs a).2])) = r :: t ∧ r ∈ lot ∧ r ∉ g ∧ ((rdOf rs r).1 = x ∨ (rdOf rs r).2 = x) := by
          cases hf : lot.filter (fun a => !decide (a ∈ g) && decide (x ∈ [(rdOf rs a).1, (rdOf rs a).2])) with
          | nil =>
            obtain ⟨r, h1, h2, h3⟩ := hmore
            have : r ∈ lot.filter (fun a => !decide (a ∈ g) && decide (x ∈ [(rdOf rs a).1, (rdOf rs a).2])) := List.mem_filter.2 ⟨h1, by simp [h2]; omega⟩
            rw [hf] at this
            cases this
          | cons r t =>
            have : r ∈ lot.filter (fun a => !decide (a ∈ g) && decide (x ∈ [(rdOf rs a).1, (rdOf rs a).2])) := by rw [hf]; exact List.mem_cons_self ..
            obtain ⟨h1, h2⟩ := List.mem_filter.1 this
            simp at h2
            exact ⟨r, t, rfl, h1, h2.1, by omega⟩
        obtain ⟨r, t, hf, hr1, hr2, hr3⟩ := hcomp
        have hrm := h.lt r hr1
        have hrd := W.rd hrm
        have hlen := h.len
        have hglen := nd_len gnd fun r hr => h.lt r (gsub r hr)
        simp! [lim_le, show m.length + 1 ≤ 1000000 by omega, show lot.length ≤ 1000000 by omega]
        generalize hX : compL _ _ _ _ _ _ _ = X
        have := filt_of hX natD (fun a => !decide (a ∈ g) && decide (x ∈ [(rdOf rs a).1, (rdOf rs a).2])) natD lot rfl (fun a ha => by
          have ha := h.lt a ha
          simp! [notin_L]
          rw [selB (c := decide (x ∈ [(rdOf rs a).1, (rdOf rs a).2])) fun h => by simp! [idxF1, idx_rd ha, inr]]
          simp! []) (fun a ha _ => by simp! [])
        subst this
        clear hX
        rw [hf]
        simp! [idx_l0, show g.length + 1 ≤ 1000000 by omega, idxF1, idx_rd hrm, sum_rd, Post_some]
        refine ⟨.inl trivial, _, ?_, g ++ [r], m ++ [x], (rdOf rs r).1 + (rdOf rs r).2 - x, some (.val (natD r)), ?_, trivial, .snoc w ?_, ?_, ?_, hm2, hm3, by omega, rfl⟩
        · rw [List.length_append, List.length_singleton]; omega
        · rw [List.map_append, List.map_append]
          have : ((rdOf rs r).1 : Int) + (rdOf rs r).2 - x = (((rdOf rs r).1 + (rdOf rs r).2 - x : Nat) : Int) := by omega
          rw [this]
          rfl
        · rcases hr3 with h3 | h3
          · exact .inl (Prod.ext h3 (by show (rdOf rs r).2 = _; omega))
          · exact .inr (Prod.ext (by show (rdOf rs r).1 = _; omega) h3)
        · exact List.nodup_append.2 ⟨gnd, List.pairwise_singleton _ _, fun a ha b hb => by rw [List.mem_singleton] at hb; rintro rfl; exact hr2 (hb ▸ ha)⟩
        · intro a ha
          rcases List.mem_append.1 ha with h | h
          · exact gsub a h
          · rw [List.mem_singleton] at h; rw [h]; exact hr1
      · intro ht
        have hxm : x ∈ m := by simpa using ht
        obtain ⟨m1, m2, rfl⟩ := List.append_of_mem hxm
        exact ⟨g, m1, m2, x, o5, rfl, rfl, w, gnd, gsub, mnd⟩)
  obtain ⟨R, h1, h2⟩ := key ρ' s' hq
  refine ⟨R, ?_, h2⟩
  rw [seqR_nx]
  exact h1
end K80

/-! ## K80f -/
set_option autoImplicit false
set_option linter.all false
set_option Elab.async false
set_option maxHeartbeats 2000000
namespace K80
open Mini Gr
/-! order of lots -/
theorem lex_irrefl : ∀ a : List Int, lexLt a a = false
  | [] => rfl
  | x :: a => by rw [lexLt, if_pos rfl, lex_irrefl a]
theorem lex_trans : ∀ a b c : List Int, lexLt a b = true → lexLt b c = true → lexLt a c = true
  | [], [], _, h, _ => nomatch h
  | [], _ :: _, [], _, h => nomatch h
  | [], _ :: _, _ :: _, _, _ => rfl
  | _ :: _, [], _, h, _ => nomatch h
  | _ :: _, _ :: _, [], _, h => nomatch h
  | x :: a, y :: b, z :: c, h1, h2 => by
    rw [lexLt] at h1 h2 ⊢
    split at h1
    · subst_vars
      split at h2
      · subst_vars; rw [if_pos rfl]; exact lex_trans a b c h1 h2
      · rw [if_neg (by assumption)]; exact h2
    · split at h2
      · subst_vars; rw [if_neg (by assumption)]; exact h1
      · have := of_decide_eq_true h1
        have := of_decide_eq_true h2
        rw [if_neg (by omega)]
        exact decide_eq_true (by omega)
theorem lex_tri : ∀ a b : List Int, lexLt a b = true ∨ a = b ∨ lexLt b a = true
  | [], [] => .inr (.inl rfl)
  | [], _ :: _ => .inl rfl
  | _ :: _, [] => .inr (.inr rfl)
  | x :: a, y :: b => by
    rw [lexLt, lexLt]
    by_cases h : x = y
    · subst h
      rw [if_pos rfl, if_pos rfl]
      rcases lex_tri a b with h | h | h
      · exact .inl h
      · exact .inr (.inl (by rw [h]))
      · exact .inr (.inr h)
    · rw [if_neg h, if_neg (Ne.symm h)]
      by_cases h2 : x < y
      · exact .inl (decide_eq_true h2)
      · exact .inr (.inr (decide_eq_true (by omega)))
theorem lex_asym {a b : List Int} (h : lexLt a b = true) : lexLt b a = false := by
  cases k : lexLt b a with
  | false => rfl
  | true => have := lex_trans a b a h k; rw [lex_irrefl] at this; cases this
theorem lex_ntrans (a b c : List Int) (h1 : (!lexLt b a) = true) (h2 : (!lexLt c b) = true) : (!lexLt c a) = true := by
  rw [Bool.not_eq_true'] at h1 h2 ⊢
  cases k : lexLt c a with
  | false => rfl
  | true =>
    rcases lex_tri a b with h | h | h
    · have := lex_trans c a b k h; rw [h2] at this; cases this
    · subst h; rw [h2] at k; cases k
    · rw [h1] at h; cases h
/-- lots, sorted -/
theorem sortT_lots (l : List (List Nat)) (hne : l.Nodup) : ∃ r : List (List Nat), r.Perm l ∧ sortT (l.map castL) = r.map castL ∧ r.Pairwise (fun a b => lexLt (castL a) (castL b) = true) := by
  have inv : ∀ a : List Nat, (castL a).map Int.toNat = a := fun a => by
    rw [List.map_map]
    conv => rhs; rw [← List.map_id a]
    exact List.map_congr_left fun k _ => Int.toNat_natCast k
  have hp : (sortT (l.map castL)).Perm (l.map castL) := List.mergeSort_perm _ _
  have hs : (sortT (l.map castL)).Pairwise (fun a b => (!lexLt b a) = true) := List.pairwise_mergeSort lex_ntrans (fun a b => by
    rcases lex_tri a b with h | h | h
    · rw [lex_asym h]; rfl
    · subst h; rw [lex_irrefl]; rfl
    · rw [lex_asym h]; simp) _
  have e : (sortT (l.map castL)) = ((sortT (l.map castL)).map (List.map Int.toNat)).map castL := by
    rw [List.map_map]
    conv => lhs; rw [← List.map_id (sortT (l.map castL))]
    refine List.map_congr_left fun x hx => ?_
    obtain ⟨a, _, rfl⟩ := List.mem_map.1 (hp.mem_iff.1 hx)
    show castL a = castL ((castL a).map Int.toNat)
    rw [inv]
  have hq : ((sortT (l.map castL)).map (List.map Int.toNat)).Perm l := by
    have := hp.map (List.map Int.toNat)
    rw [List.map_map] at this
    refine this.trans (List.Perm.of_eq ?_)
    conv => rhs; rw [← List.map_id l]
    exact List.map_congr_left fun a _ => inv a
  refine ⟨_, hq, e, ?_⟩
  have nd := hq.nodup_iff.2 hne
  rw [e] at hs
  rw [List.pairwise_map] at hs
  refine (hs.and nd).imp fun {a b} ⟨h1, h2⟩ => ?_
  rw [Bool.not_eq_true'] at h1
  rcases lex_tri (castL a) (castL b) with h | h | h
  · exact h
  · exact absurd (by have := congrArg (List.map Int.toNat) h; rwa [inv, inv] at this) h2
  · rw [h1] at h; cases h
theorem lots_nat : ∀ l : List (List Nat), (∀ a ∈ l, a ≠ []) → lotsD (l.map natsT) = some (l.map castL)
  | [], _ => rfl
  | a :: l, h => by
    have ih := lots_nat l fun b hb => h b (List.mem_cons_of_mem _ hb)
    have ha := h a (List.mem_cons_self ..)
    have e : lotsD (natsT a :: l.map natsT) = match intsOf (a.map natD), lotsD (l.map natsT) with
      | some is, some l => if is = [] then none else some (is :: l)
      | _, _ => none := (rfl)
    rw [List.map_cons, e, ints_nat, ih]
    show (if castL a = [] then none else some (castL a :: l.map castL)) = _
    rw [if_neg fun k => ha (List.map_eq_nil_iff.1 k)]; rfl
theorem sorted_lots (l : List (List Nat)) (h : ∀ a ∈ l, a ≠ []) (nd : l.Nodup) (hl : l.length ≤ 1000000) :
    ∃ r : List (List Nat), r.Perm l ∧ f1D .sorted (.lst (l.map natsT)) = some (.lst (r.map natsT)) ∧ r.Pairwise (fun a b => lexLt (castL a) (castL b) = true) := by
  have e : f1D .sorted (.lst (l.map natsT)) = if (l.map natsT).length ≤ LIM then match intsOf (l.map natsT) with
      | some is => if false then none else some (intsD (sortI is))
      | none => match lotsD (l.map natsT) with
        | some l => some (.lst ((if false then sortRT l else sortT l).map lotD))
        | none => none
    else none := (rfl)
  rw [e, if_pos (by rw [List.length_map]; exact hl), lots_nat l h]
  cases l with
  | nil =>
    refine ⟨[], .refl _, ?_, .nil⟩
    show some (intsD (sortI [])) = _
    unfold sortI
    rw [List.mergeSort_nil]; rfl
  | cons a l =>
    obtain ⟨r, h1, h2, h3⟩ := sortT_lots (a :: l) nd
    refine ⟨r, h1, ?_, h3⟩
    show some (D.lst ((sortT ((a :: l).map castL)).map lotD)) = _
    rw [h2, List.map_map]
    congr 2
    refine List.map_congr_left fun b _ => ?_
    show D.tup ((castL b).map .int) = D.tup (b.map natD)
    rw [List.map_map]; rfl
/-- an even lot falls into rings -/
structure Rings (n : Nat) (rs : List Rd) (lot : List Nat) (rg : List (List Nat)) : Prop where
  ring : ∀ R ∈ rg, IsLot rs.length R ∧ R ≠ [] ∧ Circ (R.map (rdOf rs))
  each : ∀ k, k < rs.length → (rg.filter fun R => decide (k ∈ R)).length = markOf lot k
theorem Rings.nd {n : Nat} {rs : List Rd} {lot : List Nat} {rg : List (List Nat)} (h : Rings n rs lot rg) : rg.Nodup := by
  refine List.pairwise_iff_getElem.2 fun i j hi hj hij e => ?_
  obtain ⟨hl, hne, _⟩ := h.ring _ (List.getElem_mem hi)
  obtain ⟨k, hk⟩ := List.exists_mem_of_ne_nil _ hne
  have h1 := h.each k (hl.lt k hk)
  have h2 : markOf lot k ≤ 1 := by unfold markOf; split <;> omega
  have h3 : rg = rg.take j ++ rg[j] :: rg.drop (j + 1) := by rw [List.getElem_cons_drop, List.take_append_drop]
  have h4 : rg[i] ∈ rg.take j := List.mem_take_iff_getElem.2 ⟨i, by omega, rfl⟩
  have h5 : rg[i] ∈ (rg.take j).filter fun R => decide (k ∈ R) := List.mem_filter.2 ⟨h4, decide_eq_true hk⟩
  have h6 := List.length_pos_of_mem h5
  rw [h3, List.filter_append, List.filter_cons_of_pos (by rw [← e]; exact decide_eq_true hk), List.length_append, List.length_cons] at h1
  omega
theorem Rings.len {n : Nat} {rs : List Rd} {lot : List Nat} {rg : List (List Nat)} (h : Rings n rs lot rg) : rg.length ≤ rs.length := by
  have key : ∀ (rg : List (List Nat)), (∀ R ∈ rg, R ≠ [] ∧ ∀ k ∈ R, k < rs.length) → rg.length ≤ ((List.range rs.length).map fun k => (rg.filter fun R => decide (k ∈ R)).length).sum := by
    intro rg hr
    induction rg with
    | nil => exact Nat.zero_le _
    | cons R rg ih =>
      have ih := ih fun R hR => hr R (List.mem_cons_of_mem _ hR)
      obtain ⟨h1, h2⟩ := hr R (List.mem_cons_self ..)
      obtain ⟨k, hk⟩ := List.exists_mem_of_ne_nil _ h1
      have e : ∀ l : List Nat, (l.map fun k => ((R :: rg).filter fun R => decide (k ∈ R)).length).sum = (l.map fun k => (rg.filter fun R => decide (k ∈ R)).length).sum + (l.filter fun k => decide (k ∈ R)).length := by
        intro l
        induction l with
        | nil => rfl
        | cons a l il =>
          rw [List.map_cons, List.sum_cons, il, List.map_cons, List.sum_cons, List.filter_cons, List.filter_cons]
          by_cases ha : a ∈ R
          · simp [ha]; omega
          · simp [ha]; omega
      have h3 : k ∈ (List.range rs.length).filter fun k => decide (k ∈ R) := List.mem_filter.2 ⟨List.mem_range.2 (h2 k hk), decide_eq_true hk⟩
      have := List.length_pos_of_mem h3
      rw [e, List.length_cons]
      omega
  refine Nat.le_trans (key rg fun R hR => ⟨(h.ring R hR).2.1, (h.ring R hR).1.lt⟩) ?_
  have : ∀ l : List Nat, (∀ k ∈ l, k < rs.length) → (l.map fun k => (rg.filter fun R => decide (k ∈ R)).length).sum ≤ l.length := by
    intro l hl
    induction l with
    | nil => exact Nat.le_refl _
    | cons a l il =>
      have h1 := h.each a (hl a (List.mem_cons_self ..))
      have h2 : markOf lot a ≤ 1 := by unfold markOf; split <;> omega
      rw [List.map_cons, List.sum_cons, List.length_cons]
      have := il fun k hk => hl k (List.mem_cons_of_mem _ hk)
      omega
  have h2 := this (List.range rs.length) fun k hk => List.mem_range.1 hk
  rwa [List.length_range] at h2
theorem Rings.perm {n : Nat} {rs : List Rd} {lot : List Nat} {rg rh : List (List Nat)} (h : Rings n rs lot rg) (p : rh.Perm rg) : Rings n rs lot rh :=
  ⟨fun R hR => h.ring R (p.mem_iff.1 hR), fun k hk => by rw [(p.filter _).length_eq]; exact h.each k hk⟩
theorem p_simple_rings_of {n : Nat} {rs : List Rd} {lot : List Nat} (W : WF n rs) (h : IsLot rs.length lot) (hev : ∀ x, (ends (lot.map (rdOf rs))).count x % 2 = 0) :
    ∃ rg, F_simple_rings_of [encF n rs, natsT lot] = some (.tup (rg.map natsT)) ∧ Rings n rs lot rg ∧ rg.Pairwise (fun a b => lexLt (castL a) (castL b) = true) := by
  have hm := W.m14
  suffices hw : ∃ rg, Post (ex [F_some_ring] [] 40 20 (startE d_simple_rings_of [encF n rs, natsT lot]) d_simple_rings_of.body none) (fun o _ _ => o = .rt (.tup (rg.map natsT))) ∧ Rings n rs lot rg ∧ rg.Pairwise (fun a b => lexLt (castL a) (castL b) = true) by
    obtain ⟨R, h1, h2⟩ := hw
    exact ⟨R, runF_of (by rfl) h1, h2⟩
  rw [show startE d_simple_rings_of [encF n rs, natsT lot] = [some (.val (encF n rs)), some (.val (natsT lot)), none, none, none, none] from rfl, d_simple_rings_of]
  simp! []
  generalize hX : whileX _ _ _ _ _ _ _ = X
  have hlen := h.len
  -- found, left
  obtain ⟨ρ', s', rfl, f, o4, o5, rfl, rfl, hr⟩ := while_of hX (fun k ρ s => ∃ (f : List (List Nat)) (left : List Nat) (o4 o5 : Option Slot), ρ = [some (.val (encF n rs)), some (.val (natsT lot)), some (.own (f.map natsT)), some (.val (natsT left)), o4, o5] ∧ s = none ∧ k = left.length ∧ IsLot rs.length left ∧ (∀ x, (ends (left.map (rdOf rs))).count x % 2 = 0) ∧ (∀ R ∈ f, IsLot rs.length R ∧ R ≠ [] ∧ Circ (R.map (rdOf rs))) ∧ f.length + left.length ≤ lot.length ∧ ∀ k, k < rs.length → (f.filter fun R => decide (k ∈ R)).length + markOf left k = markOf lot k)
    (fun ρ s => ∃ (f : List (List Nat)) (o4 o5 : Option Slot), ρ = [some (.val (encF n rs)), some (.val (natsT lot)), some (.own (f.map natsT)), some (.val (natsT [])), o4, o5] ∧ s = none ∧ Rings n rs lot f)
    lot.length (by omega) ⟨[], lot, none, none, rfl, rfl, rfl, h, hev, (fun _ h => nomatch h), by simp, fun k _ => by simp⟩ (by
      clear hX
      rintro k ρ s ⟨f, left, o4, o5, rfl, rfl, rfl, hl, he, hf, hfl, hc⟩
      refine ⟨!left.isEmpty, none, ?_, ?_, ?_⟩
      · unfold testX
        simp! [cmp_ne_nilT, List.isEmpty_map]
      · intro ht
        have hne : left ≠ [] := by rintro rfl; cases ht
        obtain ⟨R, e1, e2, e3, e4, e5⟩ := p_some_ring W hl hne he
        have hll := hl.len
        simp! [e1, show f.length + 1 ≤ 1000000 by omega, show left.length ≤ 1000000 by omega]
        generalize hX : compL _ _ _ _ _ _ _ = X
        have := filt_of hX natD (fun x => !decide (x ∈ R)) natD left rfl (fun x hx => by simp! [notin_T]) (fun x hx _ => by simp! [])
        subst this
        clear hX
        simp! [tuple_lst, Post_some]
        obtain ⟨r, hr⟩ := List.exists_mem_of_ne_nil R e4
        have hlt : (left.filter fun x => !decide (x ∈ R)).length < left.length := by
          have h1 := count_split (fun _ => true) (fun x => decide (x ∈ R)) left
          rw [List.filter_eq_self.2 (fun _ _ => rfl)] at h1
          simp only [Bool.true_and] at h1
          have h2 : r ∈ left.filter fun x => decide (x ∈ R) := List.mem_filter.2 ⟨e3 r hr, decide_eq_true hr⟩
          have := List.length_pos_of_mem h2
          omega
        refine ⟨.inl trivial, _, hlt, f ++ [R], left.filter fun x => !decide (x ∈ R), some (.val (natsT R)), o5, ?_, trivial, rfl, lot_sub hl _, ?_, ?_, ?_, ?_⟩
        · rw [List.map_append]; rfl
        · intro x
          refine even_less hl.nd e2.nd e3 x (he x) ?_
          by_cases hx : x ∈ ends (R.map (rdOf rs))
          · rw [e5.two x hx]
          · rw [List.count_eq_zero.2 hx]
        · intro S hS
          rcases List.mem_append.1 hS with h | h
          · exact hf S h
          · rw [List.mem_singleton] at h; subst h; exact ⟨e2, e4, e5⟩
        · rw [List.length_append, List.length_singleton]; omega
        · intro k hk
          have h1 := hc k hk
          rw [List.filter_append, List.length_append, List.filter_cons, List.filter_nil]
          unfold markOf at h1 ⊢
          by_cases hkR : k ∈ R
          · have hkl := e3 k hkR
            rw [if_pos hkl] at h1
            rw [if_pos (decide_eq_true hkR), List.length_singleton, if_neg (by simp [hkR])]
            omega
          · rw [if_neg (by simpa using hkR), List.length_nil]
            by_cases hkl : k ∈ left
            · rw [if_pos hkl] at h1
              rw [if_pos (by simp [hkR, hkl])]; omega
            · rw [if_neg hkl] at h1
              rw [if_neg (by simp [hkl])]; omega
      · intro ht
        have : left = [] := by cases left with | nil => rfl | cons a l => cases ht
        subst this
        exact ⟨f, o4, o5, rfl, rfl, hf, fun k hk => by have := hc k hk; simpa [markOf] using this⟩)
  have hl2 := hr.len
  obtain ⟨r, h1, h2, h3⟩ := sorted_lots f (fun a ha => (hr.ring a ha).2.1) hr.nd (by omega)
  refine ⟨r, ?_, hr.perm h1, h3⟩
  simp! [h2, tuple_lst, Post_some]
theorem p_ring_paper {n : Nat} {rs : List Rd} {lot : List Nat} (W : WF n rs) (h : IsLot rs.length lot) :
    (∃ c t, oddL n (lot.map (rdOf rs)) = c :: t ∧ F_ring_paper [encF n rs, rowT rs.length lot] = some (.tup [.str "odd", natD c])) ∨
    (oddL n (lot.map (rdOf rs)) = [] ∧ ∃ rg, F_simple_rings_of [encF n rs, natsT lot] = some (.tup (rg.map natsT)) ∧ F_ring_paper [encF n rs, rowT rs.length lot] = some (.tup [.str "rings", .tup (rg.map natsT)]) ∧ Rings n rs lot rg ∧ rg.Pairwise (fun a b => lexLt (castL a) (castL b) = true)) := by
  have hm : rs.length ≤ 100 := Nat.le_trans W.m14 (by decide)
  cases ho : oddL n (lot.map (rdOf rs)) with
  | cons c t =>
    refine .inl ⟨c, t, rfl, runF_of (by rfl) ?_⟩
    rw [show startE d_ring_paper [encF n rs, rowT rs.length lot] = [some (.val (encF n rs)), some (.val (rowT rs.length lot)), none] from rfl, d_ring_paper]
    simp! [p_odd_crossings W h, cmp_ne_nilT, ho, List.isEmpty_cons, show idxD (natsT (c :: t)) (.int 0) = some (natD c) from idx_t0, Post_some]
  | nil =>
    have hev : ∀ x, (ends (lot.map (rdOf rs))).count x % 2 = 0 := by
      intro x
      by_cases hx : x < n
      · have : x ∉ oddL n (lot.map (rdOf rs)) := by rw [ho]; exact List.not_mem_nil
        unfold oddL at this
        rw [List.mem_filter, List.mem_range, decide_eq_true_iff] at this
        omega
      · rw [List.count_eq_zero.2]
        intro k
        obtain ⟨e, he, hex⟩ := mem_ends.1 k
        obtain ⟨r, hr, rfl⟩ := List.mem_map.1 he
        have := W.rd (h.lt r hr)
        omega
    obtain ⟨rg, h1, h2, h3⟩ := p_simple_rings_of W h hev
    refine .inr ⟨rfl, rg, h1, runF_of (by rfl) ?_, h2, h3⟩
    rw [show startE d_ring_paper [encF n rs, rowT rs.length lot] = [some (.val (encF n rs)), some (.val (rowT rs.length lot)), none] from rfl, d_ring_paper]
    simp! [p_odd_crossings W h, cmp_ne_nilT, ho, List.isEmpty_nil, idx_t0, p_lot_of_row hm h, h1, Post_some]
end K80

/-! ## K80g -/
set_option autoImplicit false
set_option linter.all false
set_option Elab.async false
set_option maxHeartbeats 2000000
namespace K80
open Mini Gr
theorem remove_nat {l : List Nat} {a : Nat} (h : a ∈ l) : removeL (natD a) (l.map natD) = some ((l.erase a).map natD) := by
  induction l with
  | nil => cases h
  | cons b l ih =>
    have e : removeL (natD a) (natD b :: l.map natD) = match eqD (natD b) (natD a) with
      | some true => some (l.map natD)
      | some false => (removeL (natD a) (l.map natD)).map (natD b :: ·)
      | none => none := (rfl)
    have e2 : eqD (natD b) (natD a) = some ((b : Int) == (a : Int)) := (rfl)
    rw [List.map_cons, e, e2]
    by_cases hb : b = a
    · subst hb
      rw [List.erase_cons_head]
      simp
    · rw [List.erase_cons_tail (by simpa using hb), show ((b : Int) == (a : Int)) = false from decide_eq_false (by omega)]
      have : a ∈ l := by
        rcases List.mem_cons.1 h with h | h
        · exact absurd h.symm hb
        · exact h
      rw [ih this]; rfl
def otherEnd (r : Rd) (x : Nat) : Nat := if r.1 = x then r.2 else r.1
theorem p_law_pieces {n : Nat} {rs : List Rd} {lot : List Nat} (W : WF n rs) (h : IsLot rs.length lot) :
    F_law_pieces [encF n rs, natsT lot] = some (.lst ((piecesL n (lot.map (rdOf rs))).map natsL)) := by
  refine runF_of (by rfl) ?_
  have hn : n ≤ LIM := lim_n W.n8 (by decide)
  have hn8 := W.n8
  have hm := W.m14
  have hlen := h.len
  rw [show startE d_law_pieces [encF n rs, natsT lot] = [some (.val (encF n rs)), some (.val (natsT lot)), none, none, none, none, none, none, none, none, none] from rfl, d_law_pieces]
  simp! [idxF0, rngF_nat hn]
  generalize hE : lot.map (rdOf rs) = E
  have hlt : ∀ x ∈ ends E, x < n := fun x hx => by
    obtain ⟨e, he, hex⟩ := mem_ends.1 hx
    rw [← hE] at he
    obtain ⟨r, hr, rfl⟩ := List.mem_map.1 he
    have := W.rd (h.lt r hr)
    omega
  have hhs : ((List.range n).filter fun x => decide (heads E x = x)).Pairwise (· < ·) := (range_up n).filter _
  have hhm : ∀ f ∈ (List.range n).filter (fun x => decide (heads E x = x)), f < n ∧ heads E f = f := fun f hf => by
    obtain ⟨h1, h2⟩ := List.mem_filter.1 hf
    exact ⟨List.mem_range.1 h1, of_decide_eq_true h2⟩
  have hhd : ∀ x, x < n → heads E x ∈ (List.range n).filter (fun x => decide (heads E x = x)) := fun x hx => by
    have := heads_le E x
    exact List.mem_filter.2 ⟨List.mem_range.2 (by omega), decide_eq_true (heads_heads E x)⟩
  unfold piecesL
  generalize hhsE : (List.range n).filter (fun x => decide (heads E x = x)) = hs at *
  let cls (f : Nat) : List Nat := (List.range n).filter fun x => decide (heads E x = f)
  generalize hX : whileX _ _ _ _ _ _ _ = X
  obtain ⟨ρ', s', rfl, o4, o5, o6, o7, o8, o9, o10, l2, rfl, rfl⟩ := while_of hX (fun k ρ s => ∃ (dn rest : List Nat) (o4 o5 o6 o7 o8 o9 o10 : Option Slot), hs = dn ++ rest ∧ k = rest.length ∧ s = none ∧
      ρ = [some (.val (encF n rs)), some (.val (natsT lot)), some (.own (((List.range n).filter fun x => decide (heads E x ∈ rest)).map natD)), some (.own ((dn.map cls).map natsL)), o4, o5, o6, o7, o8, o9, o10])
    (fun ρ s => ∃ (o4 o5 o6 o7 o8 o9 o10 : Option Slot) (l2 : List D), s = none ∧ ρ = [some (.val (encF n rs)), some (.val (natsT lot)), some (.own l2), some (.own ((hs.map cls).map natsL)), o4, o5, o6, o7, o8, o9, o10])
    hs.length (by
      have := List.length_filter_le (fun x => decide (heads E x = x)) (List.range n)
      rw [hhsE, List.length_range] at this
      omega) ⟨[], hs, none, none, none, none, none, none, none, rfl, rfl, rfl, by
        rw [List.filter_eq_self.2 fun x hx => decide_eq_true (hhd x (List.mem_range.1 hx))]; rfl⟩ (by
      clear hX
      rintro k ρ s ⟨dn, rest, o4, o5, o6, o7, o8, o9, o10, hdr, rfl, rfl, rfl⟩
      refine ⟨!((List.range n).filter fun x => decide (heads E x ∈ rest)).isEmpty, none, ?_, ?_, ?_⟩
      · unfold testX
        simp! [cmp_ne_nilL, List.isEmpty_map]
      · intro ht
        cases rest with
        | nil => simp at ht
        | cons f rest =>
        have hf := hhm f (by rw [hdr]; simp)
        rw [hdr] at hhs
        obtain ⟨hf1, hf2⟩ := List.pairwise_cons.1 (List.pairwise_append.1 hhs).2.1
        -- the first of what is left
        have hleft : ∃ l', (List.range n).filter (fun x => decide (heads E x ∈ f :: rest)) = f :: l' := by
          have up : ((List.range n).filter (fun x => decide (heads E x ∈ f :: rest))).Pairwise (· < ·) := (range_up n).filter _
          have hm1 : f ∈ (List.range n).filter (fun x => decide (heads E x ∈ f :: rest)) := List.mem_filter.2 ⟨List.mem_range.2 hf.1, decide_eq_true (by rw [hf.2]; exact List.mem_cons_self ..)⟩
          have hm2 : ∀ x ∈ (List.range n).filter (fun x => decide (heads E x ∈ f :: rest)), f ≤ x := fun x hx => by
            have h1 := of_decide_eq_true (List.mem_filter.1 hx).2
            have h2 := heads_le E x
            rcases List.mem_cons.1 h1 with h1 | h1
            · omega
            · have := hf1 _ h1; omega
          generalize (List.range n).filter (fun x => decide (heads E x ∈ f :: rest)) = l at *
          cases l with
          | nil => cases hm1
          | cons a l =>
            have h1 := hm2 a (List.mem_cons_self ..)
            rcases List.mem_cons.1 hm1 with h2 | h2
            · exact ⟨l, by rw [h2]⟩
            · have := (List.pairwise_cons.1 up).1 f h2; omega
        obtain ⟨l', hl'⟩ := hleft
        have hsl : sliceD (.lst (((List.range n).filter fun x => decide (heads E x ∈ f :: rest)).map natD)) none (some (.int 1)) = some (natsL [f]) := by
          rw [slice_hi (by omega), show (1 : Int) = ((1 : Nat) : Int) from rfl, cut_to, hl']; rfl
        simp! [hsl]
        generalize hX : whileX _ _ _ _ _ _ _ = X
        obtain ⟨ρ', s', rfl, piece, o6, o7, o8, o9, o10, rfl, rfl, hp1, hp2, hp3⟩ := while_of hX (fun k ρ s => ∃ (piece line : List Nat) (o6 o7 o8 o9 o10 : Option Slot), s = none ∧
            ρ = [some (.val (encF n rs)), some (.val (natsT lot)), some (.own (((List.range n).filter fun x => decide (heads E x ∈ f :: rest ∧ x ∉ piece)).map natD)), some (.own ((dn.map cls).map natsL)), some (.own (piece.map natD)), some (.own (line.map natD)), o6, o7, o8, o9, o10] ∧
            k = line.length + 15 * (n - piece.length) ∧ line.length + 15 * (n - piece.length) ≤ 121 ∧ piece.Nodup ∧ (∀ x ∈ piece, x < n ∧ heads E x = f) ∧ (∀ x ∈ line, x < n ∧ heads E x = f) ∧ (f ∈ piece ∨ f ∈ line) ∧ ∀ x ∈ piece, ∀ y, ((x, y) ∈ E ∨ (y, x) ∈ E) → y ∈ piece ∨ y ∈ line)
          (fun ρ s => ∃ (piece : List Nat) (o6 o7 o8 o9 o10 : Option Slot), s = none ∧
            ρ = [some (.val (encF n rs)), some (.val (natsT lot)), some (.own (((List.range n).filter fun x => decide (heads E x ∈ f :: rest ∧ x ∉ piece)).map natD)), some (.own ((dn.map cls).map natsL)), some (.own (piece.map natD)), some (.own []), o6, o7, o8, o9, o10] ∧
            piece.Nodup ∧ (∀ x ∈ piece, x < n ∧ heads E x = f) ∧ ∀ x, heads E x = f → x ∈ piece)
          (1 + 15 * n) (by omega) ⟨[], [f], o6, o7, o8, o9, o10, rfl, by simp only [List.not_mem_nil, not_false_eq_true, and_true]; rfl, by simp, by simp; omega, List.nodup_nil, (fun _ h => nomatch h), (fun x hx => by rw [List.mem_singleton] at hx; rw [hx]; exact hf), .inr (by simp), (fun _ h => nomatch h)⟩ (by
            clear hX
            rintro k ρ s ⟨piece, line, o6, o7, o8, o9, o10, rfl, rfl, rfl, hk, pnd, pin, lin, hfi, hcl⟩
            refine ⟨!line.isEmpty, none, ?_, ?_, ?_⟩
            · unfold testX
              simp! [cmp_ne_nilL, List.isEmpty_map]
            · intro ht
              have hlne : line ≠ [] := by rintro rfl; cases ht
              obtain ⟨line, here, rfl⟩ : ∃ l a, line = l ++ [a] := by
                rcases List.eq_nil_or_concat line with h | ⟨l, a, h⟩
                · exact absurd h hlne
                · exact ⟨l, a, by rw [h, List.concat_eq_append]⟩
              have hh := lin here (by simp)
              have hplen := nd_len pnd fun x hx => (pin x hx).1
              have e1 : ((line ++ [here]).map natD) = line.map natD ++ [natD here] := by rw [List.map_append]; rfl
              rw [e1]
              have lin' : ∀ x ∈ line, x < n ∧ heads E x = f := fun x hx => lin x (List.mem_append_left _ hx)
              simp! [List.getLast?_concat, List.dropLast_concat, in_L]
              by_cases hL : here ∈ piece
              · have hL2 : here ∉ (List.range n).filter fun x => decide (heads E x ∈ f :: rest ∧ x ∉ piece) := fun k => (of_decide_eq_true (List.mem_filter.1 k).2).2 hL
                rw [sel_neg hL2]
                simp! [Post_some]
                refine ⟨.inl trivial, _, ?_, piece, line, some (.val (natD here)), o7, o8, o9, o10, trivial, rfl, rfl, ?_, pnd, pin, lin', ?_, ?_⟩
                · omega
                · rw [List.length_append, List.length_singleton] at hk; omega
                · rcases hfi with h | h
                  · exact .inl h
                  · rcases List.mem_append.1 h with h | h
                    · exact .inr h
                    · rw [List.mem_singleton] at h; rw [h]; exact .inl hL
                · intro x hx y hy
                  rcases hcl x hx y hy with h | h
                  · exact .inl h
                  · rcases List.mem_append.1 h with h | h
                    · exact .inr h
                    · rw [List.mem_singleton] at h; rw [h]; exact .inl hL
              · have hL2 : here ∈ (List.range n).filter fun x => decide (heads E x ∈ f :: rest ∧ x ∉ piece) := List.mem_filter.2 ⟨List.mem_range.2 hh.1, decide_eq_true ⟨by rw [hh.2]; exact List.mem_cons_self .., hL⟩⟩
                rw [sel_pos hL2]
                simp! []
                rw [s_remove (j := (here : Int)) (s2 := none) (xs := ((List.range n).filter fun x => decide (heads E x ∈ f :: rest ∧ x ∉ piece)).map natD) (l := castL ((List.range n).filter fun x => decide (heads E x ∈ f :: rest ∧ x ∉ piece))) (by simp! []) (by simp! []) (ints_nat _), remove_nat hL2]
                have hpn : (piece ++ [here]).Nodup := List.nodup_append.2 ⟨pnd, List.pairwise_singleton _ _, fun a ha b hb => by rw [List.mem_singleton] at hb; rintro rfl; exact hL (hb ▸ ha)⟩
                have hpi : ∀ x ∈ piece ++ [here], x < n ∧ heads E x = f := fun x hx => by
                  rcases List.mem_append.1 hx with h | h
                  · exact pin x h
                  · rw [List.mem_singleton] at h; rw [h]; exact hh
                have hpl := nd_len hpn fun x hx => (hpi x hx).1
                rw [List.length_append, List.length_singleton] at hpl
                have her : ((List.range n).filter fun x => decide (heads E x ∈ f :: rest ∧ x ∉ piece)).erase here = (List.range n).filter fun x => decide (heads E x ∈ f :: rest ∧ x ∉ piece ++ [here]) := by
                  rw [List.Nodup.erase_eq_filter (List.nodup_range.filter _), List.filter_filter]
                  refine List.filter_congr fun x _ => ?_
                  rw [Bool.eq_iff_iff]
                  simp only [Bool.and_eq_true, decide_eq_true_iff, bne_iff_ne, List.mem_append, List.mem_singleton]
                  constructor
                  · rintro ⟨h1, h2, h3⟩; exact ⟨h2, fun h => h.elim h3 h1⟩
                  · rintro ⟨h1, h2⟩; exact ⟨fun h => h2 (.inr h), h1, fun h => h2 (.inl h)⟩
                rw [her]
                simp! [show piece.length + 1 ≤ 1000000 by omega, show lot.length ≤ 1000000 by omega]
                generalize hX : compL _ _ _ _ _ _ _ = X
                have := filt_of hX natD (fun r => decide (here ∈ [(rdOf rs r).1, (rdOf rs r).2])) (fun r => encR (rdOf rs r)) lot rfl (fun r hr => by
                  simp! [idxF1, idx_rd (h.lt r hr), inr]) (fun r hr _ => by simp! [idxF1, idx_rd (h.lt r hr)])
                subst this
                clear hX
                have hfl := List.length_filter_le (fun r => decide (here ∈ [(rdOf rs r).1, (rdOf rs r).2])) lot
                simp! [show (lot.filter fun r => decide (here ∈ [(rdOf rs r).1, (rdOf rs r).2])).length ≤ 1000000 by omega]
                generalize hX : compL _ _ _ _ _ _ _ = X
                have := map_of hX (fun r => encR (rdOf rs r)) (fun r => natD (otherEnd (rdOf rs r) here)) (lot.filter fun r => decide (here ∈ [(rdOf rs r).1, (rdOf rs r).2])) rfl (fun r hr => by
                  simp! [encR, cmp_eq]
                  unfold otherEnd
                  by_cases h : (rdOf rs r).1 = here
                  · rw [sel_pos (by omega), if_pos h]; simp! []
                  · rw [sel_neg (by omega), if_neg h]; simp! [])
                subst this
                clear hX
                have hll : line.length ≤ 900000 := by rw [List.length_append] at hk; omega
                simp! []
                rw [addL (by rw [List.length_append, List.length_map, List.length_map]; show _ ≤ 1000000; omega)]
                simp! [Post_some]
                refine ⟨.inl trivial, _, ?_, piece ++ [here], line ++ (lot.filter fun r => decide (here ∈ [(rdOf rs r).1, (rdOf rs r).2])).map (fun r => otherEnd (rdOf rs r) here), some (.val (natD here)), some (.val (.lst ((lot.filter fun r => decide (here ∈ [(rdOf rs r).1, (rdOf rs r).2])).map fun r => encR (rdOf rs r)))), o8, o9, o10, trivial, ?_, rfl, ?_, hpn, hpi, ?_, ?_, ?_⟩
                · simp only [List.length_append, List.length_map, List.length_singleton]; omega
                · simp only [List.map_append, List.map_map]; rfl
                · rw [List.length_append, List.length_singleton] at hk
                  rw [List.length_append, List.length_append, List.length_map, List.length_singleton]; omega
                · intro x hx
                  rcases List.mem_append.1 hx with hx | hx
                  · exact lin' x hx
                  · obtain ⟨r, hr, rfl⟩ := List.mem_map.1 hx
                    obtain ⟨hr1, hr2⟩ := List.mem_filter.1 hr
                    have hrd := W.rd (h.lt r hr1)
                    have hmE : rdOf rs r ∈ E := by rw [← hE]; exact List.mem_map.2 ⟨r, hr1, rfl⟩
                    simp only [List.mem_cons, List.not_mem_nil, or_false, decide_eq_true_iff] at hr2
                    have hc : heads E (rdOf rs r).1 = heads E (rdOf rs r).2 := (heads_iff E _ _).2 (.one (.inl hmE))
                    have h4 := hh.2
                    unfold otherEnd
                    split
                    · rename_i h5; rw [← h5] at h4; exact ⟨hrd.2, by rw [← hc, h4]⟩
                    · rename_i h5
                      have h6 : here = (rdOf rs r).2 := by omega
                      rw [h6] at h4
                      exact ⟨hrd.1, by rw [hc, h4]⟩
                · rcases hfi with h | h
                  · exact .inl (List.mem_append_left _ h)
                  · rcases List.mem_append.1 h with h | h
                    · exact .inr (List.mem_append_left _ h)
                    · exact .inl (List.mem_append_right _ h)
                · intro x hx y hy
                  rcases List.mem_append.1 hx with hx | hx
                  · rcases hcl x hx y hy with h | h
                    · exact .inl (List.mem_append_left _ h)
                    · rcases List.mem_append.1 h with h | h
                      · exact .inr (List.mem_append_left _ h)
                      · exact .inl (List.mem_append_right _ h)
                  · rw [List.mem_singleton] at hx
                    subst hx
                    refine .inr (List.mem_append_right _ (List.mem_map.2 ?_))
                    rcases hy with hy | hy
                    · rw [← hE] at hy
                      obtain ⟨r, hr, e⟩ := List.mem_map.1 hy
                      exact ⟨r, List.mem_filter.2 ⟨hr, by rw [e]; simp⟩, by unfold otherEnd; rw [e, if_pos rfl]⟩
                    · rw [← hE] at hy
                      obtain ⟨r, hr, e⟩ := List.mem_map.1 hy
                      refine ⟨r, List.mem_filter.2 ⟨hr, by rw [e]; simp⟩, ?_⟩
                      unfold otherEnd
                      rw [e]
                      show (if y = x then x else y) = y
                      split
                      · rename_i h; exact h.symm
                      · rfl
            · intro ht
              have hl0 : line = [] := by cases line with | nil => rfl | cons a l => cases ht
              subst hl0
              refine ⟨piece, o6, o7, o8, o9, o10, rfl, rfl, pnd, pin, fun x hx => ?_⟩
              have hfp : f ∈ piece := hfi.elim id (fun h => nomatch h)
              have : ∀ {u v : Nat}, Cn E u v → u ∈ piece → v ∈ piece := by
                intro u v c
                induction c with
                | refl => exact id
                | step _ e ih => exact fun hu => (hcl _ (ih hu) _ e).elim id (fun h => nomatch h)
              exact this ((heads_iff E f x).1 (by rw [hf.2, hx])) hfp)
        clear hX
        have hsort : f1D .sorted (.lst (piece.map natD)) = some (natsL (cls f)) := by
          have hpl := nd_len hp1 fun x hx => (hp2 x hx).1
          rw [sorted_nats hp1 (fun x hx => (hp2 x hx).1) (by omega)]
          refine congrArg some (congrArg natsL ?_)
          refine List.filter_congr fun x hx => decide_eq_decide.2 ⟨fun k => (hp2 x k).2, hp3 x⟩
        have hdl : dn.length + 1 ≤ 1000000 := by
          have h1 := congrArg List.length hdr
          have h2 := List.length_filter_le (fun x => decide (heads E x = x)) (List.range n)
          rw [hhsE, List.length_range] at h2
          rw [List.length_append, List.length_cons] at h1
          omega
        simp! [hsort, hdl, Post_some]
        refine ⟨.inl trivial, _, ?_, dn ++ [f], rest, some (.own (piece.map natD)), some (.own []), o6, o7, o8, o9, o10, by rw [hdr]; simp, rfl, trivial, ?_⟩
        · exact Nat.lt_succ_self _
        · rw [List.map_append, List.map_append]
          have : ((List.range n).filter fun x => decide (heads E x ∈ f :: rest ∧ x ∉ piece)) = (List.range n).filter fun x => decide (heads E x ∈ rest) := by
            refine List.filter_congr fun x _ => decide_eq_decide.2 ?_
            constructor
            · rintro ⟨h1, h2⟩
              rcases List.mem_cons.1 h1 with h1 | h1
              · exact absurd (hp3 x h1) h2
              · exact h1
            · intro h1
              refine ⟨List.mem_cons_of_mem _ h1, fun h2 => ?_⟩
              have := hf1 _ h1
              rw [(hp2 x h2).2] at this
              omega
          rw [this]
          rfl
      · intro ht
        have hr : rest = [] := by
          cases rest with
          | nil => rfl
          | cons f rest =>
            have hf := hhm f (by rw [hdr]; simp)
            have : f ∈ (List.range n).filter fun x => decide (heads E x ∈ f :: rest) := List.mem_filter.2 ⟨List.mem_range.2 hf.1, decide_eq_true (by rw [hf.2]; exact List.mem_cons_self ..)⟩
            cases hl : (List.range n).filter fun x => decide (heads E x ∈ f :: rest) with
            | nil => rw [hl] at this; cases this
            | cons a l => rw [hl] at ht; cases ht
        subst hr
        rw [List.append_nil] at hdr
        subst hdr
        exact ⟨o4, o5, o6, o7, o8, o9, o10, _, rfl, rfl⟩)
  simp! [Post_some]
  rfl
end K80

/-! ## K80h -/
set_option autoImplicit false
set_option linter.all false
set_option Elab.async false
set_option maxHeartbeats 2000000
namespace K80
open Mini Gr
theorem ends_lt {n : Nat} {rs : List Rd} {lot : List Nat} (W : WF n rs) (h : ∀ k ∈ lot, k < rs.length) : ∀ x ∈ ends (lot.map (rdOf rs)), x < n := fun x hx => by
  obtain ⟨e, he, hex⟩ := mem_ends.1 hx
  obtain ⟨r, hr, rfl⟩ := List.mem_map.1 he
  have := W.rd (h r hr)
  omega
theorem touch_head {E : List Rd} {x : Nat} (h : x ∈ ends E) : heads E x ∈ ends E := by
  refine Classical.byContradiction fun k => ?_
  have : ∀ {y z}, Cn E y z → z ∉ ends E → y = z := by
    intro y z c
    cases c with
    | refl => exact fun _ => rfl
    | step _ e => exact fun hz => absurd (mem_ends.2 (by rcases e with e | e; exact ⟨_, e, .inr rfl⟩; exact ⟨_, e, .inl rfl⟩)) hz
  have := this (heads_cn E x) k
  rw [← this] at k
  exact k h
theorem tops_pieces (n : Nat) (E : List Rd) (hn : ∀ x ∈ ends E, x < n) : ((piecesL n E).filter fun P => !(P.filter fun c => decide (c ∈ ends E)).isEmpty).length = tops n E := by
  unfold piecesL tops
  rw [List.filter_map, List.length_map, List.filter_filter]
  congr 1
  refine List.filter_congr fun x hx => ?_
  have hx := List.mem_range.1 hx
  rw [Bool.and_comm]
  by_cases hh : heads E x = x
  · rw [decide_eq_true hh, Bool.true_and, Bool.true_and]
    show (!(((List.range n).filter fun y => decide (heads E y = x)).filter fun c => decide (c ∈ ends E)).isEmpty) = touch E x
    rw [Bool.eq_iff_iff]
    unfold touch
    rw [decide_eq_true_iff, Bool.not_eq_true', List.isEmpty_eq_false_iff_exists_mem]
    constructor
    · rintro ⟨y, hy⟩
      rw [List.mem_filter, List.mem_filter, decide_eq_true_iff, decide_eq_true_iff] at hy
      have := touch_head hy.2
      rwa [hy.1.2] at this
    · intro h
      refine ⟨x, ?_⟩
      rw [List.mem_filter, List.mem_filter, decide_eq_true_iff, decide_eq_true_iff]
      exact ⟨⟨List.mem_range.2 hx, hh⟩, h⟩
  · rw [decide_eq_false hh, Bool.false_and, Bool.false_and]
theorem isRing_iff {n : Nat} {rs : List Rd} {lot : List Nat} (W : WF n rs) (h : IsLot rs.length lot) :
    isRingP n rs lot ↔ lot ≠ [] ∧ (∀ x ∈ ends (lot.map (rdOf rs)), (ends (lot.map (rdOf rs))).count x = 2) ∧ tops n (lot.map (rdOf rs)) = 1 := by
  have hlt := ends_lt W h.lt
  have perm : ∀ r ∈ lot, (lot.map (rdOf rs)).Perm (rdOf rs r :: (lot.filter fun x => !decide (x = r)).map (rdOf rs)) := fun r hr => by
    have p := List.perm_cons_erase hr
    rw [List.Nodup.erase_eq_filter h.nd] at p
    have p2 := p.map (rdOf rs)
    rw [List.map_cons] at p2
    exact p2.trans (List.Perm.cons _ (List.Perm.of_eq rfl))
  have other : ∀ e F, (lot.map (rdOf rs)).Perm (e :: F) → ∃ r ∈ lot, F.Perm ((lot.filter fun x => !decide (x = r)).map (rdOf rs)) := fun e F p => by
    have he : e ∈ lot.map (rdOf rs) := p.mem_iff.2 (List.mem_cons_self ..)
    obtain ⟨r, hr, rfl⟩ := List.mem_map.1 he
    exact ⟨r, hr, List.Perm.cons_inv (p.symm.trans (perm r hr))⟩
  have psame : ∀ {E F : List Rd}, E.Perm F → pieces n E = pieces n F := fun p => pieces_same fun x y => Cn.same (fun e => p.mem_iff) x y
  constructor
  · rintro ⟨h1, h2⟩
    have hne : lot ≠ [] := by
      rintro rfl
      have : pieces n (List.map (rdOf rs) []) = n := by
        show ((List.range n).filter fun x => decide (heads [] x = x)).length = n
        rw [heads_nil, show (fun x : Nat => decide (id x = x)) = fun _ => true from funext fun x => decide_eq_true rfl, List.filter_eq_self.2 fun _ _ => rfl, List.length_range]
      rw [this] at h1
      simp at h1
    have hne2 : lot.map (rdOf rs) ≠ [] := fun k => hne (List.map_eq_nil_iff.1 k)
    obtain ⟨a, b⟩ := circ_of_ranks hlt hne2 (by rw [List.length_map]; exact h1) (fun e F p => by
      obtain ⟨r, hr, q⟩ := other e F p
      rw [psame q]
      have := h2 r hr
      omega)
    exact ⟨hne, a, (tops_one hlt hne2).2 b⟩
  · rintro ⟨hne, h2, h3⟩
    have hne2 : lot.map (rdOf rs) ≠ [] := fun k => hne (List.map_eq_nil_iff.1 k)
    obtain ⟨a, b⟩ := ranks_of_circ hlt hne2 h2 ((tops_one hlt hne2).1 h3)
    rw [List.length_map] at a
    exact ⟨a, fun r hr => by rw [b _ _ (perm r hr)]; exact a⟩
theorem Circ.isRing {n : Nat} {rs : List Rd} {lot : List Nat} (W : WF n rs) (h : IsLot rs.length lot) (hne : lot ≠ []) (c : Circ (lot.map (rdOf rs))) : isRingP n rs lot :=
  (isRing_iff W h).2 ⟨hne, c.two, (tops_one (ends_lt W h.lt) fun k => hne (List.map_eq_nil_iff.1 k)).2 c.on⟩
theorem p_law_is_ring {n : Nat} {rs : List Rd} {lot : List Nat} (W : WF n rs) (h : IsLot rs.length lot) :
    F_law_is_ring [encF n rs, natsT lot] = some (.bl (decide (isRingP n rs lot))) := by
  refine runF_of (by rfl) ?_
  have hlen := h.len
  have hm := W.m14
  rw [show startE d_law_is_ring [encF n rs, natsT lot] = [some (.val (encF n rs)), some (.val (natsT lot)), none, none, none, none, none] from rfl, d_law_is_ring]
  simp! [cmp_eq_nilT, List.isEmpty_map]
  rw [selO (c := !(oddL n (lot.map (rdOf rs))).isEmpty) (fun _ => by simp! [p_law_odd W h.lt (lot_tup lot), cmp_ne_nilL, List.isEmpty_map])]
  simp! []
  by_cases hb : (lot.isEmpty || !(oddL n (lot.map (rdOf rs))).isEmpty) = true
  · rw [hb, sel_true]
    simp! [Post_some]
    rw [decide_eq_false]
    intro k
    obtain ⟨k1, k2, k3⟩ := (isRing_iff W h).1 k
    rw [Bool.or_eq_true] at hb
    rcases hb with hb | hb
    · exact k1 (List.isEmpty_iff.1 hb)
    · rw [Bool.not_eq_true', List.isEmpty_eq_false_iff_exists_mem] at hb
      obtain ⟨x, hx⟩ := hb
      have := of_decide_eq_true (List.mem_filter.1 hx).2
      have hx2 : x ∈ ends (lot.map (rdOf rs)) := List.one_le_count_iff.1 (by omega)
      rw [k2 x hx2] at this
      cases this
  · rw [Bool.not_eq_true] at hb
    rw [hb, sel_false]
    simp! []
    generalize hX : forX _ _ _ _ _ _ = X
    obtain ⟨ρ', s', rfl, o3, rfl, rfl⟩ := for_of hX natD (fun d ρ s => ∃ o3, ρ = [some (.val (encF n rs)), some (.val (natsT lot)), some (.val (natsL (ends (d.map (rdOf rs))))), o3, none, none, none] ∧ s = none) lot rfl ⟨none, rfl, rfl⟩ (by
      clear hX
      rintro d a r ρ s rfl ⟨o3, rfl, rfl⟩
      have ha := h.lt a (by simp)
      have hl := h.len
      rw [List.length_append, List.length_cons] at hl
      have h2 : (ends (d.map (rdOf rs))).length + 2 ≤ 1000000 := by rw [rds_len]; omega
      simp! [idxF1, idx_rd ha, show f1D .list (encR (rdOf rs a)) = some (natsL [(rdOf rs a).1, (rdOf rs a).2]) from rfl]
      rw [addL (by rw [List.length_append, List.length_map, List.length_map]; exact h2)]
      simp! [Post_some]
      rw [ends_snoc]
      simp only [natsL, List.map_append]
      exact ⟨.inl trivial, _, rfl, trivial⟩)
    clear hX
    have hel : (ends (lot.map (rdOf rs))).length ≤ 1000000 := by rw [rds_len]; omega
    generalize hE : lot.map (rdOf rs) = E at *
    simp! [hel]
    generalize hX : compL _ _ _ _ _ _ _ = X
    have := filt_of hX natD (fun c => !decide ((ends E).count c = 2)) natD (ends E) rfl (fun c hc => by
      simp! [hel]
      generalize hX : compL _ _ _ _ _ _ _ = X
      have := filt_of hX natD (fun x => decide (x = c)) (fun _ => .int 1) (ends E) rfl (fun x hx => by simp! [cmp_eq, Int.ofNat_inj]) (fun x hx _ => by simp! [])
      subst this
      simp! [len_lst, cmp_ne]
      have : ((ends E).filter fun x => decide (x = c)).length = (ends E).count c := by
        rw [List.count_eq_length_filter]
        rfl
      rw [this]
      congr 2
      rw [Bool.eq_iff_iff]
      simp
      omega) (fun c hc _ => by simp! [])
    subst this
    clear hX
    simp! [cmp_ne_nilL, List.isEmpty_map]
    by_cases h2 : ((ends E).filter fun c => !decide ((ends E).count c = 2)).isEmpty = true
    · rw [h2]
      have hpl : F_law_pieces [encF n rs, natsT lot] = some (.lst ((piecesL n E).map natsL)) := by rw [← hE]; exact p_law_pieces W h
      have hpn : (piecesL n E).length ≤ 1000000 := by
        unfold piecesL
        rw [List.length_map]
        have := List.length_filter_le (fun x => decide (heads E x = x)) (List.range n)
        rw [List.length_range] at this
        have := W.n8
        omega
      simp! [hpl, hpn]
      generalize hX : compL _ _ _ _ _ _ _ = X
      have := filt_of hX natsL (fun P => !(P.filter fun c => decide (c ∈ ends E)).isEmpty) natsL (piecesL n E) rfl (fun P hP => by
        have hPl : P.length ≤ 1000000 := by
          unfold piecesL at hP
          obtain ⟨f, hf, rfl⟩ := List.mem_map.1 hP
          have := List.length_filter_le (fun x => decide (heads E x = f)) (List.range n)
          rw [List.length_range] at this
          have := W.n8
          omega
        simp! [hPl]
        generalize hX : compL _ _ _ _ _ _ _ = X
        have := filt_of hX natD (fun c => decide (c ∈ ends E)) natD P rfl (fun c hc => by simp! [in_L]) (fun c hc _ => by simp! [])
        subst this
        simp! [cmp_ne_nilL, List.isEmpty_map]) (fun P hP _ => by simp! [])
      subst this
      have hlt : ∀ x ∈ ends E, x < n := by rw [← hE]; exact ends_lt W h.lt
      simp! [len_lst, cmp_eq, Post_some, tops_pieces n E hlt]
      refine congrArg (fun b => Out.rt (.bl b)) (decide_eq_decide.2 ?_)
      rw [isRing_iff W h, hE]
      rw [Bool.or_eq_false_iff] at hb
      constructor
      · intro k
        refine ⟨fun k2 => by rw [k2] at hb; exact absurd hb.1 (by simp), fun x hx => ?_, by omega⟩
        refine Classical.byContradiction fun k3 => ?_
        have : x ∈ (ends E).filter fun c => !decide ((ends E).count c = 2) := List.mem_filter.2 ⟨hx, by rw [decide_eq_false k3]; rfl⟩
        rw [List.isEmpty_iff.1 h2] at this
        cases this
      · rintro ⟨_, _, k⟩; omega
    · rw [Bool.not_eq_true] at h2
      rw [h2]
      simp! [Post_some]
      rw [decide_eq_false]
      intro k
      obtain ⟨k1, k2, k3⟩ := (isRing_iff W h).1 k
      rw [hE] at k2
      obtain ⟨x, hx⟩ := List.isEmpty_eq_false_iff_exists_mem.1 h2
      obtain ⟨hx1, hx2⟩ := List.mem_filter.1 hx
      rw [decide_eq_true (k2 x hx1)] at hx2
      cases hx2
end K80

/-! ## K80i -/
set_option autoImplicit false
set_option linter.all false
set_option Elab.async false
set_option maxHeartbeats 2000000
namespace K80
open Mini Gr
/-! values of all kinds -/
/-- no text of repr in it, its numbers small; so great at most, so deep at most -/
structure Gv (w d : Nat) (v : D) : Prop where
  sm : smallI v = true
  wt : wt v ≤ w
  dep : dep v ≤ d
theorem smallL_iff : ∀ xs : List D, smallL xs = true ↔ ∀ x ∈ xs, smallI x = true
  | [] => by simp [smallL]
  | x :: xs => by rw [smallL, Bool.and_eq_true, smallL_iff xs]; simp
theorem wtL_mem : ∀ {xs : List D} {x : D}, x ∈ xs → wt x + 1 ≤ wtL xs
  | a :: xs, x, h => by
    rw [wtL]
    rcases List.mem_cons.1 h with h | h
    · subst h; omega
    · have := wtL_mem h; omega
theorem wtL_len : ∀ xs : List D, xs.length ≤ wtL xs
  | [] => Nat.le_refl _
  | x :: xs => by rw [wtL, List.length_cons]; have := wtL_len xs; omega
theorem depL_mem : ∀ {xs : List D} {x : D}, x ∈ xs → dep x ≤ depL xs
  | a :: xs, x, h => by
    rw [depL]
    rcases List.mem_cons.1 h with h | h
    · subst h; omega
    · have := depL_mem h; omega
theorem depL_le : ∀ {xs : List D} {d : Nat}, (∀ x ∈ xs, dep x ≤ d) → depL xs ≤ d
  | [], d, _ => Nat.zero_le _
  | x :: xs, d, h => by
    rw [depL]
    have := h x (List.mem_cons_self ..)
    have := depL_le (xs := xs) fun y hy => h y (List.mem_cons_of_mem _ hy)
    omega
theorem Gv.len {w d : Nat} {xs : List D} (h : Gv w d (.tup xs)) : xs.length ≤ w := by
  have := h.wt
  rw [Mini.wt] at this
  exact Nat.le_trans (wtL_len xs) this
theorem Gv.mem {w d : Nat} {xs : List D} (h : Gv w d (.tup xs)) {x : D} (hx : x ∈ xs) : Gv w (d - 1) x := by
  have h1 := h.sm
  have h2 := h.wt
  have h3 := h.dep
  rw [smallI] at h1
  rw [Mini.wt] at h2
  rw [Mini.dep] at h3
  have := wtL_mem hx
  have := depL_mem hx
  exact ⟨(smallL_iff xs).1 h1 x hx, by omega, by omega⟩
theorem Gv.mono {w d w' d' : Nat} {v : D} (h : Gv w d v) (hw : w ≤ w') (hd : d ≤ d') : Gv w' d' v := ⟨h.sm, Nat.le_trans h.wt hw, Nat.le_trans h.dep hd⟩
theorem chain_pw {A : Type} {R : A → A → Prop} {P : A → Prop} (tr : ∀ a b c, P a → P b → P c → R a b → R b c → R a c) : ∀ l : List A, (∀ x ∈ l, P x) → (∀ (k : Nat) (a b : A), l[k]? = some a → l[k + 1]? = some b → R a b) → l.Pairwise R
  | [], _, _ => .nil
  | a :: l, hp, h => by
    have hl := chain_pw tr l (fun x hx => hp x (List.mem_cons_of_mem _ hx)) fun k x y hx hy => h (k + 1) x y (by simpa using hx) (by simpa using hy)
    refine List.pairwise_cons.2 ⟨fun b hb => ?_, hl⟩
    cases l with
    | nil => cases hb
    | cons c l =>
      have h0 := h 0 a c rfl rfl
      rcases List.mem_cons.1 hb with hb | hb
      · subst hb; exact h0
      · exact tr a c b (hp _ (by simp)) (hp _ (by simp)) (hp _ (by simp [hb])) h0 ((List.pairwise_cons.1 hl).1 b hb)
theorem pw_chain {A : Type} {R : A → A → Prop} {l : List A} (h : l.Pairwise R) {k : Nat} {a b : A} (ha : l[k]? = some a) (hb : l[k + 1]? = some b) : R a b := by
  obtain ⟨h1, rfl⟩ := List.getElem?_eq_some_iff.1 ha
  obtain ⟨h2, rfl⟩ := List.getElem?_eq_some_iff.1 hb
  exact List.pairwise_iff_getElem.1 h k (k + 1) h1 h2 (by omega)
open Classical in
noncomputable def dP (p : Prop) : Bool := decide p
theorem dP_true {p : Prop} (h : p) : dP p = true := by unfold dP; simp [h]
theorem dP_false {p : Prop} (h : ¬ p) : dP p = false := by unfold dP; simp [h]
theorem dP_iff {p : Prop} : dP p = true ↔ p := by
  constructor
  · intro h; exact Classical.byContradiction fun k => by rw [dP_false k] at h; cases h
  · exact dP_true
/-- a tuple of such, one rising on the other -/
def UpP (P : D → Prop) (v : D) : Prop := ∃ xs, v = .tup xs ∧ (∀ x ∈ xs, P x) ∧ xs.Pairwise fun a b => ltD a b = some true
structure OrdP (P : D → Prop) : Prop where
  tell : ∀ a b, P a → P b → ∃ c, ltD a b = some c ∧ leD b a = some (!c)
  tr : ∀ a b c, P a → P b → P c → ltD a b = some true → ltD b c = some true → ltD a c = some true
theorem range_pred {k : Nat} (h : k ≤ 1000000) : rangeO (.int 0) (.int ((k : Int) - 1)) = some ((List.range (k - 1)).map natD) := by
  cases k with
  | zero => rfl
  | succ k =>
    have e : (((k + 1 : Nat) : Int) - 1) = (k : Int) := by omega
    rw [e, Nat.add_sub_cancel]
    exact rangeO_nat (Nat.le_trans (Nat.le_succ k) h)
theorem range_one {k : Nat} (h : k ≤ 1000000) : rangeO (.int 1) (natD k) = some ((List.range (k - 1)).map fun (j : Nat) => .int (1 + (j : Int))) := by
  have h1 : ((k : Int) - 1).toNat = k - 1 := by omega
  have := rangeL_any (lo := 1) (hi := (k : Int)) (by decide) (small_nat (Nat.lt_of_le_of_lt h (by decide))) (by rw [h1]; exact Nat.le_trans (Nat.sub_le k 1) h)
  rw [h1] at this
  exact this
def isTupB : D → Bool
  | .tup _ => true
  | _ => false
theorem isTupB_t {xs : List D} : isTupB (.tup xs) = true := rfl
theorem isTy_tup {v : D} (h : smallI v = true) : isTy .tuple v = some (isTupB v) := by
  cases v <;> first | rfl | (cases h)
theorem isTupB_iff {v : D} : isTupB v = true ↔ ∃ xs, v = .tup xs := by
  constructor
  · intro h; cases v with
    | tup xs => exact ⟨xs, rfl⟩
    | _ => cases h
  · rintro ⟨xs, rfl⟩; rfl
/-- the tests of a rising tuple, the program's -/
theorem p_up {F0 : Fn} {v : D} {m : Nat} {P : D → Prop} {w d : Nat} (O : OrdP P) (hv : Gv w d v) (hw : w ≤ 100000)
    (h1 : ∀ xs, v = .tup xs → ∀ x ∈ xs, F0 [x, natD m] = some (.bl (dP (P x)))) : runF [F0] d_is_lot_of_numbers [v, natD m] = some (.bl (dP (UpP P v))) := by
  refine runF_of (by rfl) ?_
  rw [show startE d_is_lot_of_numbers [v, natD m] = [some (.val v), some (.val (natD m)), none, none] from rfl, d_is_lot_of_numbers]
  simp! [isTy_tup hv.sm]
  by_cases ht : ∃ xs, v = .tup xs
  · obtain ⟨xs, rfl⟩ := ht
    have hxl := hv.len
    simp! [isTupB_t, show xs.length ≤ 1000000 by omega]
    generalize hX : compL _ _ _ _ _ _ _ = X
    have := map_of hX id (fun x => .bl (dP (P x))) xs (List.map_id xs).symm (fun x hx => by simp! [h1 xs rfl x hx, id])
    subst this
    clear hX
    simp! [all_map]
    by_cases ha : xs.all (fun a => dP (P a)) = true
    · rw [ha]
      have hP : ∀ x ∈ xs, P x := fun x hx => dP_iff.1 (List.all_eq_true.1 ha x hx)
      simp! [len_tup, range_pred (show xs.length ≤ 1000000 by omega), show xs.length - 1 ≤ 1000000 by omega]
      generalize hX : compL _ _ _ _ _ _ _ = X
      have := map_of hX natD (fun k => .bl (match xs[k]?, xs[k + 1]? with | some a, some b => (ltD a b).getD false | _, _ => false)) (List.range (xs.length - 1)) rfl (fun k hk => by
        have hk := List.mem_range.1 hk
        have e1 := List.getElem?_eq_getElem (l := xs) (i := k) (by omega)
        have e2 := List.getElem?_eq_getElem (l := xs) (i := k + 1) (by omega)
        have e3 : idxD (.tup xs) (.int ((k : Int) + 1)) = some xs[k + 1] := idxD_tup (k := k + 1) e2
        obtain ⟨c, hc, _⟩ := O.tell xs[k] xs[k + 1] (hP _ (List.getElem_mem _)) (hP _ (List.getElem_mem _))
        simp! [idxD_tup e1, e3, show cmpD .lt xs[k] xs[k + 1] = ltD xs[k] xs[k + 1] from rfl, hc]
        rw [e1, e2]
        show _ = some (D.bl ((ltD xs[k] xs[k + 1]).getD false), _)
        rw [hc]; rfl)
      subst this
      simp! [all_map, Post_some]
      refine congrArg (fun b => Out.rt (.bl b)) ?_
      rw [Bool.eq_iff_iff, dP_iff, List.all_eq_true]
      constructor
      · intro h
        refine ⟨xs, rfl, hP, chain_pw O.tr xs hP fun k a b hka hkb => ?_⟩
        have hk : k < xs.length - 1 := by have := (List.getElem?_eq_some_iff.1 hkb).1; omega
        have := h k (List.mem_range.2 hk)
        rw [hka, hkb] at this
        obtain ⟨c, hc, _⟩ := O.tell a b (hP _ (List.mem_of_getElem? hka)) (hP _ (List.mem_of_getElem? hkb))
        have this : (ltD a b).getD false = true := this
        rw [hc] at this ⊢
        have this : c = true := this
        rw [this]
      · rintro ⟨ys, e, _, hp⟩ k hk
        cases e
        have hk := List.mem_range.1 hk
        have e1 := List.getElem?_eq_getElem (l := xs) (i := k) (by omega)
        have e2 := List.getElem?_eq_getElem (l := xs) (i := k + 1) (by omega)
        rw [e1, e2]
        have := pw_chain hp e1 e2
        show (ltD xs[k] xs[k + 1]).getD false = true
        rw [this]; rfl
    · rw [Bool.not_eq_true] at ha
      rw [ha]
      simp! [Post_some]
      rw [dP_false]
      rintro ⟨ys, e, hy, _⟩
      cases e
      obtain ⟨x, hx, hx2⟩ := List.all_eq_false.1 ha
      exact hx2 (dP_true (hy x hx))
  · have e : isTupB v = false := by
      cases hb : isTupB v with
      | false => rfl
      | true => exact absurd (isTupB_iff.1 hb) ht
    rw [e]
    simp! [Post_some]
    rw [dP_false]
    rintro ⟨xs, e, _⟩
    exact ht ⟨xs, e⟩
/-- the same, the law's: each member's test, then none that is not above the one ahead -/
theorem up_test {P : D → Prop} {xs : List D} (O : OrdP P) (hP : ∀ x ∈ xs, P x) :
    ((List.range (xs.length - 1)).filter fun k => match xs[k]?, xs[k + 1]? with | some a, some b => (leD b a).getD false | _, _ => false).isEmpty = dP (UpP P (.tup xs)) := by
  rw [Bool.eq_iff_iff, dP_iff, List.isEmpty_iff, List.filter_eq_nil_iff]
  constructor
  · intro h
    refine ⟨xs, rfl, hP, chain_pw O.tr xs hP fun k a b hka hkb => ?_⟩
    have hk : k < xs.length - 1 := by have := (List.getElem?_eq_some_iff.1 hkb).1; omega
    have := h k (List.mem_range.2 hk)
    rw [hka, hkb] at this
    have this : ¬ (leD b a).getD false = true := this
    obtain ⟨c, hc, hd⟩ := O.tell a b (hP _ (List.mem_of_getElem? hka)) (hP _ (List.mem_of_getElem? hkb))
    rw [hd] at this
    cases c with
    | true => exact hc
    | false => exact absurd rfl this
  · rintro ⟨ys, e, _, hp⟩ k hk
    cases e
    have hk := List.mem_range.1 hk
    have e1 := List.getElem?_eq_getElem (l := xs) (i := k) (by omega)
    have e2 := List.getElem?_eq_getElem (l := xs) (i := k + 1) (by omega)
    rw [e1, e2]
    have := pw_chain hp e1 e2
    show ¬ (leD xs[k + 1] xs[k]).getD false = true
    obtain ⟨c, hc, hd⟩ := O.tell xs[k] xs[k + 1] (hP _ (List.getElem_mem _)) (hP _ (List.getElem_mem _))
    rw [hc] at this
    cases this
    rw [hd]
    simp
theorem up_comp {Fs : List Fn} {n : Nat} {ρ : Env} {P : D → Prop} {xs : List D} {X : Option (List D × S)} (O : OrdP P) (hP : ∀ x ∈ xs, P x) {elt : E} {tg : T} {test : E}
    (hX : compL (ev Fs [] n) ρ elt tg [test] ((List.range (xs.length - 1)).map fun (j : Nat) => .int (1 + (j : Int))) none = X)
    (h1 : ∀ (k : Nat) (a b : D), xs[k]? = some a → xs[k + 1]? = some b → ob (bindT 9 tg (.int (1 + (k : Int))) ρ) (fun ρ => testsL (ev Fs [] n) ρ [test] none) = some ((leD b a).getD false, none))
    (h2 : ∀ k : Nat, ob (bindT 9 tg (.int (1 + (k : Int))) ρ) (fun ρ => ev Fs [] n ρ elt none) = some (.int (1 + (k : Int)), none)) :
    ∃ l, X = some (l, none) ∧ l.isEmpty = dP (UpP P (.tup xs)) := by
  have := filt_of hX (fun (j : Nat) => .int (1 + (j : Int))) (fun k => match xs[k]?, xs[k + 1]? with | some a, some b => (leD b a).getD false | _, _ => false) (fun (j : Nat) => .int (1 + (j : Int))) (List.range (xs.length - 1)) rfl (fun k hk => by
    have hk := List.mem_range.1 hk
    have e1 := List.getElem?_eq_getElem (l := xs) (i := k) (by omega)
    have e2 := List.getElem?_eq_getElem (l := xs) (i := k + 1) (by omega)
    rw [h1 k _ _ e1 e2, e1, e2]) (fun k hk _ => h2 k)
  exact ⟨_, this, by rw [List.isEmpty_map]; exact up_test O hP⟩
/-- a number below m -/
def isNumP (m : Nat) (v : D) : Prop := ∃ k, k < m ∧ v = natD k
theorem ord_num (m : Nat) : OrdP (isNumP m) := by
  refine ⟨?_, ?_⟩
  · rintro _ _ ⟨a, _, rfl⟩ ⟨b, _, rfl⟩
    refine ⟨decide ((a : Int) < b), rfl, ?_⟩
    show some (decide ((b : Int) ≤ a)) = _
    congr 1
    rw [Bool.eq_iff_iff]
    simp
  · rintro _ _ _ ⟨a, _, rfl⟩ ⟨b, _, rfl⟩ ⟨c, _, rfl⟩ h1 h2
    have h1 : some (decide ((a : Int) < b)) = some true := h1
    have h2 : some (decide ((b : Int) < c)) = some true := h2
    have h1 := of_decide_eq_true (Option.some.inj h1)
    have h2 := of_decide_eq_true (Option.some.inj h2)
    show some (decide ((a : Int) < c)) = _
    rw [decide_eq_true (by omega)]
def isLotP (m : Nat) (v : D) : Prop := ∃ l, v = natsT l ∧ IsLot m l
theorem isLotP_iff {m : Nat} {v : D} : UpP (isNumP m) v ↔ isLotP m v := by
  constructor
  · rintro ⟨xs, rfl, h1, h2⟩
    have : ∃ l : List Nat, xs = l.map natD ∧ ∀ k ∈ l, k < m := by
      clear h2
      induction xs with
      | nil => exact ⟨[], rfl, fun _ h => nomatch h⟩
      | cons x xs ih =>
        obtain ⟨k, hk, rfl⟩ := h1 x (List.mem_cons_self ..)
        obtain ⟨l, rfl, hl⟩ := ih fun y hy => h1 y (List.mem_cons_of_mem _ hy)
        exact ⟨k :: l, rfl, fun j hj => (List.mem_cons.1 hj).elim (fun h => h ▸ hk) (hl j)⟩
    obtain ⟨l, rfl, hl⟩ := this
    refine ⟨l, rfl, (List.pairwise_map.1 h2).imp fun {a b} h => ?_, hl⟩
    have h : some (decide ((a : Int) < b)) = some true := h
    have := of_decide_eq_true (Option.some.inj h)
    omega
  · rintro ⟨l, rfl, h⟩
    refine ⟨l.map natD, rfl, fun x hx => ?_, List.pairwise_map.2 (h.up.imp fun {a b} hab => ?_)⟩
    · obtain ⟨k, hk, rfl⟩ := List.mem_map.1 hx; exact ⟨k, h.lt k hk, rfl⟩
    · show some (decide ((a : Int) < b)) = some true
      rw [decide_eq_true (by omega)]
theorem lt_lots (a b : List Nat) : ltD (natsT a) (natsT b) = some (lexLt (castL a) (castL b)) := by
  have e : ltD (natsT a) (natsT b) = (intsOf (a.map natD)).bind fun x => (intsOf (b.map natD)).bind fun y => some (lexLt x y) := (rfl)
  rw [e, ints_nat, ints_nat]; rfl
theorem le_lots (a b : List Nat) : leD (natsT b) (natsT a) = some (!lexLt (castL a) (castL b)) := by
  have e : leD (natsT b) (natsT a) = (intsOf (b.map natD)).bind fun x => (intsOf (a.map natD)).bind fun y => some (!lexLt y x) := (rfl)
  rw [e, ints_nat, ints_nat]; rfl
theorem ord_lot (m : Nat) : OrdP (isLotP m) := by
  refine ⟨?_, ?_⟩
  · rintro _ _ ⟨a, rfl, _⟩ ⟨b, rfl, _⟩
    exact ⟨_, lt_lots a b, le_lots a b⟩
  · rintro _ _ _ ⟨a, rfl, _⟩ ⟨b, rfl, _⟩ ⟨c, rfl, _⟩ h1 h2
    rw [lt_lots] at h1 h2 ⊢
    rw [lex_trans _ _ _ (Option.some.inj h1) (Option.some.inj h2)]
theorem isTy_int {v : D} (h : smallI v = true) : isTy .int v = some (match v with | .int _ => true | .bl _ => true | _ => false) := by
  cases v <;> first | rfl | (cases h)
theorem p_is_number_of {m : Nat} {v : D} (h : smallI v = true) : F_is_number_of [v, natD m] = some (.bl (dP (isNumP m v))) := by
  refine runF_of (by rfl) ?_
  rw [show startE d_is_number_of [v, natD m] = [some (.val v), some (.val (natD m))] from rfl, d_is_number_of]
  have no : ∀ {v : D}, (∀ i, v ≠ .int i) → dP (isNumP m v) = false := fun hi => dP_false fun ⟨k, _, e⟩ => hi _ e
  cases v with
  | rep d => cases h
  | int i =>
    simp! [show isTy .int (.int i) = some true from rfl, show isTy .bool (.int i) = some false from rfl, cmp_le, cmp_lt]
    rw [selB (c := decide (i < (m : Int))) (fun _ => by simp! [cmp_lt])]
    simp! [Post_some]
    refine congrArg (fun b => Out.rt (.bl b)) ?_
    rw [Bool.eq_iff_iff, dP_iff, Bool.and_eq_true, decide_eq_true_iff, decide_eq_true_iff]
    constructor
    · rintro ⟨h1, h2⟩; exact ⟨i.toNat, by omega, by show D.int i = D.int (i.toNat : Int); rw [Int.toNat_of_nonneg h1]⟩
    · rintro ⟨k, hk, e⟩; cases e; omega
  | bl b =>
    simp! [show isTy .int (.bl b) = some true from rfl, show isTy .bool (.bl b) = some true from rfl, Post_some, no (v := .bl b) (fun i h => nomatch h)]
  | non => simp! [show isTy .int .non = some false from rfl, Post_some, no (v := .non) (fun i h => nomatch h)]
  | str s => simp! [show isTy .int (.str s) = some false from rfl, Post_some, no (v := .str s) (fun i h => nomatch h)]
  | lst s => simp! [show isTy .int (.lst s) = some false from rfl, Post_some, no (v := .lst s) (fun i h => nomatch h)]
  | tup s => simp! [show isTy .int (.tup s) = some false from rfl, Post_some, no (v := .tup s) (fun i h => nomatch h)]
  | dic s => simp! [show isTy .int (.dic s) = some false from rfl, Post_some, no (v := .dic s) (fun i h => nomatch h)]
theorem p_is_lot_of_numbers {m w d : Nat} {v : D} (h : Gv w d v) (hw : w ≤ 100000) : F_is_lot_of_numbers [v, natD m] = some (.bl (dP (isLotP m v))) := by
  have := p_up (F0 := F_is_number_of) (m := m) (ord_num m) h hw fun xs e x hx => by subst e; exact p_is_number_of (h.mem hx).sm
  rwa [show dP (UpP (isNumP m) v) = dP (isLotP m v) from congrArg dP (propext isLotP_iff)] at this
theorem p_are_lots_up {m w d : Nat} {v : D} (h : Gv w d v) (hw : w ≤ 100000) : F_are_lots_up [v, natD m] = some (.bl (dP (UpP (isLotP m) v))) :=
  p_up (F0 := F_is_lot_of_numbers) (m := m) (ord_lot m) h hw fun xs e x hx => by subst e; exact p_is_lot_of_numbers (h.mem hx) hw
end K80

/-! ## K80j -/
set_option autoImplicit false
set_option linter.all false
set_option Elab.async false
set_option maxHeartbeats 2000000
namespace K80
open Mini Gr
theorem num_int {m : Nat} {i : Int} : (decide (0 ≤ i) && decide (i < (m : Int))) = dP (isNumP m (.int i)) := by
  rw [Bool.eq_iff_iff, dP_iff, Bool.and_eq_true, decide_eq_true_iff, decide_eq_true_iff]
  constructor
  · rintro ⟨h1, h2⟩; exact ⟨i.toNat, by omega, by show D.int i = D.int (i.toNat : Int); rw [Int.toNat_of_nonneg h1]⟩
  · rintro ⟨k, hk, e⟩; cases e; omega
theorem idx_up1 {xs : List D} {k : Nat} {b : D} (h : xs[k + 1]? = some b) : idxD (.tup xs) (.int (1 + (k : Int))) = some b := by
  rw [show (1 : Int) + (k : Int) = ((k + 1 : Nat) : Int) by omega]; exact idxD_tup h
theorem idx_up0 {xs : List D} {k : Nat} {b : D} (h : xs[k]? = some b) : idxD (.tup xs) (.int (1 + (k : Int) - 1)) = some b := by
  rw [show (1 : Int) + (k : Int) - 1 = (k : Int) by omega]; exact idxD_tup h
theorem p_law_is_lot {m w d : Nat} {v : D} (h : Gv w d v) (hw : w ≤ 100000) : F_law_is_lot [v, natD m] = some (.bl (dP (isLotP m v))) := by
  rw [show dP (isLotP m v) = dP (UpP (isNumP m) v) from congrArg dP (propext isLotP_iff).symm]
  refine runF_of (by rfl) ?_
  rw [show startE d_law_is_lot [v, natD m] = [some (.val v), some (.val (natD m)), none] from rfl, d_law_is_lot]
  simp! [isTy_tup h.sm]
  by_cases ht : ∃ xs, v = .tup xs
  · obtain ⟨xs, rfl⟩ := ht
    have hxl := h.len
    simp! [isTupB_t, show xs.length ≤ 1000000 by omega]
    generalize hX : compL _ _ _ _ _ _ _ = X
    have := filt_of hX id (fun x => !dP (isNumP m x)) (fun _ => .int 1) xs (List.map_id xs).symm (fun x hx => by
      have hs := (h.mem hx).sm
      have no : ∀ {v : D}, (∀ i, v ≠ .int i) → dP (isNumP m v) = false := fun hi => dP_false fun ⟨k, _, e⟩ => hi _ e
      unfold id
      cases x with
      | rep d => cases hs
      | int i =>
        simp! [show isTy .int (.int i) = some true from rfl, show isTy .bool (.int i) = some false from rfl, cmp_le, cmp_lt]
        rw [selB (c := decide (i < (m : Int))) (fun _ => by simp! [cmp_lt])]
        simp! [num_int]
      | bl b =>
        simp! [show isTy .int (.bl b) = some true from rfl, show isTy .bool (.bl b) = some true from rfl, no (v := .bl b) (fun i h => nomatch h)]
      | non => simp! [show isTy .int .non = some false from rfl, no (v := .non) (fun i h => nomatch h)]
      | str s => simp! [show isTy .int (.str s) = some false from rfl, no (v := .str s) (fun i h => nomatch h)]
      | lst s => simp! [show isTy .int (.lst s) = some false from rfl, no (v := .lst s) (fun i h => nomatch h)]
      | tup s => simp! [show isTy .int (.tup s) = some false from rfl, no (v := .tup s) (fun i h => nomatch h)]
      | dic s => simp! [show isTy .int (.dic s) = some false from rfl, no (v := .dic s) (fun i h => nomatch h)]) (fun x hx _ => by unfold id; simp! [])
    subst this
    clear hX
    simp! [cmp_ne_nilL, List.isEmpty_map]
    by_cases ha : (xs.filter fun x => !dP (isNumP m x)).isEmpty = true
    · rw [ha]
      have hP : ∀ x ∈ xs, isNumP m x := fun x hx => Classical.byContradiction fun k => by
        have : x ∈ xs.filter fun x => !dP (isNumP m x) := List.mem_filter.2 ⟨hx, by rw [dP_false k]; rfl⟩
        rw [List.isEmpty_iff.1 ha] at this
        cases this
      simp! [len_tup, range_one (show xs.length ≤ 1000000 by omega), show xs.length - 1 ≤ 1000000 by omega]
      generalize hX : compL _ _ _ _ _ _ _ = X
      obtain ⟨l, rfl, hl⟩ := up_comp (ord_num m) hP hX (fun k a b ha hb => by
        obtain ⟨c, _, hc⟩ := (ord_num m).tell a b (hP _ (List.mem_of_getElem? ha)) (hP _ (List.mem_of_getElem? hb))
        simp! [idx_up1 hb, idx_up0 ha, show cmpD .le b a = leD b a from rfl, hc]
        rfl) (fun k => by simp! [])
      simp! [cmp_eq_nilL, hl, Post_some]
    · rw [Bool.not_eq_true] at ha
      rw [ha]
      simp! [Post_some]
      rw [dP_false]
      rintro ⟨ys, e, hy, _⟩
      cases e
      obtain ⟨x, hx⟩ := List.isEmpty_eq_false_iff_exists_mem.1 ha
      obtain ⟨h1, h2⟩ := List.mem_filter.1 hx
      rw [dP_true (hy x h1)] at h2
      cases h2
  · have e : isTupB v = false := by
      cases hb : isTupB v with
      | false => rfl
      | true => exact absurd (isTupB_iff.1 hb) ht
    rw [e]
    simp! [Post_some]
    rw [dP_false]
    rintro ⟨xs, e, _⟩
    exact ht ⟨xs, e⟩
/-- a pair of a word and something -/
def PairP (a b : String) (v : D) : Prop := ∃ s x, v = .tup [.str s, x] ∧ (s = a ∨ s = b)
theorem p_is_pair {v : D} {a b : String} {w d : Nat} (h : Gv w d v) : F_is_pair_with [v, .tup [.str a, .str b]] = some (.bl (dP (PairP a b v))) := by
  refine runF_of (by rfl) ?_
  rw [show startE d_is_pair_with [v, .tup [.str a, .str b]] = [some (.val v), some (.val (.tup [.str a, .str b]))] from rfl, d_is_pair_with]
  simp! [isTy_tup h.sm]
  by_cases ht : ∃ x y, v = .tup [x, y]
  · obtain ⟨x, y, rfl⟩ := ht
    have hx := (h.mem (List.mem_cons_self ..)).sm
    simp! [isTupB_t, len_tup, cmp_eq, show decide (((0 + 1 + 1 : Nat) : Int) = 2) = true from rfl, show decide (((2 : Nat) : Int) = 2) = true from rfl, idx_t0]
    have no : (∀ s, x ≠ .str s) → dP (PairP a b (.tup [x, y])) = false := fun hi => dP_false fun ⟨s, z, e, _⟩ => by
      injection e with e; injection e with e; exact hi _ e
    cases x with
    | rep d => cases hx
    | str s =>
      have e : cmpD .in_ (.str s) (.tup [.str a, .str b]) = some (decide (s = a) || decide (s = b)) := by
        show some ((a == s) || ((b == s) || false)) = _
        rw [Bool.or_false, show (a == s) = decide (s = a) from Bool.eq_iff_iff.2 (by rw [beq_iff_eq, decide_eq_true_iff]; exact eq_comm), show (b == s) = decide (s = b) from Bool.eq_iff_iff.2 (by rw [beq_iff_eq, decide_eq_true_iff]; exact eq_comm)]
      simp! [idx_t0, show isTy .str (.str s) = some true from rfl, e, Post_some]
      refine congrArg (fun b => Out.rt (.bl b)) ?_
      rw [Bool.eq_iff_iff, dP_iff, Bool.or_eq_true, decide_eq_true_iff, decide_eq_true_iff]
      constructor
      · intro h; exact ⟨s, y, rfl, h⟩
      · rintro ⟨s', z, e, h⟩; cases e; exact h
    | bl s => simp! [idx_t0, show isTy .str (.bl s) = some false from rfl, Post_some, no (fun i h => nomatch h)]
    | int s => simp! [idx_t0, show isTy .str (.int s) = some false from rfl, Post_some, no (fun i h => nomatch h)]
    | non => simp! [idx_t0, show isTy .str .non = some false from rfl, Post_some, no (fun i h => nomatch h)]
    | lst s => simp! [idx_t0, show isTy .str (.lst s) = some false from rfl, Post_some, no (fun i h => nomatch h)]
    | tup s => simp! [idx_t0, show isTy .str (.tup s) = some false from rfl, Post_some, no (fun i h => nomatch h)]
    | dic s => simp! [idx_t0, show isTy .str (.dic s) = some false from rfl, Post_some, no (fun i h => nomatch h)]
  · have hn : dP (PairP a b v) = false := dP_false fun ⟨s, x, e, _⟩ => ht ⟨_, _, e⟩
    by_cases ht2 : ∃ xs, v = .tup xs
    · obtain ⟨xs, rfl⟩ := ht2
      have : ¬ ((xs.length : Int) = 2) := fun k => by
        have k : xs.length = 2 := by omega
        match xs, k with
        | [x, y], _ => exact ht ⟨x, y, rfl⟩
      simp! [isTupB_t, len_tup, cmp_eq, decide_eq_false this, Post_some, hn]
    · have e : isTupB v = false := by
        cases hb : isTupB v with
        | false => rfl
        | true => exact absurd (isTupB_iff.1 hb) ht2
      simp! [e, Post_some, hn]
theorem p_law_is_pair {v : D} {a b : String} {w d : Nat} (h : Gv w d v) : F_law_is_pair [v, .tup [.str a, .str b]] = some (.bl (dP (PairP a b v))) := p_is_pair h
def formD : D := .tup [.str "form"]
/-- what is wrong with lots as rings of a lot -/
def ringsRes (n : Nat) (rs : List Rd) (lot : List Nat) (ls : List (List Nat)) : D :=
  match ls.zipIdx.filter (fun p => !decide (isRingP n rs p.1)) with
  | p :: _ => .tup [.str "ring", natD p.2]
  | [] => match (List.range rs.length).filter (fun k => !decide ((ls.filter fun l => decide (k ∈ l)).length = markOf lot k)) with
    | k :: _ => .tup [.str "road", natD k]
    | [] => .non
open Classical in
/-- the first fault as a ring paper -/
noncomputable def faultP (n : Nat) (rs : List Rd) (lot : List Nat) (s : String) (b : D) : D :=
    if s = "odd" then
      if isNumP n b then (if ∃ k ∈ oddL n (lot.map (rdOf rs)), b = natD k then .non else .tup [.str "even"]) else formD
    else if s = "rings" then
      if h : ∃ ls : List (List Nat), b = .tup (ls.map natsT) ∧ (∀ l ∈ ls, IsLot rs.length l) ∧ UpP (isLotP rs.length) b then ringsRes n rs lot h.choose else formD
    else formD
noncomputable def faultD (n : Nat) (rs : List Rd) (lot : List Nat) (v : D) : D :=
  match v with
  | .tup [.str s, b] => faultP n rs lot s b
  | _ => formD
theorem faultD_eq (n : Nat) (rs : List Rd) (lot : List Nat) (s : String) (b : D) : faultD n rs lot (.tup [.str s, b]) = faultP n rs lot s b := rfl
theorem lots_up {m : Nat} {b : D} (h : UpP (isLotP m) b) : ∃ ls : List (List Nat), b = .tup (ls.map natsT) ∧ (∀ l ∈ ls, IsLot m l) ∧ UpP (isLotP m) b := by
  obtain ⟨xs, rfl, h1, h2⟩ := h
  have : ∃ ls : List (List Nat), xs = ls.map natsT ∧ ∀ l ∈ ls, IsLot m l := by
    clear h2
    induction xs with
    | nil => exact ⟨[], rfl, fun _ h => nomatch h⟩
    | cons x xs ih =>
      obtain ⟨k, rfl, hk⟩ := h1 x (List.mem_cons_self ..)
      obtain ⟨l, rfl, hl⟩ := ih fun y hy => h1 y (List.mem_cons_of_mem _ hy)
      exact ⟨k :: l, rfl, fun j hj => (List.mem_cons.1 hj).elim (fun h => h ▸ hk) (hl j)⟩
  obtain ⟨ls, rfl, hl⟩ := this
  exact ⟨ls, rfl, hl, _, rfl, h1, h2⟩
theorem natsT_inj {a b : List Nat} (h : natsT a = natsT b) : a = b := by
  injection h with h
  induction a generalizing b with
  | nil => cases b with | nil => rfl | cons y b => cases h
  | cons x a ih => cases b with
    | nil => cases h
    | cons y b =>
      injection h with h1 h2
      injection h1 with h1
      rw [ih h2, Int.ofNat.inj h1]
theorem lots_inj {a b : List (List Nat)} (h : (D.tup (a.map natsT)) = .tup (b.map natsT)) : a = b := by
  injection h with h
  induction a generalizing b with
  | nil => cases b with | nil => rfl | cons y b => cases h
  | cons x a ih => cases b with
    | nil => cases h
    | cons y b =>
      injection h with h1 h2
      rw [ih h2, natsT_inj h1]
theorem fault_form {n : Nat} {rs : List Rd} {lot : List Nat} {v : D} (h : ¬ PairP "rings" "odd" v) : faultD n rs lot v = formD := by
  unfold faultD
  split
  · rename_i s b
    unfold faultP
    split
    · rename_i e; exact absurd ⟨s, b, rfl, .inr e⟩ h
    · split
      · rename_i e; exact absurd ⟨s, b, rfl, .inl e⟩ h
      · rfl
  · rfl
theorem fault_rings {n : Nat} {rs : List Rd} {lot : List Nat} {ls : List (List Nat)} (hl : ∀ l ∈ ls, IsLot rs.length l) (h : UpP (isLotP rs.length) (.tup (ls.map natsT))) :
    faultD n rs lot (.tup [.str "rings", .tup (ls.map natsT)]) = ringsRes n rs lot ls := by
  have hex : ∃ k : List (List Nat), D.tup (ls.map natsT) = .tup (k.map natsT) ∧ (∀ l ∈ k, IsLot rs.length l) ∧ UpP (isLotP rs.length) (.tup (ls.map natsT)) := ⟨ls, rfl, hl, h⟩
  rw [faultD_eq, faultP, if_neg (by decide), if_pos rfl, dif_pos hex, ← lots_inj hex.choose_spec.1]
theorem fault_rings_no {n : Nat} {rs : List Rd} {lot : List Nat} {b : D} (h : ¬ UpP (isLotP rs.length) b) : faultD n rs lot (.tup [.str "rings", b]) = formD := by
  rw [faultD_eq, faultP, if_neg (by decide), if_pos rfl, dif_neg]
  rintro ⟨_, _, _, k⟩
  exact h k
theorem in_odd {n : Nat} {rs : List Rd} {lot : List Nat} {b : D} (hb : isNumP n b) : ∃ c : Bool, cmpD .in_ b (natsT (oddL n (lot.map (rdOf rs)))) = some c ∧ cmpD .in_ b (natsL (oddL n (lot.map (rdOf rs)))) = some c ∧
    faultD n rs lot (.tup [.str "odd", b]) = if c = true then .non else .tup [.str "even"] := by
  obtain ⟨k, hk, rfl⟩ := hb
  refine ⟨_, in_T k _, in_L k _, ?_⟩
  rw [faultD_eq, faultP, if_pos rfl, if_pos ⟨k, hk, rfl⟩]
  by_cases h : k ∈ oddL n (lot.map (rdOf rs))
  · rw [if_pos ⟨k, h, rfl⟩, if_pos (decide_eq_true h)]
  · rw [if_neg, if_neg (by simpa using h)]
    rintro ⟨j, hj, e⟩
    injection e with e
    exact h (Int.ofNat.inj e ▸ hj)
theorem fault_odd_no {n : Nat} {rs : List Rd} {lot : List Nat} {b : D} (h : ¬ isNumP n b) : faultD n rs lot (.tup [.str "odd", b]) = formD := by
  rw [faultD_eq, faultP, if_pos rfl, if_neg h]
theorem dP_sel {β : Type} {p : Prop} {x y : β} : (p → sel (dP p) x y = x) ∧ (¬ p → sel (dP p) x y = y) := ⟨fun h => by rw [dP_true h]; rfl, fun h => by rw [dP_false h]; rfl⟩
theorem p_all_roads {n : Nat} {rs : List Rd} (W : WF n rs) : F_all_roads [encF n rs] = some (natsT (List.range rs.length)) := by
  refine runF_of (by rfl) ?_
  have hm : rs.length ≤ LIM := lim_n W.m14 (by decide)
  rw [show startE d_all_roads [encF n rs] = [some (.val (encF n rs))] from rfl, d_all_roads]
  simp! [idxF1, len_tup, rngT_nat hm, Post_some]
theorem p_judge {n : Nat} {rs : List Rd} {lot : List Nat} {v : D} {w d : Nat} (W : WF n rs) (h : IsLot rs.length lot) (hv : Gv w d v) (hw : w ≤ 100000) :
    F_judge_ring_paper [encF n rs, rowT rs.length lot, v] = some (faultD n rs lot v) := by
  refine runF_of (by rfl) ?_
  have hm : rs.length ≤ 100 := Nat.le_trans W.m14 (by decide)
  rw [show startE d_judge_ring_paper [encF n rs, rowT rs.length lot, v] = [some (.val (encF n rs)), some (.val (rowT rs.length lot)), some (.val v), none, none, none] from rfl, d_judge_ring_paper]
  simp! [p_is_pair hv]
  by_cases hp : PairP "rings" "odd" v
  · rw [dP_true hp]
    obtain ⟨s, b, rfl, hs⟩ := hp
    have hb := hv.mem (x := b) (by simp)
    simp! [idx_t0, cmp_str]
    by_cases ho : s = "odd"
    · subst ho
      rw [sel_pos rfl]
      simp! [idx_t1, idxF0, p_is_number_of hb.sm]
      by_cases hn : isNumP n b
      · rw [dP_true hn]
        obtain ⟨c, h1, h2, h3⟩ := in_odd (rs := rs) (lot := lot) hn
        simp! [idx_t1, p_odd_crossings W h, h1, h3]
        cases c <;> simp! [Post_some] <;> rw [h3] <;> rfl
      · rw [dP_false hn]
        simp! [Post_some]
        rw [fault_odd_no hn]; rfl
    · have hs : s = "rings" := hs.resolve_right ho
      subst hs
      rw [sel_neg (by decide)]
      simp! [idx_t1, idxF1, len_tup, p_are_lots_up hb hw]
      by_cases hu : UpP (isLotP rs.length) b
      · rw [dP_true hu]
        obtain ⟨ls, rfl, hl, _⟩ := lots_up hu
        have hll := hb.len
        rw [List.length_map] at hll
        rw [fault_rings hl hu]
        simp! [idx_t1, show ls.length ≤ 1000000 by omega, enum_map]
        generalize hX : forX _ _ _ _ _ _ = X
        obtain ⟨o, ρ, s, rfl, hq⟩ := forR_of hX (fun p => .tup [natD p.2, natsT p.1]) (fun d ρ s => s = none ∧ d.filter (fun p => !decide (isRingP n rs p.1)) = [] ∧ ∃ o4 o5, ρ = [some (.val (encF n rs)), some (.val (rowT rs.length lot)), some (.val (.tup [.str "rings", .tup (ls.map natsT)])), none, o4, o5])
          (fun o ρ s => (o = .nx ∧ s = none ∧ ls.zipIdx.filter (fun p => !decide (isRingP n rs p.1)) = [] ∧ ∃ o4 o5, ρ = [some (.val (encF n rs)), some (.val (rowT rs.length lot)), some (.val (.tup [.str "rings", .tup (ls.map natsT)])), none, o4, o5]) ∨ ∃ p t, ls.zipIdx.filter (fun p => !decide (isRingP n rs p.1)) = p :: t ∧ o = .rt (.tup [.str "ring", natD p.2]))
          ls.zipIdx rfl ⟨rfl, rfl, none, none, rfl⟩ (by
            clear hX
            rintro d p r ρ s he ⟨rfl, hd, o4, o5, rfl⟩
            have hpl : p.1 ∈ ls := by
              have : p ∈ ls.zipIdx := by rw [he]; simp
              exact (List.mem_zipIdx' this).2 ▸ List.getElem_mem _
            have hpl := hl _ hpl
            have := hpl.len
            simp! [p_is_simple_ring W hpl.lt (show p.1.length ≤ 100 by omega)]
            by_cases hr : isRingP n rs p.1
            · rw [decide_eq_true hr]
              simp! [Post_some]
              exact ⟨trivial, by rw [List.filter_append, hd, List.filter_cons_of_neg (by rw [decide_eq_true hr]; simp)]; rfl, _, _, rfl⟩
            · rw [decide_eq_false hr]
              simp! [Post_some]
              exact .inr ⟨p, _, by rw [he, List.filter_append, hd, List.filter_cons_of_pos (by rw [decide_eq_false hr]; rfl)]; rfl, rfl⟩) (fun ρ s hi => .inl ⟨rfl, hi⟩)
        clear hX
        unfold ringsRes
        rcases hq with ⟨rfl, rfl, hf, o4, o5, rfl⟩ | ⟨p, t, hf, rfl⟩
        · rw [hf]
          simp! [p_all_roads W]
          generalize hX : forX _ _ _ _ _ _ = X
          obtain ⟨o, ρ, s, rfl, hq⟩ := forR_of hX natD (fun d ρ s => s = none ∧ d.filter (fun k => !decide ((ls.filter fun l => decide (k ∈ l)).length = markOf lot k)) = [] ∧ ∃ o3 o4 o5, ρ = [some (.val (encF n rs)), some (.val (rowT rs.length lot)), some (.val (.tup [.str "rings", .tup (ls.map natsT)])), o3, o4, o5])
            (fun o ρ s => (o = .nx ∧ s = none ∧ (List.range rs.length).filter (fun k => !decide ((ls.filter fun l => decide (k ∈ l)).length = markOf lot k)) = []) ∨ ∃ p t, (List.range rs.length).filter (fun k => !decide ((ls.filter fun l => decide (k ∈ l)).length = markOf lot k)) = p :: t ∧ o = .rt (.tup [.str "road", natD p]))
            (List.range rs.length) rfl ⟨rfl, rfl, none, o4, o5, rfl⟩ (by
              clear hX
              rintro d k r ρ s he ⟨rfl, hd, o3, o4, o5, rfl⟩
              have hk : k < rs.length := by rw [← List.mem_range, he]; simp
              simp! [idx_t1, show ls.length ≤ 1000000 by omega]
              generalize hX : compL _ _ _ _ _ _ _ = X
              have := filt_of hX natsT (fun l => decide (k ∈ l)) natsT ls rfl (fun l hl => by simp! [in_T]) (fun l hl _ => by simp! [])
              subst this
              clear hX
              simp! [len_lst, idx_row hk, cmp_ne]
              by_cases hr : (ls.filter fun l => decide (k ∈ l)).length = markOf lot k
              · rw [sel_npos (by omega)]
                simp! [Post_some]
                exact ⟨trivial, by rw [List.filter_append, hd, List.filter_cons_of_neg (by rw [decide_eq_true hr]; simp)]; rfl, _, _, _, rfl⟩
              · rw [sel_nneg (by omega)]
                simp! [Post_some]
                exact .inr ⟨k, _, by rw [he, List.filter_append, hd, List.filter_cons_of_pos (by rw [decide_eq_false hr]; rfl)]; rfl, rfl⟩) (fun ρ s hi => .inl ⟨rfl, hi.1, hi.2.1⟩)
          rcases hq with ⟨rfl, rfl, hf⟩ | ⟨p, t, hf, rfl⟩
          · rw [hf]
            simp! [Post_some]
          · rw [hf]
            simp! [Post_some]
        · rw [hf]
          simp! [Post_some]
      · rw [dP_false hu]
        simp! [Post_some]
        rw [fault_rings_no hu]; rfl
  · rw [dP_false hp]
    simp! [Post_some]
    rw [fault_form hp]; rfl
theorem markrow {rs : List Rd} {lot : List Nat} (h : IsLot rs.length lot) : (List.range rs.length).filter (fun k => decide (markOf lot k = 1)) = lot := by
  conv => rhs; rw [← h.eq]
  refine List.filter_congr fun k _ => decide_eq_decide.2 ?_
  unfold markOf
  split <;> simp [*]
theorem ring_head {A : Type} {l : List A} {f : A → D} : (l = [] ∧ cmpD .ne (.lst (l.map f)) (.lst []) = some false) ∨ ∃ a t, l = a :: t ∧ cmpD .ne (.lst (l.map f)) (.lst []) = some true ∧ idxD (.lst (l.map f)) (.int 0) = some (f a) := by
  cases l with
  | nil => exact .inl ⟨rfl, rfl⟩
  | cons a t => exact .inr ⟨a, t, rfl, rfl, idx_l0⟩
theorem p_law_fault {n : Nat} {rs : List Rd} {lot : List Nat} {v : D} {w d : Nat} (W : WF n rs) (h : IsLot rs.length lot) (hv : Gv w d v) (hw : w ≤ 90000) :
    F_law_fault [encF n rs, rowT rs.length lot, v] = some (faultD n rs lot v) := by
  refine runF_of (by rfl) ?_
  have hm : rs.length ≤ 100 := Nat.le_trans W.m14 (by decide)
  have hm2 : rs.length ≤ LIM := lim_n W.m14 (by decide)
  rw [show startE d_law_fault [encF n rs, rowT rs.length lot, v] = [some (.val (encF n rs)), some (.val (rowT rs.length lot)), some (.val v), none, none, none, none, none] from rfl, d_law_fault]
  simp! [idxF1, len_tup, p_law_is_pair hv]
  by_cases hp : PairP "rings" "odd" v
  · rw [dP_true hp]
    obtain ⟨s, b, rfl, hs⟩ := hp
    have hb := hv.mem (x := b) (by simp)
    simp! [idx_t0, cmp_str]
    by_cases ho : s = "odd"
    · subst ho
      rw [sel_pos rfl]
      have hg : Gv (w + 1) (d + 1) (.tup [b]) := by
        have h1 := hb.wt
        have h2 := hb.dep
        refine ⟨?_, ?_, ?_⟩
        · rw [smallI, smallL, hb.sm]; rfl
        · rw [Mini.wt, wtL, wtL]; omega
        · rw [Mini.dep, depL, depL]; omega
      have he : dP (isLotP n (.tup [b])) = dP (isNumP n b) := by
        congr 1
        rw [← isLotP_iff]
        refine propext ⟨?_, fun k => ⟨[b], rfl, fun x hx => by rw [List.mem_singleton] at hx; rw [hx]; exact k, List.pairwise_singleton _ _⟩⟩
        rintro ⟨xs, e, k, _⟩
        cases e
        exact k b (by simp)
      simp! [idx_t1, idxF0, p_law_is_lot hg (by omega), he]
      by_cases hn : isNumP n b
      · rw [dP_true hn]
        obtain ⟨c, h1, h2, h3⟩ := in_odd (rs := rs) (lot := lot) hn
        simp! [idx_t1, rangeO_nat hm2, show rs.length ≤ 1000000 from hm2]
        generalize hX : compL _ _ _ _ _ _ _ = X
        have := filt_of hX natD (fun k => decide (markOf lot k = 1)) natD (List.range rs.length) rfl (fun k hk => by
          simp! [idx_row (List.mem_range.1 hk), cmp_eq]
          congr 2
          exact decide_eq_decide.2 (by omega)) (fun k hk _ => by simp! [])
        subst this
        clear hX
        rw [markrow h]
        simp! [idx_t1, p_law_odd W h.lt (lot_lst lot), h2]
        cases c <;> simp! [Post_some] <;> rw [h3] <;> rfl
      · rw [dP_false hn]
        simp! [Post_some]
        rw [fault_odd_no hn]; rfl
    · have hs : s = "rings" := hs.resolve_right ho
      subst hs
      rw [sel_neg (by decide)]
      simp! [idx_t1, isTy_tup hb.sm]
      by_cases ht : ∃ xs, b = .tup xs
      · obtain ⟨xs, rfl⟩ := ht
        have hxl := hb.len
        simp! [isTupB_t, idx_t1, show xs.length ≤ 1000000 by omega]
        generalize hX : compL _ _ _ _ _ _ _ = X
        have := filt_of hX id (fun x => !dP (isLotP rs.length x)) (fun _ => .int 1) xs (List.map_id xs).symm (fun x hx => by
          have hs := hb.mem hx
          simp! [id, p_law_is_lot hs (by omega)]) (fun x hx _ => by unfold id; simp! [])
        subst this
        clear hX
        simp! [cmp_ne_nilL, List.isEmpty_map]
        by_cases ha : (xs.filter fun x => !dP (isLotP rs.length x)).isEmpty = true
        · rw [ha]
          have hP : ∀ x ∈ xs, isLotP rs.length x := fun x hx => Classical.byContradiction fun k => by
            have : x ∈ xs.filter fun x => !dP (isLotP rs.length x) := List.mem_filter.2 ⟨hx, by rw [dP_false k]; rfl⟩
            rw [List.isEmpty_iff.1 ha] at this
            cases this
          simp! [idx_t1, len_tup, range_one (show xs.length ≤ 1000000 by omega), show xs.length - 1 ≤ 1000000 by omega]
          generalize hX : compL _ _ _ _ _ _ _ = X
          obtain ⟨l, rfl, hl⟩ := up_comp (ord_lot rs.length) hP hX (fun k a b ha hb => by
            obtain ⟨c, _, hc⟩ := (ord_lot rs.length).tell a b (hP _ (List.mem_of_getElem? ha)) (hP _ (List.mem_of_getElem? hb))
            simp! [idx_t1, idx_up1 hb, idx_up0 ha, show cmpD .le b a = leD b a from rfl, hc]
            rfl) (fun k => by simp! [])
          clear hX
          simp! [cmp_ne_nilL, hl]
          by_cases hu : UpP (isLotP rs.length) (.tup xs)
          · rw [dP_true hu]
            obtain ⟨ls, e, hls, _⟩ := lots_up hu
            cases e
            rw [List.length_map] at hxl
            rw [fault_rings hls hu]
            unfold ringsRes
            simp! [idx_t1, show ls.length ≤ 1000000 by omega, enum_map, List.length_zipIdx]
            generalize hX : compL _ _ _ _ _ _ _ = X
            have := filt_of hX (fun p => .tup [natD p.2, natsT p.1]) (fun p => !decide (isRingP n rs p.1)) (fun p => natD p.2) ls.zipIdx rfl (fun p hp => by
              have hpl : p.1 ∈ ls := (List.mem_zipIdx' hp).2 ▸ List.getElem_mem _
              simp! [p_law_is_ring W (hls _ hpl)]) (fun p hp _ => by simp! [])
            subst this
            clear hX
            rcases ring_head (l := ls.zipIdx.filter fun p => !decide (isRingP n rs p.1)) (f := fun p => natD p.2) with ⟨e1, e2⟩ | ⟨p, t, e1, e2, e3⟩
            · simp! [e2, rangeO_nat hm2, show rs.length ≤ 1000000 from hm2]
              generalize hX : compL _ _ _ _ _ _ _ = X
              have := filt_of hX natD (fun k => !decide ((ls.filter fun l => decide (k ∈ l)).length = markOf lot k)) natD (List.range rs.length) rfl (fun k hk => by
                simp! [idx_t1, show ls.length ≤ 1000000 by omega]
                generalize hX : compL _ _ _ _ _ _ _ = X
                have := filt_of hX natsT (fun l => decide (k ∈ l)) natsT ls rfl (fun l hl => by simp! [in_T]) (fun l hl _ => by simp! [])
                subst this
                clear hX
                simp! [len_lst, idx_row (List.mem_range.1 hk), cmp_ne]
                refine congrArg (fun b => some (!b, (none : S))) (decide_eq_decide.2 (by omega))) (fun k hk _ => by simp! [])
              subst this
              clear hX
              rw [e1]
              rcases ring_head (l := (List.range rs.length).filter fun k => !decide ((ls.filter fun l => decide (k ∈ l)).length = markOf lot k)) (f := natD) with ⟨e1, e2⟩ | ⟨p, t, e1, e2, e3⟩
              · simp! [e2, Post_some]
                rw [e1]
              · simp! [e2, e3, Post_some]
                rw [e1]
            · simp! [e2, e3, Post_some]
              rw [e1]
          · rw [dP_false hu]
            simp! [Post_some]
            rw [fault_rings_no hu]; rfl
        · rw [Bool.not_eq_true] at ha
          rw [ha]
          simp! [Post_some]
          rw [fault_rings_no]; rfl
          rintro ⟨ys, e, hy, _⟩
          cases e
          obtain ⟨x, hx⟩ := List.isEmpty_eq_false_iff_exists_mem.1 ha
          obtain ⟨h1, h2⟩ := List.mem_filter.1 hx
          rw [dP_true (hy x h1)] at h2
          cases h2
      · have e : isTupB b = false := by
          cases hb : isTupB b with
          | false => rfl
          | true => exact absurd (isTupB_iff.1 hb) ht
        rw [e]
        simp! [Post_some]
        rw [fault_rings_no]; rfl
        rintro ⟨xs, e, _⟩
        exact ht ⟨xs, e⟩
  · rw [dP_false hp]
    simp! [Post_some]
    rw [fault_form hp]; rfl
end K80

/-! ## K80k -/
set_option autoImplicit false
set_option linter.all false
set_option Elab.async false
set_option maxHeartbeats 2000000
namespace K80
open Mini Gr
theorem p_pick {S0 : Src} {many : Int} (h : Sok S0) (hm : many < 1000000000) : Dr (G_law_pick S0 [.int many]) fun r => ∃ k : Nat, r = natD k ∧ ((k : Int) < many ∨ k = 0) := pick_ok h hm
theorem p_pickN {S0 : Src} {many : Nat} (h : Sok S0) (h1 : 1 ≤ many) (hm : many < 1000000000) : Dr (G_law_pick S0 [.int (many : Int)]) fun r => ∃ k : Nat, r = natD k ∧ k < many := by
  obtain ⟨r, S1, e, hS, k, rfl, hk⟩ := p_pick (many := (many : Int)) h (by omega)
  exact ⟨_, S1, e, hS, k, rfl, by omega⟩
theorem p_of {S0 : Src} {xs : List D} (h : Sok S0) (hx : xs ≠ []) (hl : xs.length ≤ 1000000) : Dr (G_law_of S0 [.lst xs]) fun r => r ∈ xs := of_ok h hx hl
theorem still_R (r : Rd) : still (encR r) = true := rfl
theorem rev_R (r : Rd) : revD (encR r) = some (encR (r.2, r.1)) := rfl
theorem p_law_frame {S0 : Src} {most many : Nat} (h : Sok S0) (h1 : 1 ≤ most) (h2 : most ≤ 8) (h3 : 1 ≤ many) (h4 : many ≤ 14) :
    Dr (G_law_frame S0 [natD most, .int 1, natD many]) fun r => ∃ n rs, r = encF n rs ∧ WF n rs := by
  refine runG_of (by rfl) ?_
  rw [show (none :: startE ⟨d_law_frame.names - 1, d_law_frame.args - 1, d_law_frame.body⟩ [natD most, .int 1, natD many]) = [none, some (.val (natD most)), some (.val (.int 1)), some (.val (natD many)), none, none, none, none, none] from rfl, d_law_frame]
  simp! []
  obtain ⟨_, S1, e1, hS1, k1, rfl, hk1⟩ := p_pickN (many := most) h h1 (by omega)
  simp! [e1]
  obtain ⟨_, S2, e2, hS2, k2, rfl, hk2⟩ := p_pick (many := (many : Int) - 1 + 1) hS1 (by omega)
  simp! [e2]
  have hL : 1 + k2 ≤ many := by omega
  generalize hn : 1 + k1 = n
  have en : (1 : Int) + (k1 : Int) = (n : Int) := by omega
  have eL : (1 : Int) + (k2 : Int) = ((1 + k2 : Nat) : Int) := by omega
  rw [en, eL]
  simp! [rangeO_nat (show 1 + k2 ≤ LIM from Nat.le_trans (show 1 + k2 ≤ 14 by omega) (by decide))]
  generalize hX : forX _ _ _ _ _ _ = X
  obtain ⟨ρ', s', rfl, rs, S3, o4, o7, o8, rfl, rfl, hS3, hlen, hrs⟩ := for_of hX natD (fun d ρ s => ∃ (rs : List Rd) (S : Src) (o4 o7 o8 : Option Slot), ρ = [none, some (.val (natD most)), some (.val (.int 1)), some (.val (natD many)), o4, some (.val (natD n)), some (.own (rs.map encR)), o7, o8] ∧ s = some S ∧ Sok S ∧ rs.length = d.length ∧ ∀ e ∈ rs, e.1 < n ∧ e.2 < n) (List.range (1 + k2)) rfl ⟨[], S2, none, none, none, rfl, rfl, hS2, rfl, fun _ h => nomatch h⟩ (by
    clear hX
    rintro d lp r ρ s hd ⟨rs, S, o4, o7, o8, rfl, rfl, hS, hlen, hrs⟩
    have hdl : d.length + 1 ≤ 14 := by
      have := congrArg List.length hd
      rw [List.length_range, List.length_append, List.length_cons] at this
      omega
    have cont : ∀ (way : Nat) (r : Rd) (S : Src), Sok S → r.1 < n ∧ r.2 < n → Post (runL (fun ρ st s => stepS (ev [] [G_law_pick, G_law_of] 40) (ex [] [G_law_pick, G_law_of] 40 18) ρ st s)
        [.iff (.and (.cmp .in_ (.var 7) (.tup [(.int 1), (.int 2), (.int 3)])) (.cmp .eq (.idx (.var 8) (.int 0)) (.idx (.var 8) (.int 1)))) [.set 8 (.tup [(.idx (.var 8) (.int 0)), (.bin .mod (.f1 .int (.bin .add (.idx (.var 8) (.int 1)) (.int 1))) (.var 5))])] [],
          .append 6 (.var 8)] [none, some (.val (natD most)), some (.val (.int 1)), some (.val (natD many)), some (.val (natD lp)), some (.val (natD n)), some (.own (rs.map encR)), some (.val (natD way)), some (.val (encR r))] (some S))
        fun o ρ s => (o = .nx ∨ o = .ct) ∧ ∃ (rs : List Rd) (S : Src) (o4 o7 o8 : Option Slot), ρ = [none, some (.val (natD most)), some (.val (.int 1)), some (.val (natD many)), o4, some (.val (natD n)), some (.own (rs.map encR)), o7, o8] ∧ s = some S ∧ Sok S ∧ rs.length = (d ++ [lp]).length ∧ ∀ e ∈ rs, e.1 < n ∧ e.2 < n := by
      intro way r S hS hr
      have e0 : idxD (encR r) (.int 0) = some (natD r.1) := rfl
      have e1 : idxD (encR r) (.int 1) = some (natD r.2) := rfl
      simp! [show cmpD .in_ (natD way) (.tup [.int 1, .int 2, .int 3]) = some (decide (way ∈ [1, 2, 3])) from in_T way [1, 2, 3]]
      rw [selB (c := decide ((r.1 : Int) = r.2)) (fun _ => by simp! [e0, e1, cmp_eq])]
      simp! []
      have fin : ∀ (r' : Rd), r'.1 < n ∧ r'.2 < n → (rs ++ [r']).length = (d ++ [lp]).length ∧ ∀ e ∈ rs ++ [r'], e.1 < n ∧ e.2 < n := fun r' h => by
        refine ⟨by rw [List.length_append, List.length_append, hlen]; rfl, fun e he => ?_⟩
        rcases List.mem_append.1 he with he | he
        · exact hrs e he
        · rw [List.mem_singleton] at he; rw [he]; exact h
      cases (decide (way ∈ [1, 2, 3]) && decide ((r.1 : Int) = r.2)) with
      | true =>
        simp! [e0, e1, int_int, mod_int (show (0 : Int) < (n : Int) by omega), show rs.length + 1 ≤ 1000000 by omega, Post_some]
        have hm : ((r.2 : Int) + 1) % (n : Int) = (((r.2 + 1) % n : Nat) : Int) := by
          rw [Int.natCast_emod]; rfl
        rw [hm]
        have em : rs.map encR ++ [D.tup [natD r.1, natD ((r.2 + 1) % n)]] = (rs ++ [(r.1, (r.2 + 1) % n)]).map encR := by rw [List.map_append]; rfl
        rw [em]
        exact ⟨.inl trivial, rs ++ [(r.1, (r.2 + 1) % n)], S, _, _, _, rfl, rfl, hS, by simp [hlen], (fin (r.1, (r.2 + 1) % n) ⟨hr.1, Nat.mod_lt _ (by omega)⟩).2⟩
      | false =>
        simp! [show rs.length + 1 ≤ 1000000 by omega, Post_some]
        have em : rs.map encR ++ [encR r] = (rs ++ [r]).map encR := by rw [List.map_append]; rfl
        rw [em]
        exact ⟨.inl trivial, rs ++ [r], S, _, _, _, rfl, rfl, hS, by simp [hlen], (fin r hr).2⟩
    simp! []
    obtain ⟨_, S1, e1, hS1, way, rfl, hway⟩ := p_pick (many := 8) hS (by omega)
    simp! [e1]
    obtain ⟨_, S2, e2, hS2, a, rfl, ha⟩ := p_pickN (many := n) hS1 (by omega) (by omega)
    simp! [e2]
    obtain ⟨_, S3, e3, hS3, b, rfl, hb⟩ := p_pickN (many := n) hS2 (by omega) (by omega)
    simp! [e3, cmp_eq]
    rw [selB (c := !rs.isEmpty) (fun _ => by simp! [cmp_ne_nilL, List.isEmpty_map])]
    simp! []
    cases hc : (decide ((way : Int) = 0) && !rs.isEmpty) with
    | false =>
      simp! []
      exact cont way (a, b) S3 hS3 ⟨ha, hb⟩
    | true =>
      rw [Bool.and_eq_true] at hc
      have hne : rs.map encR ≠ [] := fun k => by rw [List.map_eq_nil_iff.1 k] at hc; exact nomatch hc.2
      simp! []
      obtain ⟨r1, S4, e4, hS4, hr1⟩ := p_of hS3 hne (by rw [List.length_map]; omega)
      obtain ⟨q1, hq1, rfl⟩ := List.mem_map.1 hr1
      simp! [e4, still_R]
      obtain ⟨r2, S5, e5, hS5, hr2⟩ := p_of hS4 hne (by rw [List.length_map]; omega)
      obtain ⟨q2, hq2, rfl⟩ := List.mem_map.1 hr2
      simp! [e5, still_R, rev_R]
      obtain ⟨r3, S6, e6, hS6, hr3⟩ := p_of (xs := [encR q1, encR (q2.2, q2.1)]) hS5 (by simp) (by simp)
      simp! [e6]
      have h1 := hrs _ hq1
      have h2 := hrs _ hq2
      rcases List.mem_cons.1 hr3 with rfl | hr3
      · exact cont way q1 S6 hS6 h1
      · rw [List.mem_singleton] at hr3
        subst hr3
        exact cont way (q2.2, q2.1) S6 hS6 ⟨h2.2, h2.1⟩)
  simp! [Post_some, tuple_lst]
  refine ⟨_, _, rfl, rfl, hS3, n, rs, rfl, ?_⟩
  rw [List.length_range] at hlen
  exact ⟨by omega, by omega, by omega, by omega, hrs⟩
end K80

/-! ## K80l -/
set_option autoImplicit false
set_option linter.all false
set_option Elab.async false
set_option maxHeartbeats 2000000
namespace K80
open Mini Gr
theorem drawn_sub {xs : List Nat} : ∀ {vs : List (Option D)}, vs.length = xs.length → (∀ p ∈ xs.zip vs, p.2 = none ∨ p.2 = some (natD p.1)) → ∃ l : List Nat, l.Sublist xs ∧ vs.filterMap id = l.map natD := by
  induction xs with
  | nil => intro vs h _; rw [List.length_eq_zero_iff.1 h]; exact ⟨[], .slnil, rfl⟩
  | cons x xs ih =>
    intro vs h hq
    cases vs with
    | nil => cases h
    | cons v vs =>
      obtain ⟨l, h1, h2⟩ := ih (vs := vs) (Nat.succ.inj h) fun p hp => hq p (by rw [List.zip_cons_cons]; exact List.mem_cons_of_mem _ hp)
      have hv := hq (x, v) (by rw [List.zip_cons_cons]; exact List.mem_cons_self ..)
      rcases hv with hv | hv
      · have hv : v = none := hv
        subst hv
        exact ⟨l, .cons _ h1, by rw [List.filterMap_cons]; exact h2⟩
      · have hv : v = some (natD x) := hv
        subst hv
        exact ⟨x :: l, .cons₂ _ h1, by rw [List.filterMap_cons]; show natD x :: vs.filterMap id = _; rw [h2]; rfl⟩
theorem sub_lot {m : Nat} {l : List Nat} (h : l.Sublist (List.range m)) : IsLot m l := ⟨(range_up m).sublist h, fun k hk => List.mem_range.1 (h.subset hk)⟩
theorem p_law_some_lot {S0 : Src} {m : Nat} (h : Sok S0) (hm : m ≤ 100) : Dr (G_law_some_lot S0 [natD m]) fun r => ∃ l, r = natsT l ∧ IsLot m l := by
  refine runG_of (by rfl) ?_
  have hn : m ≤ LIM := lim_n hm (by decide)
  rw [show (none :: startE ⟨d_law_some_lot.names - 1, d_law_some_lot.args - 1, d_law_some_lot.body⟩ [natD m]) = [none, some (.val (natD m)), none, none] from rfl, d_law_some_lot]
  simp! []
  obtain ⟨sh, S1, e1, hS1, hsh⟩ := p_of (xs := [D.int 1, .int 2, .int 3]) h (by simp) (by simp)
  have hsh : ∃ i : Int, sh = .int i := by
    simp only [List.mem_cons, List.not_mem_nil, or_false] at hsh
    rcases hsh with rfl | rfl | rfl <;> exact ⟨_, rfl⟩
  obtain ⟨i, rfl⟩ := hsh
  simp! [e1, rangeO_nat hn, show m ≤ 1000000 from hn]
  generalize hX : compL _ _ _ _ _ _ _ = X
  obtain ⟨vs, s', rfl, ⟨S2, rfl, hS2⟩, hvl, hvq⟩ := comp_dr hX natD (fun s => ∃ S2, s = some S2 ∧ Sok S2) (fun a v => v = none ∨ v = some (natD a)) (List.range m) rfl ⟨S1, rfl, hS1⟩ (by
    clear hX
    rintro a ha s ⟨S2, rfl, hS2⟩
    simp! [itemL]
    obtain ⟨_, S3, e3, hS3, k, rfl, hk⟩ := p_pick (many := 4) hS2 (by omega)
    simp! [e3, cmp_lt]
    cases decide ((k : Int) < i) with
    | true => simp! []; exact ⟨_, _, rfl, ⟨_, rfl, hS3⟩, .inr rfl⟩
    | false => simp! []; exact ⟨_, _, rfl, ⟨_, rfl, hS3⟩, .inl rfl⟩)
  obtain ⟨l, h1, h2⟩ := drawn_sub hvl hvq
  rw [h2]
  simp! [tuple_lst, Post_some]
  exact ⟨_, _, rfl, rfl, hS2, l, rfl, sub_lot h1⟩
/-! a dict of numbers below m -/
abbrev dicT (m : Nat) (f : Nat → Nat) : List (D × D) := (List.range m).map fun k => (natD k, natD (f k))
theorem natD_inj {a b : Nat} : natD a = natD b ↔ a = b := ⟨fun h => by injection h with h; exact Int.ofNat.inj h, fun h => by rw [h]⟩
theorem look_l {l : List Nat} {f : Nat → Nat} {k : Nat} (h : k ∈ l) : look (natD k) (l.map fun k => (natD k, natD (f k))) = some (natD (f k)) := by
  induction l with
  | nil => cases h
  | cons a l ih =>
    rw [List.map_cons, look]
    by_cases ha : a = k
    · subst ha; rw [if_pos rfl]
    · rw [if_neg fun e => ha (natD_inj.1 e)]
      exact ih ((List.mem_cons.1 h).resolve_left fun e => ha e.symm)
theorem look_T {m k : Nat} {f : Nat → Nat} (h : k < m) : idxD (.dic (dicT m f)) (natD k) = some (natD (f k)) := by
  show (if keyD (natD k) then look (natD k) (dicT m f) else none) = _
  rw [if_pos (show keyD (natD k) = true from rfl)]
  exact look_l (List.mem_range.2 h)
theorem put_T {m k : Nat} {f : Nat → Nat} (h : k < m) (v : Nat) : putK (natD k) (natD v) (dicT m f) = dicT m fun j => if j = k then v else f j := by
  unfold putK
  rw [if_pos]
  · rw [List.map_map]
    refine List.map_congr_left fun j _ => ?_
    show (if natD j = natD k then (natD j, natD v) else (natD j, natD (f j))) = (natD j, natD (if j = k then v else f j))
    by_cases hj : j = k
    · subst hj; rw [if_pos rfl, if_pos rfl]
    · rw [if_neg fun e => hj (natD_inj.1 e), if_neg hj]
  · rw [List.any_eq_true]
    exact ⟨(natD k, natD (f k)), List.mem_map.2 ⟨k, List.mem_range.2 h, rfl⟩, decide_eq_true rfl⟩
theorem merge_new : ∀ (r kvs : List (D × D)), (∀ p ∈ r, ∀ q ∈ kvs, q.1 ≠ p.1) → r.Pairwise (fun p q => p.1 ≠ q.1) → mergeD kvs r = kvs ++ r
  | [], kvs, _, _ => by rw [mergeD, List.append_nil]
  | (k, v) :: r, kvs, h, hp => by
    obtain ⟨hp1, hp2⟩ := List.pairwise_cons.1 hp
    have e : putK k v kvs = kvs ++ [(k, v)] := by
      unfold putK
      rw [if_neg]
      intro hc
      obtain ⟨q, hq, hd⟩ := List.any_eq_true.1 hc
      exact h (k, v) (List.mem_cons_self ..) q hq (of_decide_eq_true hd)
    rw [mergeD, e, merge_new r _ ?_ hp2, List.append_assoc]; rfl
    intro p hpr q hq
    rcases List.mem_append.1 hq with hq | hq
    · exact h p (List.mem_cons_of_mem _ hpr) q hq
    · rw [List.mem_singleton] at hq; subst hq; exact hp1 p hpr
theorem pairs_map (l : List Nat) (f : Nat → Nat) : pairsD (l.map fun k => .tup [natD k, natD (f k)]) = some (l.map fun k => (natD k, natD (f k))) := by
  induction l with
  | nil => rfl
  | cons a l ih =>
    rw [List.map_cons, pairsD, if_pos (show keyD (natD a) = true from rfl), ih]; rfl
theorem dict_T {m : Nat} {f : Nat → Nat} (h : m ≤ 1000000) : f1D .dict (.lst ((List.range m).map fun k => .tup [natD k, natD (f k)])) = some (.dic (dicT m f)) := by
  have e : ∀ xs, f1D .dict (.lst xs) = (pairsD xs).bind fun kvs => if xs.length ≤ LIM then some (.dic (mergeD [] kvs)) else none := fun _ => (rfl)
  rw [e, pairs_map, Option.bind_some, if_pos (by rw [List.length_map, List.length_range]; exact h), merge_new _ _ (fun p hp q hq => absurd hq List.not_mem_nil), List.nil_append]
  exact List.pairwise_map.2 ((range_up m).imp fun {a b} hab e => by have := natD_inj.1 e; omega)
theorem keys_T {m : Nat} {f : Nat → Nat} : f1D .list (.dic (dicT m f)) = some (natsL (List.range m)) := by
  show some (D.lst ((dicT m f).map (·.1))) = _
  rw [List.map_map]; rfl
theorem sorted_T {m : Nat} {f : Nat → Nat} (h : m ≤ 63) : f1D .sorted (.dic (dicT m f)) = some (natsL (List.range m)) := by
  have e : ∀ kvs, f1D .sorted (.dic kvs) = match intsOf (kvs.map (·.1)) with
    | some is => if false || decide (63 < is.length) then none else some (intsD (sortI is))
    | none => none := fun _ => (rfl)
  have e2 : (dicT m f).map (·.1) = (List.range m).map natD := by rw [List.map_map]; rfl
  rw [e, e2, ints_nat]
  show (if false || decide (63 < (castL (List.range m)).length) then none else some (intsD (sortI (castL (List.range m))))) = _
  have h3 : (false || decide (63 < (castL (List.range m)).length)) = false := by
    rw [Bool.false_or, List.length_map, List.length_range]; exact decide_eq_false (by omega)
  rw [h3, if_neg (by decide), sortI_nats List.nodup_range (fun k hk => List.mem_range.1 hk)]
  have : (List.range m).filter (fun k => decide (k ∈ List.range m)) = List.range m := List.filter_eq_self.2 fun k hk => decide_eq_true hk
  rw [this]
  unfold intsD
  rw [List.map_map]; rfl
theorem key_nat (k : Nat) : keyD (natD k) = true := rfl
theorem p_law_even_lot {S0 : Src} {n : Nat} {rs : List Rd} (h : Sok S0) (W : WF n rs) : Dr (G_law_even_lot S0 [encF n rs]) fun r => ∃ l, r = natsT l ∧ IsLot rs.length l := by
  refine runG_of (by rfl) ?_
  have hm := W.m14
  have hn8 := W.n8
  have hn1 := W.n1
  have hm2 : rs.length ≤ LIM := lim_n W.m14 (by decide)
  have hm3 : rs.length < 1000000 := by omega
  rw [show (none :: startE ⟨d_law_even_lot.names - 1, d_law_even_lot.args - 1, d_law_even_lot.body⟩ [encF n rs]) = [none, some (.val (encF n rs)), none, none, none, none, none, none, none, none, none, none] from rfl, d_law_even_lot]
  simp! [idxF1, len_tup, rangeO_nat hm2, show rs.length ≤ 1000000 from hm2]
  generalize hX : compL _ _ _ _ _ _ _ = X
  have := map_of hX natD (fun k => .tup [natD k, natD 0]) (List.range rs.length) rfl (fun k hk => by simp! []; rfl)
  subst this
  clear hX
  simp! [dict_T (f := fun _ => 0) (show rs.length ≤ 1000000 from hm2), show rangeO (.int 0) (.int 4) = some ((List.range 4).map natD) from rangeO_nat (n := 4) (by decide)]
  generalize hX : forX _ _ _ _ _ _ = X
  obtain ⟨ρ', s', rfl, f, S3, o3, o4, o5, o6, o7, o8, o9, o10, o11, rfl, rfl, hS3, hf⟩ := for_of hX natD (fun d ρ s => ∃ (f : Nat → Nat) (S : Src) (o3 o4 o5 o6 o7 o8 o9 o10 o11 : Option Slot), ρ = [none, some (.val (encF n rs)), some (.ownd (dicT rs.length f)), o3, o4, o5, o6, o7, o8, o9, o10, o11] ∧ s = some S ∧ Sok S ∧ ∀ k, f k ≤ 1) (List.range 4) rfl ⟨fun _ => 0, S0, none, none, none, none, none, none, none, none, none, rfl, rfl, h, fun _ => Nat.zero_le _⟩ (by
    clear hX
    rintro d lap r ρ s hd ⟨f, S, o3, o4, o5, o6, o7, o8, o9, o10, o11, rfl, rfl, hS, hf⟩
    simp! [idxF0]
    obtain ⟨_, S1, e1, hS1, here, rfl, hh⟩ := p_pickN (many := n) hS W.n1 (by omega)
    simp! [e1, keys_T]
    generalize hX : whileX _ _ _ _ _ _ _ = X
    obtain ⟨ρ', s', rfl, gone, met, left, here, S2, o9, o10, rfl, rfl, hS2, hg, hlen, hmt⟩ := while_of hX (fun k ρ s => ∃ (gone met left : List Nat) (here : Nat) (S : Src) (o9 o10 : Option Slot), ρ = [none, some (.val (encF n rs)), some (.ownd (dicT rs.length f)), some (.val (natD lap)), o4, some (.val (natD here)), some (.own (gone.map natD)), some (.own (met.map natD)), some (.own (left.map natD)), o9, o10, o11] ∧ s = some S ∧ Sok S ∧ k = left.length ∧ here < n ∧ (∀ r ∈ gone, r < rs.length) ∧ met.length = gone.length + 1 ∧ (∀ r ∈ left, r < rs.length) ∧ gone.length + left.length ≤ rs.length ∧ True)
      (fun ρ s => ∃ (gone met left : List Nat) (here : Nat) (S : Src) (o9 o10 : Option Slot), ρ = [none, some (.val (encF n rs)), some (.ownd (dicT rs.length f)), some (.val (natD lap)), o4, some (.val (natD here)), some (.own (gone.map natD)), some (.own (met.map natD)), some (.own (left.map natD)), o9, o10, o11] ∧ s = some S ∧ Sok S ∧ (∀ r ∈ gone, r < rs.length) ∧ met.length = gone.length + 1 ∧ gone.length ≤ rs.length)
      rs.length (by omega) ⟨[], [here], List.range rs.length, here, S1, o9, o10, rfl, rfl, hS1, by rw [List.length_range], hh, (fun _ h => nomatch h), rfl, (fun r hr => List.mem_range.1 hr), by rw [List.length_range]; exact Nat.le_of_eq (Nat.zero_add _), trivial⟩ (by
        clear hX
        rintro k ρ s ⟨gone, met, left, here, S, o9, o10, rfl, rfl, hS, rfl, hh, hg, hlen, hleft, hgl, _⟩
        refine ⟨!left.isEmpty, some S, ?_, ?_, ?_⟩
        · unfold testX
          simp! [cmp_ne_nilL, List.isEmpty_map]
        · intro ht
          have hne : left ≠ [] := by rintro rfl; cases ht
          have hlp := List.length_pos_iff.2 hne
          simp! [show left.length ≤ 1000000 by omega]
          generalize hX : compL _ _ _ _ _ _ _ = X
          have := filt_of hX natD (fun r => decide (here ∈ [(rdOf rs r).1, (rdOf rs r).2])) natD left rfl (fun r hr => by
            simp! [idxF1, idx_rd (hleft r hr), inr]) (fun r hr _ => by simp! [])
          subst this
          clear hX
          generalize hsm : left.filter (fun r => decide (here ∈ [(rdOf rs r).1, (rdOf rs r).2])) = sm
          simp! [cmp_ne_nilL, List.isEmpty_map]
          cases hsme : sm.isEmpty with
          | true =>
            simp! [Post_some, cmp_ne_nilL, List.isEmpty_map, hsme]
            exact ⟨.inl trivial, 0, hlp, gone, met, [], here, S, _, o10, rfl, rfl, hS, rfl, hh, hg, hlen, (fun _ h => nomatch h), by simp; omega, trivial⟩
          | false =>
            simp! [cmp_ne_nilL, List.isEmpty_map, hsme]
            have hsmne : sm.map natD ≠ [] := fun k => by rw [List.map_eq_nil_iff.1 k] at hsme; cases hsme
            have hsml : sm.length ≤ left.length := by rw [← hsm]; exact List.length_filter_le _ _
            obtain ⟨r1, S4, e4, hS4, hr1⟩ := p_of hS hsmne (by rw [List.length_map]; omega)
            obtain ⟨q1, hq1, rfl⟩ := List.mem_map.1 hr1
            rw [← hsm, List.mem_filter, decide_eq_true_iff] at hq1
            simp only [List.mem_cons, List.not_mem_nil, or_false] at hq1
            simp! [e4]
            rw [s_remove (j := (q1 : Int)) (s2 := some S4) (xs := left.map natD) (l := castL left) (by simp! []) (by simp! []) (ints_nat _), remove_nat hq1.1]
            have hqm := hleft _ hq1.1
            have hrd := W.rd hqm
            have hel : (left.erase q1).length = left.length - 1 := List.length_erase_of_mem hq1.1
            simp! [show gone.length + 1 ≤ 1000000 by omega, show met.length + 1 ≤ 1000000 by omega, idxF1, idx_rd hqm, show idxD (encR (rdOf rs q1)) (.int 0) = some (natD (rdOf rs q1).1) from rfl, show idxD (encR (rdOf rs q1)) (.int 1) = some (natD (rdOf rs q1).2) from rfl, Post_some]
            have eh : ((rdOf rs q1).1 : Int) + (rdOf rs q1).2 - here = (((rdOf rs q1).1 + (rdOf rs q1).2 - here : Nat) : Int) := by omega
            rw [eh]
            have em1 : gone.map natD ++ [natD q1] = (gone ++ [q1]).map natD := by rw [List.map_append]; rfl
            have em2 : met.map natD ++ [natD ((rdOf rs q1).1 + (rdOf rs q1).2 - here)] = (met ++ [(rdOf rs q1).1 + (rdOf rs q1).2 - here]).map natD := by rw [List.map_append]; rfl
            rw [em1, em2]
            refine ⟨.inl trivial, left.length - 1, by omega, gone ++ [q1], met ++ [(rdOf rs q1).1 + (rdOf rs q1).2 - here], left.erase q1, (rdOf rs q1).1 + (rdOf rs q1).2 - here, S4, _, _, rfl, rfl, hS4, hel.symm, by omega, ?_, ?_, fun r hr => hleft r (List.mem_of_mem_erase hr), ?_, trivial⟩
            · intro r hr
              rcases List.mem_append.1 hr with hr | hr
              · exact hg r hr
              · rw [List.mem_singleton] at hr; rw [hr]; exact hqm
            · rw [List.length_append, List.length_append, hlen]; rfl
            · rw [List.length_append, hel, List.length_singleton]; omega
        · intro _
          exact ⟨gone, met, left, here, S, o9, o10, rfl, rfl, hS, hg, hlen, by omega⟩)
    clear hX
    simp! [len_lst, range_pred (show met.length ≤ 1000000 by omega)]
    generalize hX : forX _ _ _ _ _ _ = X
    obtain ⟨ρ', s', rfl, f, S5, o4, o10, o11, rfl, rfl, hS5, hf⟩ := for_of hX natD (fun d ρ s => ∃ (f : Nat → Nat) (S : Src) (o4 o10 o11 : Option Slot), ρ = [none, some (.val (encF n rs)), some (.ownd (dicT rs.length f)), some (.val (natD lap)), o4, some (.val (natD here)), some (.own (gone.map natD)), some (.own (met.map natD)), some (.own (left.map natD)), o9, o10, o11] ∧ s = some S ∧ Sok S ∧ ∀ k, f k ≤ 1) (List.range (met.length - 1)) rfl ⟨f, S2, o4, o10, o11, rfl, rfl, hS2, hf⟩ (by
      clear hX
      rintro d k r ρ s he ⟨f, S, o4, o10, o11, rfl, rfl, hS, hf⟩
      have hk : k < met.length - 1 := by rw [← List.mem_range, he]; simp
      have ek := List.getElem?_eq_getElem (l := met) (i := k) (by omega)
      have e1 : idxD (.lst (met.map natD)) (natD k) = some (natD met[k]) := idx_lst natD met k _ ek
      have e2 : sliceD (.lst (met.map natD)) (some (.int ((k : Int) + 1))) none = some (natsL (met.drop (k + 1))) := by
        have := slice_from (xs := met.map natD) (k := k + 1) (by rw [List.length_map]; omega) (by rw [List.length_map]; omega)
        rw [← List.map_drop] at this
        exact this
      simp! [e1, e2, in_L]
      by_cases hin : met[k] ∈ met.drop (k + 1)
      · rw [sel_pos hin]
        simp! []
        obtain ⟨_, S6, e6, hS6, c, rfl, hc⟩ := p_pick (many := 2) hS (by omega)
        simp! [e6, cmp_eq]
        cases decide ((c : Int) = 0) with
        | false =>
          simp! [Post_some]
          exact ⟨.inl trivial, f, S6, _, _, _, rfl, rfl, hS6, hf⟩
        | true =>
          obtain ⟨m1, m2, e7, h7⟩ := List.eq_append_cons_of_mem hin
          have e8 : f2D .index (natsL (met.drop (k + 1))) (natD met[k]) = some (natD m1.length) := by
            rw [e7]; exact index_nat met[k] m1 m2 h7
          have hm1 : m1.length ≤ met.length := by
            have := congrArg List.length e7
            rw [List.length_drop, List.length_append] at this
            omega
          have e9 : sliceD (.lst (gone.map natD)) (some (natD k)) (some (.int ((k : Int) + 1 + (m1.length : Int)))) = some (natsL ((gone.take (k + 1 + m1.length)).drop k)) := by
            rw [slice_lh (by omega) (by omega), show ((k : Int) + 1 + (m1.length : Int)) = ((k + 1 + m1.length : Nat) : Int) by omega, cut_both, ← List.map_take, ← List.map_drop]
          simp! [e1, e2, e8, e9]
          generalize hX : forX _ _ _ _ _ _ = X
          obtain ⟨ρ', s', rfl, f, o10, rfl, rfl, hf⟩ := for_of hX natD (fun d ρ s => ∃ (f : Nat → Nat) (o10 : Option Slot), ρ = [none, some (.val (encF n rs)), some (.ownd (dicT rs.length f)), some (.val (natD lap)), some (.val (natD k)), some (.val (natD here)), some (.own (gone.map natD)), some (.own (met.map natD)), some (.own (left.map natD)), o9, o10, some (.val (.int ((k : Int) + 1 + (m1.length : Int))))] ∧ s = some S6 ∧ ∀ k, f k ≤ 1) ((gone.take (k + 1 + m1.length)).drop k) rfl ⟨f, o10, rfl, rfl, hf⟩ (by
            clear hX
            rintro d q r ρ s he ⟨f, o10, rfl, rfl, hf⟩
            have hq : q < rs.length := hg q (List.mem_of_mem_take (List.mem_of_mem_drop (show q ∈ (gone.take (k + 1 + m1.length)).drop k by rw [he]; simp)))
            simp! [look_T hq, key_nat, dlim_ok hm3]
            have e10 : D.int (1 - (f q : Int)) = natD (1 - f q) := by
              have := hf q
              rw [show (1 - (f q : Int)) = ((1 - f q : Nat) : Int) by omega]
            rw [e10, put_T hq]
            simp! [Post_some]
            refine ⟨.inl trivial, _, _, rfl, trivial, fun j => ?_⟩
            have := hf j
            show (if j = q then 1 - f q else f j) ≤ 1
            split <;> omega)
          simp! [Post_some]
          exact ⟨.inl trivial, f, S6, _, _, _, rfl, rfl, hS6, hf⟩
      · rw [sel_neg hin]
        simp! [Post_some]
        exact ⟨.inl trivial, f, S, _, _, _, rfl, rfl, hS, hf⟩)
    simp! [Post_some]
    exact ⟨.inl trivial, f, S5, _, _, _, _, _, _, _, _, _, rfl, rfl, hS5, hf⟩)
  clear hX
  simp! [sorted_T (show rs.length ≤ 63 by omega), show rs.length ≤ 1000000 from hm2]
  generalize hX : compL _ _ _ _ _ _ _ = X
  have := filt_of hX natD (fun k => decide (f k = 1)) natD (List.range rs.length) rfl (fun k hk => by
    simp! [look_T (List.mem_range.1 hk), cmp_eq]
    congr 2
    exact decide_eq_decide.2 (by omega)) (fun k hk _ => by simp! [])
  subst this
  simp! [tuple_lst, Post_some]
  exact ⟨_, _, rfl, rfl, hS3, _, rfl, lot_filter _⟩
end K80

/-! ## K80m -/
set_option autoImplicit false
set_option linter.all false
set_option Elab.async false
set_option maxHeartbeats 2000000
namespace K80
open Mini Gr
/-! how great values are -/
theorem gv_int {w d : Nat} {i : Int} (h : i.natAbs < 2 ^ 60) (hw : 60 ≤ w) : Gv w d (.int i) := by
  refine ⟨?_, ?_, Nat.zero_le _⟩
  · rw [smallI]; exact decide_eq_true (Nat.lt_of_lt_of_le h (Nat.pow_le_pow_right (by decide) (by decide)))
  · rw [Mini.wt]
    by_cases h0 : i.natAbs = 0
    · rw [h0, Nat.log2_zero]; omega
    · have := (Nat.log2_lt h0).2 h; omega
theorem gv_tup {w d : Nat} {xs : List D} (h1 : ∀ x ∈ xs, smallI x = true) (h2 : wtL xs ≤ w) (h3 : ∀ x ∈ xs, dep x ≤ d) : Gv w (d + 1) (.tup xs) := by
  refine ⟨?_, ?_, ?_⟩
  · rw [smallI]; exact (smallL_iff xs).2 h1
  · rw [Mini.wt]; exact h2
  · rw [Mini.dep]; exact Nat.succ_le_succ (depL_le h3)
theorem gv_lst {w d : Nat} {xs : List D} (h1 : ∀ x ∈ xs, smallI x = true) (h2 : wtL xs ≤ w) (h3 : ∀ x ∈ xs, dep x ≤ d) : Gv w (d + 1) (.lst xs) := by
  refine ⟨?_, ?_, ?_⟩
  · rw [smallI]; exact (smallL_iff xs).2 h1
  · rw [Mini.wt]; exact h2
  · rw [Mini.dep]; exact Nat.succ_le_succ (depL_le h3)
theorem wtL_le {w : Nat} : ∀ {xs : List D}, (∀ x ∈ xs, wt x ≤ w) → wtL xs ≤ xs.length * (w + 1)
  | [], _ => Nat.zero_le _
  | x :: xs, h => by
    rw [wtL, List.length_cons, Nat.succ_mul]
    have := h x (List.mem_cons_self ..)
    have := wtL_le (xs := xs) fun y hy => h y (List.mem_cons_of_mem _ hy)
    omega
theorem gv_tupN {w d l : Nat} {xs : List D} (h : ∀ x ∈ xs, Gv w d x) (hl : xs.length ≤ l) : Gv (l * (w + 1)) (d + 1) (.tup xs) :=
  gv_tup (fun x hx => (h x hx).sm) (Nat.le_trans (wtL_le fun x hx => (h x hx).wt) (Nat.mul_le_mul_right _ hl)) fun x hx => (h x hx).dep
theorem gv_nat {k : Nat} (h : k ≤ 30) : Gv 5 0 (natD k) := by
  refine ⟨?_, ?_, Nat.zero_le _⟩
  · rw [smallI]
    exact decide_eq_true (by rw [Int.natAbs_natCast]; exact Nat.lt_of_le_of_lt h (by decide))
  · rw [Mini.wt, Int.natAbs_natCast]
    by_cases h0 : k = 0
    · rw [h0, Nat.log2_zero]; omega
    · have := (Nat.log2_lt (k := 5) h0).2 (by omega); omega
theorem gv_nats {l : List Nat} (h : ∀ k ∈ l, k ≤ 30) (hl : l.length ≤ 14) : Gv 100 1 (natsT l) :=
  (gv_tupN (w := 5) (d := 0) (l := 14) (fun x hx => by obtain ⟨k, hk, rfl⟩ := List.mem_map.1 hx; exact gv_nat (h k hk)) (by rw [List.length_map]; exact hl)).mono (by decide) (Nat.le_refl _)
theorem gv_lot {m : Nat} {l : List Nat} (h : IsLot m l) (hm : m ≤ 14) : Gv 100 1 (natsT l) := gv_nats (fun k hk => by have := h.lt k hk; omega) (Nat.le_trans h.len hm)
theorem gv_str {s : String} (h : s.length ≤ 60) : Gv 60 0 (.str s) := ⟨rfl, by rw [Mini.wt]; exact h, Nat.zero_le _⟩
theorem gv_lots {m : Nat} {ls : List (List Nat)} (h : ∀ l ∈ ls, IsLot m l) (hm : m ≤ 14) (hl : ls.length ≤ 14) : Gv 1500 2 (.tup (ls.map natsT)) :=
  (gv_tupN (w := 100) (d := 1) (l := 14) (fun x hx => by obtain ⟨k, hk, rfl⟩ := List.mem_map.1 hx; exact gv_lot (h k hk) hm) (by rw [List.length_map]; exact hl)).mono (by decide) (Nat.le_refl _)
theorem gv_pair {w d : Nat} {s : String} {x : D} (h : Gv w d x) (hs : s.length ≤ 60) : Gv (w + 100) (d + 1) (.tup [.str s, x]) := by
  have h1 := h.sm
  have h2 := h.wt
  have h3 := h.dep
  refine gv_tup (fun y hy => ?_) ?_ (fun y hy => ?_)
  · simp only [List.mem_cons, List.not_mem_nil, or_false] at hy
    rcases hy with rfl | rfl
    · rfl
    · exact h1
  · rw [wtL, wtL, wtL, Mini.wt]; omega
  · simp only [List.mem_cons, List.not_mem_nil, or_false] at hy
    rcases hy with rfl | rfl
    · exact Nat.zero_le _
    · exact h3
theorem gv_frame {n : Nat} {rs : List Rd} (W : WF n rs) : Gv 5000 3 (encF n rs) := by
  have h1 : Gv 2000 2 (.tup (rs.map encR)) := (gv_tupN (w := 12) (d := 1) (l := 14) (fun x hx => by
    obtain ⟨e, he, rfl⟩ := List.mem_map.1 hx
    have := W.ends e he
    have := W.n8
    exact gv_tupN (w := 5) (d := 0) (l := 2) (fun y hy => by
      simp only [List.mem_cons, List.not_mem_nil, or_false] at hy
      rcases hy with rfl | rfl <;> exact gv_nat (by omega)) (by simp)) (by rw [List.length_map]; exact W.m14)).mono (by decide) (Nat.le_refl _)
  have hn := W.n8
  exact (gv_tupN (w := 2000) (d := 2) (l := 2) (fun y hy => by
      simp only [List.mem_cons, List.not_mem_nil, or_false] at hy
      rcases hy with rfl | rfl
      · exact (gv_nat (by omega)).mono (by decide) (by decide)
      · exact h1) (by simp)).mono (by decide) (Nat.le_refl _)
theorem repr_ok {w d : Nat} {v : D} (h : Gv w d v) (hw : w ≤ 50000) (hd : d ≤ 60) : f1D .repr v = some (.rep v) := by
  show reprD v = _
  unfold reprD
  rw [h.sm, decide_eq_true (Nat.le_trans h.wt hw), decide_eq_true (Nat.le_trans h.dep hd)]
  rfl
theorem gv_fault {n : Nat} {rs : List Rd} {lot : List Nat} {v : D} {w d : Nat} (W : WF n rs) (hv : Gv w d v) (hw : w ≤ 90000) : Gv 300 2 (faultD n rs lot v) := by
  have hn : Gv 300 2 .non := ⟨rfl, Nat.zero_le _, Nat.zero_le _⟩
  have hs : ∀ s : String, s.length ≤ 60 → Gv 300 2 (.tup [.str s]) := fun s h => (gv_tupN (w := 60) (d := 0) (l := 1) (fun y hy => by rw [List.mem_singleton] at hy; rw [hy]; exact gv_str h) (by simp)).mono (by decide) (by decide)
  have hp : ∀ (s : String) (k : Nat), s.length ≤ 60 → k ≤ 90000 → Gv 300 2 (.tup [.str s, natD k]) := fun s k h hk => (gv_pair (w := 60) (d := 0) (gv_int (by
      show (k : Int).natAbs < _
      rw [Int.natAbs_natCast]
      exact Nat.lt_of_le_of_lt hk (by decide)) (Nat.le_refl _)) h).mono (by decide) (by decide)
  unfold faultD
  split
  · rename_i s b
    unfold faultP
    split
    · split
      · split
        · exact hn
        · exact hs _ (by decide)
      · exact hs _ (by decide)
    · split
      · split
        · rename_i h
          have hb := h.choose_spec.1
          have hbl := (hv.mem (x := b) (by simp))
          rw [hb] at hbl
          have hbl := hbl.len
          rw [List.length_map] at hbl
          unfold ringsRes
          split
          · rename_i p t e
            have hpm : p ∈ h.choose.zipIdx.filter fun p => !decide (isRingP n rs p.1) := by rw [e]; exact List.mem_cons_self ..
            have h4 := (List.mem_filter.1 hpm).1
            have h5 := (List.mem_zipIdx' h4).1
            exact hp _ _ (by decide) (by omega)
          · split
            · rename_i k t e
              have hk : k ∈ (List.range rs.length).filter fun k => !decide ((h.choose.filter fun l => decide (k ∈ l)).length = markOf lot k) := by rw [e]; exact List.mem_cons_self ..
              have := List.mem_range.1 (List.mem_filter.1 hk).1
              have := W.m14
              exact hp _ _ (by decide) (by omega)
            · exact hn
        · exact hs _ (by decide)
      · exact hs _ (by decide)
  · exact hs _ (by decide)
/-! what is told is right -/
theorem told_odd {n : Nat} {rs : List Rd} {lot : List Nat} {c : Nat} {t : List Nat} (h : oddL n (lot.map (rdOf rs)) = c :: t) : faultD n rs lot (.tup [.str "odd", natD c]) = .non := by
  have hc : c ∈ oddL n (lot.map (rdOf rs)) := by rw [h]; exact List.mem_cons_self ..
  have hn : c < n := List.mem_range.1 (List.mem_filter.1 hc).1
  rw [faultD_eq, faultP, if_pos rfl, if_pos ⟨c, hn, rfl⟩, if_pos ⟨c, hc, rfl⟩]
theorem told_rings {n : Nat} {rs : List Rd} {lot : List Nat} {rg : List (List Nat)} (W : WF n rs) (h : Rings n rs lot rg) (hp : rg.Pairwise (fun a b => lexLt (castL a) (castL b) = true)) :
    faultD n rs lot (.tup [.str "rings", .tup (rg.map natsT)]) = .non := by
  have hl : ∀ l ∈ rg, IsLot rs.length l := fun l hl => (h.ring l hl).1
  have hu : UpP (isLotP rs.length) (.tup (rg.map natsT)) := by
    refine ⟨_, rfl, fun x hx => ?_, List.pairwise_map.2 (hp.imp fun {a b} k => by rw [lt_lots, k])⟩
    obtain ⟨l, hm, rfl⟩ := List.mem_map.1 hx
    exact ⟨l, rfl, hl l hm⟩
  rw [fault_rings hl hu]
  unfold ringsRes
  rw [List.filter_eq_nil_iff.2]
  · show (match (List.range rs.length).filter (fun k => !decide ((rg.filter fun l => decide (k ∈ l)).length = markOf lot k)) with
      | k :: _ => .tup [.str "road", natD k]
      | [] => .non : D) = _
    rw [List.filter_eq_nil_iff.2]
    intro k hk
    rw [decide_eq_true (h.each k (List.mem_range.1 hk))]
    simp
  · intro p hp
    have hpm : p.1 ∈ rg := (List.mem_zipIdx' hp).2 ▸ List.getElem_mem _
    obtain ⟨h1, h2, h3⟩ := h.ring p.1 hpm
    rw [decide_eq_true (h3.isRing W h1 h2)]
    simp
end K80

/-! ## K80n -/
set_option autoImplicit false
set_option linter.all false
set_option Elab.async false
set_option maxHeartbeats 2000000
namespace K80
open Mini Gr
theorem wtL_app (a b : List D) : wtL (a ++ b) = wtL a + wtL b := by
  induction a with
  | nil => rw [List.nil_append, show wtL [] = 0 from rfl, Nat.zero_add]
  | cons x a ih => rw [List.cons_append, wtL, wtL, ih]; omega
theorem wtL_take (a : List D) (k : Nat) : wtL (a.take k) + wtL (a.drop k) = wtL a := by rw [← wtL_app, List.take_append_drop]
theorem wtL_rev (a : List D) : wtL a.reverse = wtL a := by
  induction a with
  | nil => rfl
  | cons x a ih => rw [List.reverse_cons, wtL_app, ih]; show wtL a + (wt x + 1 + 0) = wt x + 1 + wtL a; omega
theorem gv_of {w d : Nat} {xs : List D} (h : Gv w d (.tup xs)) : wtL xs ≤ w ∧ (∀ x ∈ xs, smallI x = true) ∧ ∀ x ∈ xs, dep x + 1 ≤ d := by
  have h1 := h.sm
  have h2 := h.wt
  have h3 := h.dep
  rw [smallI] at h1
  rw [Mini.wt] at h2
  rw [Mini.dep] at h3
  exact ⟨h2, (smallL_iff xs).1 h1, fun x hx => by have := depL_mem hx; omega⟩
/-- members of xs alone, or else small ones -/
theorem gv_sub {w d w' d' : Nat} {xs ys : List D} (h : Gv w d (.tup xs)) (hs : ∀ y ∈ ys, y ∈ xs ∨ y = .int 0) (hw : wtL ys ≤ w') (hd : d ≤ d') (h1 : 1 ≤ d') : Gv w' d' (.tup ys) ∧ Gv w' d' (.lst ys) := by
  obtain ⟨_, a, b⟩ := gv_of h
  obtain ⟨e, rfl⟩ : ∃ e, d' = e + 1 := ⟨d' - 1, by omega⟩
  have s1 : ∀ x ∈ ys, smallI x = true := fun y hy => (hs y hy).elim (a y) fun e => by rw [e]; rfl
  have s2 : ∀ x ∈ ys, dep x ≤ e := fun y hy => (hs y hy).elim (fun k => by have := b y k; omega) fun e => by rw [e]; exact Nat.zero_le _
  exact ⟨gv_tup s1 hw s2, gv_lst s1 hw s2⟩
theorem slice_to1 {xs : List D} : sliceD (.tup xs) none (some (.int 1)) = some (.tup (xs.take 1)) := by
  rw [slice_hiT (by omega), show (1 : Int) = ((1 : Nat) : Int) from rfl, cut_to]
theorem slice_from1 {xs : List D} : sliceD (.tup xs) (some (.int 1)) none = some (.tup (xs.drop 1)) := by
  rw [slice_loT (by omega), show (1 : Int) = ((1 : Nat) : Int) from rfl, cut_from]
theorem slice_but {xs : List D} : ∃ j, sliceD (.tup xs) none (some (.int (-1))) = some (.tup (xs.take j)) := by
  rw [slice_hiT (by omega)]
  exact ⟨_, congrArg (fun l => some (D.tup l)) (show (xs.take _).drop 0 = _ from List.drop_zero)⟩
theorem p_law_bent : ∀ (N : Nat) {S0 : Src} {v : D} {w d : Nat}, Sok S0 → Gv w d v → d < N → w ≤ 100000 → Dr (G_law_bent N S0 [v]) fun r => Gv (2 * w + 100) (d + 2) r
  | 0, _, _, _, _, _, _, hN, _ => absurd hN (Nat.not_lt_zero _)
  | N + 1, S0, v, w, d, h, hv, hN, hw => by
    refine runG_of (by rfl) ?_
    rw [show (none :: startE ⟨d_law_bent.names - 1, d_law_bent.args - 1, d_law_bent.body⟩ [v]) = [none, some (.val v), none, none, none] from rfl, d_law_bent]
    simp! [e_neg]
    generalize hodd : [D.non, .int 0, .int 1, .bl true, .int (-1), .int 14, .str "a", .str "rings", .str "odd", .str "lot", .str "ring", .str "heights", .tup [], .tup [.int 0], .tup [.int 0, .int 1], .tup [.tup [.int 0]], .lst [], .dic []] = odd
    have hoddne : odd ≠ [] := by rw [← hodd]; simp
    have hoddl : odd.length ≤ 1000000 := by rw [← hodd]; simp
    have hoddg : ∀ x ∈ odd, Gv 100 2 x := by
      have hB : odd.all (fun x => smallI x && decide (wt x ≤ 100) && decide (dep x ≤ 2)) = true := by rw [← hodd]; decide +kernel
      intro x hx
      have := List.all_eq_true.1 hB x hx
      rw [Bool.and_eq_true, Bool.and_eq_true, decide_eq_true_iff, decide_eq_true_iff] at this
      exact ⟨this.1.1, this.1.2, this.2⟩
    clear hodd
    by_cases ht : ∃ xs, v = .tup xs
    · obtain ⟨xs, rfl⟩ := ht
      have hxl := hv.len
      obtain ⟨g1, g2, g3⟩ := gv_of hv
      simp! [isTy_tup hv.sm, isTupB_t, cmp_eq_nilT]
      -- the end of the first case
      have fin : ∀ (S : Src), Sok S → Post (ex [] [G_law_pick, G_law_of, G_law_bent N] 40 19 [none, some (.val (.tup xs)), some (.val (.lst odd)), none, none] [.set 4 (.lst [(.callS 1 [(.var 2)])]),
    .iff (.isi (.var 1) .tuple) [.set 4 (.bin .add (.var 4) (.lst [(.slice (.var 1) (some (.int 1)) none), (.slice (.var 1) none (some (.neg (.int 1)))), (.bin .add (.var 1) (.slice (.var 1) none (some (.int 1)))), (.f1 .list (.var 1)), (.rev (.var 1)), (.bin .add (.var 1) (.tup [(.int 0)]))]))] [],
    .ret (some (.callS 1 [(.var 4)]))] (some S)) fun o ρ s => ∃ r S', o = .rt r ∧ s = some S' ∧ Sok S' ∧ Gv (2 * w + 100) (d + 2) r := by
        intro S hS
        simp! []
        obtain ⟨x1, S1, e1, hS1, hx1⟩ := p_of hS hoddne hoddl
        obtain ⟨j, ej⟩ := slice_but (xs := xs)
        have hl1 : (xs ++ xs.take 1).length ≤ LIM := by
          rw [List.length_append, List.length_take]; show _ ≤ 1000000; omega
        have hl2 : (xs ++ [D.int 0]).length ≤ LIM := by
          rw [List.length_append]; show _ ≤ 1000000; simp; omega
        simp! [e1, e_neg, isTy_tup hv.sm, isTupB_t, slice_from1, ej, slice_to1, addT hl1, list_tup, show revD (.tup xs) = some (.tup xs.reverse) from rfl, addT hl2]
        rw [addL (by show _ ≤ 1000000; simp)]
        simp! []
        obtain ⟨x2, S2, e2, hS2, hx2⟩ := p_of (xs := [x1] ++ [D.tup (xs.drop 1), .tup (xs.take j), .tup (xs ++ xs.take 1), .lst xs, .tup xs.reverse, .tup (xs ++ [.int 0])]) hS1 (by simp) (by simp)
        simp! [e2, Post_some]
        refine ⟨_, _, rfl, rfl, hS2, ?_⟩
        have t1 := wtL_take xs 1
        have tj := wtL_take xs j
        have s1 : ∀ {k : Nat} {y : D}, y ∈ xs.take k → y ∈ xs := fun h => List.mem_of_mem_take h
        simp only [List.cons_append, List.nil_append, List.mem_cons, List.not_mem_nil, or_false] at hx2
        rcases hx2 with rfl | rfl | rfl | rfl | rfl | rfl | rfl
        · exact (hoddg _ hx1).mono (by omega) (by omega)
        · exact (gv_sub hv (fun y hy => .inl (List.mem_of_mem_drop hy)) (by omega) (by omega) (by omega)).1
        · exact (gv_sub hv (fun y hy => .inl (s1 hy)) (by omega) (by omega) (by omega)).1
        · exact (gv_sub hv (fun y hy => (List.mem_append.1 hy).elim .inl fun k => .inl (s1 k)) (by rw [wtL_app]; omega) (by omega) (by omega)).1
        · exact (gv_sub hv (fun y hy => .inl hy) (by omega) (by omega) (by omega)).2
        · exact (gv_sub hv (fun y hy => .inl (List.mem_reverse.1 hy)) (by rw [wtL_rev]; omega) (by omega) (by omega)).1
        · exact (gv_sub hv (fun y hy => (List.mem_append.1 hy).elim .inl fun k => .inr (List.mem_singleton.1 k)) (by rw [wtL_app]; show wtL xs + (1 + 1 + 0) ≤ _; omega) (by omega) (by omega)).1
      cases hx0 : xs.isEmpty with
      | true =>
        simp only [sel_true, bindR_val, ob_val, asBl_bl]
        exact Post_rt ((fin S0 h).mono fun o ρ s ⟨r, S', h1, h2⟩ => ⟨⟨r, h1⟩, r, S', h1, h2⟩)
      | false =>
        have hxne : xs ≠ [] := by rintro rfl; cases hx0
        have hxp := List.length_pos_iff.2 hxne
        simp! []
        obtain ⟨_, S1, e1, hS1, c, rfl, hc⟩ := p_pick (many := 4) h (by omega)
        simp! [e1, cmp_eq]
        cases decide ((c : Int) = 0) with
        | true =>
          simp only [sel_true, bindR_val, ob_val, asBl_bl, retO_val, Option.map_some]
          exact Post_rt ((fin S1 hS1).mono fun o ρ s ⟨r, S', h1, h2⟩ => ⟨⟨r, h1⟩, r, S', h1, h2⟩)
        | false =>
          simp! [len_tup]
          obtain ⟨_, S2, e2, hS2, k, rfl, hk⟩ := p_pickN (many := xs.length) hS1 hxp (by omega)
          have ek := List.getElem?_eq_getElem hk
          have hmem := List.getElem_mem hk
          have hvk := hv.mem hmem
          have dk := g3 _ hmem
          obtain ⟨r, S3, e3, hS3, hr⟩ := p_law_bent N (v := xs[k]) (w := wt xs[k]) (d := dep xs[k]) hS2 ⟨hvk.sm, Nat.le_refl _, Nat.le_refl _⟩ (by omega) (Nat.le_trans hvk.wt hw)
          have e4 : sliceD (.tup xs) none (some (natD k)) = some (.tup (xs.take k)) := by rw [slice_hiT (by omega), cut_to]
          have e5 : sliceD (.tup xs) (some (.int ((k : Int) + 1))) none = some (.tup (xs.drop (k + 1))) := by
            rw [slice_loT (by omega), show ((k : Int) + 1) = ((k + 1 : Nat) : Int) from rfl, cut_from]
          have hl1 : (xs.take k ++ [r]).length ≤ LIM := by
            rw [List.length_append, List.length_take]; show _ ≤ 1000000; simp; omega
          have hl2 : (xs.take k ++ [r] ++ xs.drop (k + 1)).length ≤ LIM := by
            rw [List.length_append, List.length_append, List.length_take, List.length_drop]; show _ ≤ 1000000; simp; omega
          simp! [e2, e4, idxD_tup ek, e3, addT hl1, e5, addT hl2, Post_some]
          refine ⟨_, _, rfl, rfl, hS3, ?_⟩
          have t1 := wtL_take xs k
          have t2 : xs.drop k = xs[k] :: xs.drop (k + 1) := List.drop_eq_getElem_cons hk
          rw [t2, wtL] at t1
          have r1 := hr.sm
          have r2 := hr.wt
          have r3 := hr.dep
          have hwt : wtL (xs.take k ++ [r] ++ xs.drop (k + 1)) ≤ 2 * w + 100 := by
            rw [wtL_app, wtL_app]
            show wtL (xs.take k) + (wt r + 1 + 0) + wtL (xs.drop (k + 1)) ≤ _
            omega
          refine gv_tup (d := d + 1) (fun x hx => ?_) hwt (fun x hx => ?_)
          · rcases List.mem_append.1 hx with hx | hx
            · rcases List.mem_append.1 hx with hx | hx
              · exact g2 x (List.mem_of_mem_take hx)
              · rw [List.mem_singleton] at hx; rw [hx]; exact r1
            · exact g2 x (List.mem_of_mem_drop hx)
          · rcases List.mem_append.1 hx with hx | hx
            · rcases List.mem_append.1 hx with hx | hx
              · have := g3 x (List.mem_of_mem_take hx); omega
              · rw [List.mem_singleton] at hx; rw [hx]; omega
            · have := g3 x (List.mem_of_mem_drop hx); omega
    · have e : isTupB v = false := by
        cases hb : isTupB v with
        | false => rfl
        | true => exact absurd (isTupB_iff.1 hb) ht
      simp! [isTy_tup hv.sm, e]
      obtain ⟨x1, S1, e1, hS1, hx1⟩ := p_of h hoddne hoddl
      simp! [e1, isTy_tup hv.sm, e]
      obtain ⟨x2, S2, e2, hS2, hx2⟩ := p_of (xs := [x1]) hS1 (by simp) (by simp)
      rw [List.mem_singleton] at hx2
      subst hx2
      simp! [e2, Post_some]
      exact ⟨_, _, rfl, rfl, hS2, (hoddg _ hx1).mono (by omega) (by omega)⟩
end K80

/-! ## K80o -/
set_option autoImplicit false
set_option linter.all false
set_option Elab.async false
set_option maxHeartbeats 4000000
namespace K80
open Mini Gr
theorem zero_ne_one_lap {k : Nat} (h : k < 4) : ∃ most many : Nat, idxD (.lst [.int 3, .int 8, .int 5, .int 8]) (natD k) = some (natD most) ∧ idxD (.lst [.int 6, .int 10, .int 8, .int 14]) (natD k) = some (natD many) ∧ 1 ≤ most ∧ most ≤ 8 ∧ 1 ≤ many ∧ many ≤ 14 := by
  match k, h with
  | 0, _ => exact ⟨3, 6, rfl, rfl, by decide, by decide, by decide, by decide⟩
  | 1, _ => exact ⟨8, 10, rfl, rfl, by decide, by decide, by decide, by decide⟩
  | 2, _ => exact ⟨5, 8, rfl, rfl, by decide, by decide, by decide, by decide⟩
  | 3, _ => exact ⟨8, 14, rfl, rfl, by decide, by decide, by decide, by decide⟩
abbrev FsL : List Fn := [F_ring_paper, F_judge_ring_paper, F_law_row, F_law_odd, F_law_fault, F_is_simple_ring, F_law_is_ring, F_odd_crossings, F_simple_rings_of]
abbrev GsL : List Gn := [G_law_frame, G_law_some_lot, G_law_even_lot, G_law_pick, (G_law_bent 8), G_law_of]
theorem gv_odd {n k : Nat} (h : k < n) (hn : n ≤ 8) : Gv 2000 3 (.tup [.str "odd", natD k]) := (gv_pair (gv_nat (by omega)) (by decide)).mono (by decide) (by decide)
theorem gv_rings {m : Nat} {ls : List (List Nat)} (h : ∀ l ∈ ls, IsLot m l) (hm : m ≤ 14) (hl : ls.length ≤ 14) : Gv 2000 3 (.tup [.str "rings", .tup (ls.map natsT)]) := (gv_pair (gv_lots h hm hl) (by decide)).mono (by decide) (by decide)
theorem told_all {n : Nat} {rs : List Rd} {lot : List Nat} (W : WF n rs) (hl : IsLot rs.length lot) : ∃ (told : D) (x : D) (b : Bool) (sr : D), (oddL n (lot.map (rdOf rs))).isEmpty = b ∧ F_ring_paper [encF n rs, rowT rs.length lot] = some told ∧ Gv 2000 3 told ∧ faultD n rs lot told = .non ∧
    told = .tup [.str (if b then "rings" else "odd"), x] ∧ (b = true → ∃ rg : List (List Nat), F_simple_rings_of [encF n rs, natsT lot] = some (.tup (rg.map natsT)) ∧ Gv 2000 3 (.tup [.str "rings", .tup (rg.map natsT)]) ∧ Gv 2000 3 (.tup [.str "rings", .tup ((rg.drop 1).map natsT)]) ∧ faultD n rs lot (.tup [.str "rings", .tup (rg.map natsT)]) = .non) := by
  rcases p_ring_paper W hl with ⟨c, t, h1, h2⟩ | ⟨h1, rg, h2, h3, h4, h5⟩
  · have hc : c < n := by
      have : c ∈ oddL n (lot.map (rdOf rs)) := by rw [h1]; exact List.mem_cons_self ..
      exact List.mem_range.1 (List.mem_filter.1 this).1
    exact ⟨_, _, false, .non, by rw [h1]; rfl, h2, gv_odd hc W.n8, told_odd h1, rfl, fun h => nomatch h⟩
  · have hrl : ∀ l ∈ rg, IsLot rs.length l := fun l hl => (h4.ring l hl).1
    have hlen := h4.len
    have hm := W.m14
    have g1 := gv_rings hrl W.m14 (by omega)
    have g2 := gv_rings (ls := rg.drop 1) (fun l hl => hrl l (List.mem_of_mem_drop hl)) W.m14 (by rw [List.length_drop]; omega)
    exact ⟨_, _, true, .non, by rw [h1]; rfl, h3, g1, told_rings W h4 h5, rfl, fun _ => ⟨rg, h2, g1, g2, told_rings W h4 h5⟩⟩
theorem isnot_non : cmpD .isnot .non .non = some false := (rfl)
abbrev QL : Out → Env → Mini.S → Prop := fun o ρ s => (o = .nx ∨ o = .ct) ∧ ∃ (S : Src) (o2 o3 o4 o5 o6 o7 o8 o9 o10 o11 o12 o13 o14 o15 : Option Slot), ρ = [none, none, o2, o3, o4, o5, o6, o7, o8, o9, o10, o11, o12, o13, o14, o15] ∧ s = some S ∧ Sok S
theorem plain_rest {n : Nat} {rs : List Rd} {lot : List Nat} (W : WF n rs) (hl : IsLot rs.length lot) {told : D} {own : List D} {Sx : Src} {o2 o5 o6 o8 o9 o13 o14 o15 : Option Slot}
    (hS : Sok Sx) (ho1 : own ≠ []) (ho2 : own.length ≤ 10) (ho3 : ∀ x ∈ own, Gv 2000 3 x) (ht1 : Gv 2000 3 told) (ht2 : ∃ xs, told = .tup xs) :
    Post (runL (fun ρ st s => stepS (ev FsL GsL 40) (ex FsL GsL 40 18) ρ st s) [
    .set 8 (.bin .add (.var 7) (.comp (.callS 4 [(.callS 5 [(.bin .add (.var 7) (.bin .mul (.lst [(.var 4)]) (.int 3)))])]) (.var 15) (.range (.int 8)) [15] [])),
    .for_ (.var 9) (.seq (.bin .add (.var 8) (.lst [.non, (.tup []), (.str "odd"), (.f1 .list (.var 4)), (.callS 4 [(.callS 4 [(.var 4)])])]))) [.set 14 (.f1 .repr (.var 9)),
    .iff (.or (.cmp .ne (.f1 .repr (.call 1 [(.var 3), (.var 12), (.var 9)])) (.f1 .repr (.call 4 [(.var 3), (.var 12), (.var 9)]))) (.cmp .ne (.f1 .repr (.var 9)) (.var 14))) [.ret (some (.bl false))] []],
    .iff (.cmp .ne (.f1 .repr (.var 3)) (.var 11)) [.ret (some (.bl false))] []]
      [none, none, o2, some (.val (encF n rs)), some (.val told), o5, o6, some (.val (.lst own)), o8, o9, some (.val (natD rs.length)), some (.val (.rep (encF n rs))), some (.val (rowT rs.length lot)), o13, o14, o15] (some Sx)) QL := by
  have hfr := repr_ok (gv_frame W) (by decide) (by decide)
  simp! [show rangeO (.int 0) (.int 8) = some ((List.range 8).map natD) from rangeO_nat (n := 8) (by decide)]
  generalize hX : compL _ _ _ _ _ _ _ = X
  obtain ⟨vs, s', rfl, ⟨S2, rfl, hS2⟩, hvl, hvq⟩ := comp_dr hX natD (fun s => ∃ S2, s = some S2 ∧ Sok S2) (fun a v => ∃ x, v = some x ∧ Gv 4100 5 x) (List.range 8) rfl ⟨Sx, rfl, hS⟩ (by
    clear hX
    rintro a ha s ⟨S2, rfl, hS2⟩
    simp! [itemL, show binD .mul (.lst [told]) (.int 3) = some (.lst ((List.range 3).map fun _ => told)) from mul_rep told (n := 3) (by decide)]
    rw [addL (by rw [List.length_append, List.length_map, List.length_range]; show _ ≤ 1000000; omega)]
    simp! []
    obtain ⟨y, S3, e3, hS3, hy⟩ := p_of (xs := own ++ (List.range 3).map fun _ => told) hS2 (fun k => ho1 (List.append_eq_nil_iff.1 k).1) (by rw [List.length_append, List.length_map, List.length_range]; omega)
    have hyg : Gv 2000 3 y := by
      rcases List.mem_append.1 hy with hy | hy
      · exact ho3 y hy
      · obtain ⟨_, _, rfl⟩ := List.mem_map.1 hy; exact ht1
    obtain ⟨z, S4, e4, hS4, hz⟩ := p_law_bent 8 hS3 hyg (by decide) (by decide)
    simp! [e3, e4]
    exact ⟨_, _, rfl, ⟨_, rfl, hS4⟩, z, rfl, hz⟩)
  clear hX
  have hvg : ∀ x ∈ vs.filterMap id, Gv 4100 5 x := fun x hx => by
    obtain ⟨v, hv, hvx⟩ := List.mem_filterMap.1 hx
    have hvx : v = some x := hvx
    subst hvx
    obtain ⟨i, hi, e⟩ := List.getElem_of_mem hv
    have hi2 : i < (List.range 8).length := by omega
    have hm : ((List.range 8)[i], vs[i]) ∈ (List.range 8).zip vs := by
      have := List.getElem_mem (l := (List.range 8).zip vs) (n := i) (by rw [List.length_zip]; omega)
      rwa [List.getElem_zip] at this
    obtain ⟨y, hy, hg⟩ := hvq _ hm
    have hy : vs[i] = some y := hy
    rw [e] at hy
    cases hy
    exact hg
  have hvl2 : (vs.filterMap id).length ≤ 8 := by
    have := List.length_filterMap_le id vs
    rw [List.length_range] at hvl
    omega
  generalize vs.filterMap id = vals at *
  obtain ⟨xs, rfl⟩ := ht2
  obtain ⟨z, S4, e4, hS4, hz⟩ := p_law_bent 8 hS2 ht1 (by decide) (by decide)
  obtain ⟨z2, S5, e5, hS5, hz2⟩ := p_law_bent 8 hS4 hz (by decide) (by decide)
  simp! []
  rw [addL (by rw [List.length_append]; show _ ≤ 1000000; omega)]
  simp! [list_tup, e4, e5]
  rw [addL (by rw [List.length_append, List.length_append]; show _ ≤ 1000000; simp; omega)]
  simp! []
  generalize hvals : own ++ vals ++ [D.non, D.tup [], D.str "odd", D.lst xs, z2] = all
  have hall : ∀ x ∈ all, Gv 9000 10 x := fun x hx => by
    rw [← hvals] at hx
    simp only [List.mem_append, List.mem_cons, List.not_mem_nil, or_false] at hx
    rcases hx with (hx | hx) | rfl | rfl | rfl | rfl | rfl
    · exact (ho3 x hx).mono (by decide) (by decide)
    · exact (hvg x hx).mono (by decide) (by decide)
    · exact ⟨rfl, Nat.zero_le _, Nat.zero_le _⟩
    · exact ⟨rfl, Nat.zero_le _, by decide⟩
    · exact (gv_str (by decide)).mono (by decide) (by decide)
    · exact (gv_sub ht1 (fun y hy => .inl hy) (gv_of ht1).1 (Nat.le_refl _) (by decide)).2.mono (by decide) (by decide)
    · exact hz2.mono (by decide) (by decide)
  generalize hX : forX _ _ _ _ _ _ = X
  obtain ⟨ρ', s', rfl, o9, o14, rfl, rfl⟩ := for_of hX id (fun d ρ s => ∃ o9 o14 : Option Slot, ρ = [none, none, o2, some (.val (encF n rs)), some (.val (.tup xs)), o5, o6, some (.val (.lst own)), some (.val (.lst (own ++ vals))), o9, some (.val (natD rs.length)), some (.val (.rep (encF n rs))), some (.val (rowT rs.length lot)), o13, o14, o15] ∧ s = some S5) all (List.map_id all).symm ⟨o9, o14, rfl, rfl⟩ (by
    clear hX
    rintro d v r ρ s he ⟨o9, o14, rfl, rfl⟩
    have hv := hall v (by rw [he]; simp)
    have hfg := gv_fault (lot := lot) W hv (by decide)
    simp! [id, repr_ok hv (by decide) (by decide), p_judge W hl hv (by decide), p_law_fault W hl hv (by decide), repr_ok hfg (by decide) (by decide), cmp_rep, Post_some]
    exact ⟨.inl trivial, _, _, rfl, trivial⟩)
  clear hX
  simp! [hfr, cmp_rep, Post_some]
  exact ⟨.inl rfl, _, _, _, _, _, _, _, _, _, _, _, _, _, _, _, rfl, rfl, hS5⟩
def rs4 : List Rd := [(0, 1), (0, 1), (0, 2), (1, 2)]
theorem W4 : WF 3 rs4 := ⟨by decide, by decide, by decide, by decide, by decide⟩
theorem end_a : F_ring_paper [.tup [.int 3, .tup [.tup [.int 0, .int 1], .tup [.int 0, .int 1], .tup [.int 0, .int 2], .tup [.int 1, .int 2]]], .tup [.int 1, .int 1, .int 0, .int 0]] = some (.tup [.str "rings", .tup [.tup [.int 0, .int 1]]]) := by
  have hl : IsLot rs4.length [0, 1] := ⟨by decide, by decide⟩
  rcases p_ring_paper W4 hl with ⟨c, t, h1, h2⟩ | ⟨h1, rg, h2, h3, h4, h5⟩
  · have : oddL 3 ([0, 1].map (rdOf rs4)) = [] := by decide
    rw [this] at h1
    cases h1
  · have all : ∀ R ∈ rg, R = [0, 1] := by
      intro R hR
      obtain ⟨k1, k2, k3⟩ := h4.ring R hR
      have k4 := k3.isRing W4 k1 k2
      have k5 : ∀ k, k ∈ R → k ∈ [0, 1] := fun k hk => by
        have := h4.each k (k1.lt k hk)
        have hp := List.length_pos_of_mem (List.mem_filter (p := fun R => decide (k ∈ R)).2 ⟨hR, decide_eq_true hk⟩)
        unfold markOf at this
        split at this
        · assumption
        · omega
      have k6 := k1.eq
      have k7 : R = [0, 1].filter fun k => decide (k ∈ R) := up_ext k1.up (List.Pairwise.filter _ (by decide)) fun x => by
        rw [List.mem_filter, decide_eq_true_iff]
        exact ⟨fun h => ⟨k5 x h, h⟩, fun h => h.2⟩
      by_cases c0 : 0 ∈ R <;> by_cases c1 : 1 ∈ R <;> simp [c0, c1] at k7
      · exact k7
      · rw [k7] at k4; exact absurd k4 (by decide)
      · rw [k7] at k4; exact absurd k4 (by decide)
      · exact absurd k7 k2
    have h6 := h4.each 0 (by decide)
    rw [List.filter_eq_self.2 fun R hR => by rw [all R hR]; rfl] at h6
    have h7 : rg.length = 1 := h6
    obtain ⟨R, rfl⟩ := List.length_eq_one_iff.1 h7
    rw [all R (by simp)] at h3
    exact h3
theorem hl4 : IsLot rs4.length [0] := ⟨by decide, by decide⟩
theorem end_b : F_judge_ring_paper [.tup [.int 3, .tup [.tup [.int 0, .int 1], .tup [.int 0, .int 1], .tup [.int 0, .int 2], .tup [.int 1, .int 2]]], .tup [.int 1, .int 0, .int 0, .int 0], .tup [.str "odd", .int 1]] = some .non := by
  have h := p_judge (v := .tup [.str "odd", natD 1]) W4 hl4 (gv_odd (n := 3) (by decide) (by decide)) (by decide)
  obtain ⟨c, h1, h2, h3⟩ := in_odd (rs := rs4) (lot := [0]) (n := 3) (b := natD 1) ⟨1, by decide, rfl⟩
  have h4 : cmpD .in_ (natD 1) (natsT (oddL 3 ([0].map (rdOf rs4)))) = some true := by
    rw [in_T]
    exact congrArg some (by decide)
  rw [h4] at h1
  cases h1
  rw [h3, if_pos rfl] at h
  exact h
theorem end_c : ∃ x, F_ring_paper [.tup [.int 3, .tup [.tup [.int 0, .int 1], .tup [.int 0, .int 1], .tup [.int 0, .int 2], .tup [.int 1, .int 2]]], .tup [.int 1, .int 0, .int 0, .int 0]] = some (.tup [.str "odd", x]) := by
  rcases p_ring_paper W4 hl4 with ⟨c, t, h1, h2⟩ | ⟨h1, _⟩
  · exact ⟨_, h2⟩
  · exact absurd h1 (by decide)
theorem plain : Plain := by
  intro ns hns
  suffices hw : Post (ex FsL GsL 40 20 (List.replicate 16 none) d_law.body (some (srcOf ns))) fun o _ _ => o = .rt (.bl true) by
    obtain ⟨o, ρ, s, e, rfl⟩ := hw
    exact ⟨ρ, s, e⟩
  have hS0 : Sok (srcOf ns) := by
    show ((ns.map fun i => if i < 0 then -i else i).reverse).length ≤ 63
    rw [List.length_reverse, List.length_map]; exact hns
  generalize srcOf ns = S0 at hS0
  rw [show List.replicate 16 (none : Option Slot) = [none, none, none, none, none, none, none, none, none, none, none, none, none, none, none, none] from rfl, d_law]
  simp! [show rangeO (.int 0) (.int 4) = some ((List.range 4).map natD) from rangeO_nat (n := 4) (by decide)]
  generalize hX : forX _ _ _ _ _ _ = X
  obtain ⟨ρ', s', rfl, S3, o2, o3, o4, o5, o6, o7, o8, o9, o10, o11, o12, o13, o14, o15, rfl, rfl, hS3⟩ := for_of hX natD (fun d ρ s => ∃ (S : Src) (o2 o3 o4 o5 o6 o7 o8 o9 o10 o11 o12 o13 o14 o15 : Option Slot), ρ = [none, none, o2, o3, o4, o5, o6, o7, o8, o9, o10, o11, o12, o13, o14, o15] ∧ s = some S ∧ Sok S) (List.range 4) rfl ⟨S0, none, none, none, none, none, none, none, none, none, none, none, none, none, none, rfl, rfl, hS0⟩ (by
    clear hX
    rintro d lap r ρ s hd ⟨Sx, o2, o3, o4, o5, o6, o7, o8, o9, o10, o11, o12, o13, o14, o15, rfl, rfl, hS⟩
    have hlap : lap < 4 := by rw [← List.mem_range, hd]; simp
    obtain ⟨most, many, q1, q2, q3, q4, q5, q6⟩ := zero_ne_one_lap hlap
    simp! [q1, q2]
    obtain ⟨_, S1, e1, hS1, n, rs, rfl, W⟩ := p_law_frame hS q3 q4 q5 q6
    have hm14 := W.m14
    have hn8 := W.n8
    have hfr := repr_ok (gv_frame W) (by decide) (by decide)
    simp! [e1, idxF1, len_tup, hfr]
    obtain ⟨_, S2, e2, hS2, c, rfl, hc⟩ := p_pick (many := 3) hS1 (by omega)
    simp! [e2, cmp_gt]
    have hlot : ∃ (lot : List Nat) (S4 : Src), IsLot rs.length lot ∧ Sok S4 ∧ ∀ (f : D → S → Res), bindR (sel (decide (0 < (c : Int))) (ev FsL GsL 39 [none, none, some (.val (natD lap)), some (.val (encF n rs)), o4, o5, o6, o7, o8, o9, some (.val (natD rs.length)), some (.val (.rep (encF n rs))), o12, o13, o14, o15] (.callS 2 [(.var 3)]) (some S2)) (ev FsL GsL 39 [none, none, some (.val (natD lap)), some (.val (encF n rs)), o4, o5, o6, o7, o8, o9, some (.val (natD rs.length)), some (.val (.rep (encF n rs))), o12, o13, o14, o15] (.callS 1 [(.var 10)]) (some S2))) f = f (natsT lot) (some S4) := by
      cases decide (0 < (c : Int)) with
      | true =>
        obtain ⟨_, S4, e4, hS4, lot, rfl, hl⟩ := p_law_even_lot hS2 W
        exact ⟨lot, S4, hl, hS4, fun f => by simp! [e4]⟩
      | false =>
        obtain ⟨_, S4, e4, hS4, lot, rfl, hl⟩ := p_law_some_lot (m := rs.length) hS2 (by omega)
        exact ⟨lot, S4, hl, hS4, fun f => by simp! [e4]⟩
    obtain ⟨lot, S4, hl, hS4, hlot⟩ := hlot
    rw [hlot]
    have hrow := p_law_row (m := rs.length) (lot := lot) (by omega)
    obtain ⟨told, tx, b, sr, hb, t1, t2, t3, t4, t5⟩ := told_all W hl
    have rt := repr_ok t2 (by decide) (by decide)
    have hol : (oddL n (lot.map (rdOf rs))).length ≤ 14 := by
      have := List.length_filter_le (fun c => decide ((ends (lot.map (rdOf rs))).count c % 2 = 1)) (List.range n)
      rw [List.length_range] at this
      unfold oddL
      omega
    have hog : Gv 2000 3 (natsT (oddL n (lot.map (rdOf rs)))) := (gv_nats (fun k hk => by
      have := List.mem_range.1 (List.mem_filter.1 hk).1
      omega) hol).mono (by decide) (by decide)
    have ro := repr_ok hog (by decide) (by decide)
    generalize hodd : oddL n (lot.map (rdOf rs)) = odd at *
    simp! [hrow, show F_law_odd [encF n rs, natsT lot] = some (natsL odd) from hodd ▸ p_law_odd W hl.lt (lot_tup lot), t1, show F_odd_crossings [encF n rs, rowT rs.length lot] = some (natsT odd) from hodd ▸ p_odd_crossings W hl, ro, tuple_lst, cmp_rep]
    have ft : F_law_fault [encF n rs, rowT rs.length lot, told] = some .non := (p_law_fault W hl t2 (by decide)).trans (by rw [t3])
    have gb : ∀ c : Bool, f1D .repr (.bl c) = some (.rep (.bl c)) := fun c => repr_ok (w := 0) (d := 0) ⟨rfl, Nat.le_refl _, Nat.le_refl _⟩ (by decide) (by decide)
    have glot : ∀ l, IsLot rs.length l → Gv 2000 3 (.tup [.str "rings", .tup [natsT l]]) := fun l h => gv_rings (m := rs.length) (ls := [l]) (fun x hx => by rw [List.mem_singleton] at hx; rw [hx]; exact h) hm14 (by simp)
    have glot2 : ∀ l k, IsLot rs.length l → IsLot rs.length k → Gv 2000 3 (.tup [.str "rings", .tup [natsT l, natsT k]]) := fun l k h h2 => gv_rings (m := rs.length) (ls := [l, k]) (fun x hx => by
      simp only [List.mem_cons, List.not_mem_nil, or_false] at hx
      rcases hx with rfl | rfl
      · exact h
      · exact h2) hm14 (by simp)
    have gnil : Gv 2000 3 (.tup [.str "rings", .tup []]) := gv_rings (m := rs.length) (ls := []) (fun x hx => nomatch hx) hm14 (by simp)
    cases b with
    | true =>
      obtain ⟨rg, r1, r2, r3, r4⟩ := t5 rfl
      have ft2 : F_law_fault [encF n rs, rowT rs.length lot, .tup [.str "rings", .tup (rg.map natsT)]] = some .non := (p_law_fault W hl r2 (by decide)).trans (by rw [r4])
      have ei : idxD told (.int 0) = some (.str "rings") := by rw [t4]; exact idx_t0
      simp! [ei, cmp_eq_nilL, List.isEmpty_map, hb, cmp_strne, ft, isnot_non, t1, rt, cmp_rep, r1, ft2, decide_true]
      obtain ⟨_, S5, e5, hS5, sm, rfl, hsm⟩ := p_law_some_lot (m := rs.length) hS4 (by omega)
      have hsml := hsm.len
      simp! [e5, p_is_simple_ring W hsm.lt (show sm.length ≤ 100 by omega), p_law_is_ring W hsm, gb, cmp_rep, idxF0]
      obtain ⟨_, S6, e6, hS6, c2, rfl, hc2⟩ := p_pickN (many := n) hS5 W.n1 (by omega)
      have es : sliceD (.tup (rg.map natsT)) (some (.int 1)) none = some (.tup ((rg.drop 1).map natsT)) := by rw [slice_from1, List.map_drop]
      simp! [e6, cmp_eq_nilL, List.isEmpty_map, hb, r1, es]
      rw [addL (by show _ ≤ 1000000; simp)]
      simp! []
      refine plain_rest W hl hS6 (by simp) (by simp) ?_ t2 ⟨_, t4⟩
      intro x hx
      simp only [List.cons_append, List.nil_append, List.mem_cons, List.not_mem_nil, or_false] at hx
      rcases hx with rfl | rfl | rfl | rfl | rfl | rfl | rfl
      · exact t2
      · exact gv_odd hc2 hn8
      · exact glot _ hl
      · exact gnil
      · exact glot2 _ _ hsm hl
      · exact r2
      · exact r3
    | false =>
      have ei : idxD told (.int 0) = some (.str "odd") := by rw [t4]; exact idx_t0
      simp! [ei, cmp_eq_nilL, List.isEmpty_map, hb, cmp_strne, ft, isnot_non, t1, rt, cmp_rep, decide_true]
      obtain ⟨_, S5, e5, hS5, sm, rfl, hsm⟩ := p_law_some_lot (m := rs.length) hS4 (by omega)
      have hsml := hsm.len
      simp! [e5, p_is_simple_ring W hsm.lt (show sm.length ≤ 100 by omega), p_law_is_ring W hsm, gb, cmp_rep, idxF0]
      obtain ⟨_, S6, e6, hS6, c2, rfl, hc2⟩ := p_pickN (many := n) hS5 W.n1 (by omega)
      simp! [e6, cmp_eq_nilL, List.isEmpty_map, hb]
      refine plain_rest W hl hS6 (by simp) (by simp) ?_ t2 ⟨_, t4⟩
      intro x hx
      simp only [List.mem_cons, List.not_mem_nil, or_false] at hx
      rcases hx with rfl | rfl | rfl | rfl | rfl
      · exact t2
      · exact gv_odd hc2 hn8
      · exact glot _ hl
      · exact gnil
      · exact glot2 _ _ hsm hl)
  clear hX
  obtain ⟨x, ec⟩ := end_c
  have hr : f1D .repr (.lst [.tup [.str "rings", .tup [.tup [.int 0, .int 1]]], .non, .str "odd"]) = some (.rep (.lst [.tup [.str "rings", .tup [.tup [.int 0, .int 1]]], .non, .str "odd"])) := repr_ok (w := 100) (d := 10) ⟨by decide, by decide, by decide⟩ (by decide) (by decide)
  simp! [end_a, end_b, ec, idx_t0]
  rw [addL (by show _ ≤ 1000000; simp)]
  simp! [List.cons_append, List.nil_append, hr, cmp_repE, Post_some]
end K80

/-! ## K80a -/
set_option Elab.async false
set_option linter.all false
set_option maxRecDepth 100000
set_option maxHeartbeats 4000000
namespace K80
open PySem PySem.Spec L2
def top (i : Nat) : Stmt := PySem.Challenge.pw_lacednets_k80_ring_papers_judged.main.body.getD i (.Pass ⟨0, 0, 0, 0⟩)
abbrev s_law_source : Stmt := top 20
abbrev s_law_pick : Stmt := top 21
abbrev s_law_of : Stmt := top 22
abbrev s_law_frame : Stmt := top 24
abbrev s_lot_of_row : Stmt := top 7
abbrev s_odd_crossings : Stmt := top 11
abbrev s_some_ring : Stmt := top 12
abbrev s_simple_rings_of : Stmt := top 13
abbrev s_ring_paper : Stmt := top 14
abbrev s_law_some_lot : Stmt := top 26
abbrev s_all_roads : Stmt := top 2
abbrev s_is_pair_with : Stmt := top 17
abbrev s_is_number_of : Stmt := top 1
abbrev s_is_lot_of_numbers : Stmt := top 15
abbrev s_are_lots_up : Stmt := top 16
abbrev s_heads_by : Stmt := top 3
abbrev s_pieces_by : Stmt := top 4
abbrev s_piece_count : Stmt := top 5
abbrev s_frame_rank : Stmt := top 8
abbrev s_is_simple_ring : Stmt := top 9
abbrev s_judge_ring_paper : Stmt := top 18
abbrev s_law_even_lot : Stmt := top 33
abbrev s_law_row : Stmt := top 27
abbrev s_law_odd : Stmt := top 28
abbrev s_law_is_pair : Stmt := top 32
abbrev s_law_is_lot : Stmt := top 31
abbrev s_law_pieces : Stmt := top 25
abbrev s_law_is_ring : Stmt := top 29
abbrev s_law_fault : Stmt := top 34
abbrev s_law_bent : Stmt := top 30
abbrev s_law : Stmt := top 35
def t_law_pick : Snd.Tab := ⟨["source", "many", "left", "mixed"], 0, [], ["_law_pick"]⟩
def t_law_of : Snd.Tab := ⟨["source", "some"], 0, [], ["_law_pick"]⟩
def t_law_frame : Snd.Tab := ⟨["source", "most", "least", "many", "lap", "n", "roads", "way", "road"], 0, [], ["_law_pick", "_law_of"]⟩
def t_lot_of_row : Snd.Tab := ⟨["row", "place", "mark"], 1000, [], []⟩
def t_odd_crossings : Snd.Tab := ⟨["frame", "row", "ends", "road", "crossing"], 1000, ["lot_of_row"], []⟩
def t_some_ring : Snd.Tab := ⟨["frame", "lot", "here", "gone", "met", "road", "one"], 1000, [], []⟩
def t_simple_rings_of : Snd.Tab := ⟨["frame", "lot", "found", "left", "ring", "road"], 1000, ["some_ring"], []⟩
def t_ring_paper : Snd.Tab := ⟨["frame", "row", "odd"], 1000, ["odd_crossings", "simple_rings_of", "lot_of_row"], []⟩
def t_law_some_lot : Snd.Tab := ⟨["source", "many", "share", "k"], 0, [], ["_law_of", "_law_pick"]⟩
def t_all_roads : Snd.Tab := ⟨["frame"], 1000, [], []⟩
def t_is_pair_with : Snd.Tab := ⟨["value", "words"], 1000, [], []⟩
def t_is_number_of : Snd.Tab := ⟨["value", "many"], 1000, [], []⟩
def t_is_lot_of_numbers : Snd.Tab := ⟨["value", "many", "k", "one"], 1000, ["is_number_of"], []⟩
def t_are_lots_up : Snd.Tab := ⟨["value", "many", "k", "lot"], 1000, ["is_lot_of_numbers"], []⟩
def t_heads_by : Snd.Tab := ⟨["frame", "lot", "heads", "road", "low", "high", "head", "crossing"], 1000, [], []⟩
def t_pieces_by : Snd.Tab := ⟨["frame", "lot", "first", "heads", "found", "crossing"], 1000, ["heads_by"], []⟩
def t_piece_count : Snd.Tab := ⟨["frame", "lot"], 1000, ["pieces_by"], []⟩
def t_frame_rank : Snd.Tab := ⟨["frame", "lot"], 1000, ["piece_count"], []⟩
def t_is_simple_ring : Snd.Tab := ⟨["frame", "lot", "road", "one"], 1000, ["frame_rank"], []⟩
def t_judge_ring_paper : Snd.Tab := ⟨["frame", "row", "value", "road", "i", "lot"], 1000, ["all_roads", "is_pair_with", "are_lots_up", "is_number_of", "is_simple_ring", "odd_crossings"], []⟩
def t_law_even_lot : Snd.Tab := ⟨["source", "frame", "found", "lap", "k", "here", "gone", "met", "left", "some", "road", "last"], 0, [], ["_law_pick", "_law_of"]⟩
def t_law_row : Snd.Tab := ⟨["many", "lot", "k"], 1000, [], []⟩
def t_law_odd : Snd.Tab := ⟨["frame", "lot", "ends", "road", "c"], 1000, [], []⟩
def t_law_is_pair : Snd.Tab := ⟨["value", "words"], 1000, [], []⟩
def t_law_is_lot : Snd.Tab := ⟨["value", "many", "k"], 1000, [], []⟩
def t_law_pieces : Snd.Tab := ⟨["frame", "lot", "left", "found", "piece", "line", "here", "some", "road", "a", "b"], 1000, [], []⟩
def t_law_is_ring : Snd.Tab := ⟨["frame", "lot", "here", "road", "c", "piece", "late"], 1000, ["_law_odd", "_law_pieces"], []⟩
def t_law_fault : Snd.Tab := ⟨["frame", "row", "value", "many", "wrong", "k", "i", "lot"], 1000, ["_law_is_pair", "_law_is_lot", "_law_odd", "_law_is_ring"], []⟩
def t_law_bent : Snd.Tab := ⟨["source", "value", "odd", "k", "some"], 0, [], ["_law_pick", "_law_of", "_law_bent"]⟩
def t_law : Snd.Tab := ⟨["script", "source", "lap", "frame", "told", "lot", "some", "own", "values", "value", "many", "kept", "row", "odd", "shown", "turn"], 1, ["ring_paper", "judge_ring_paper", "_law_row", "_law_odd", "_law_fault", "is_simple_ring", "_law_is_ring", "odd_crossings", "simple_rings_of"], ["_law_frame", "_law_some_lot", "_law_even_lot", "_law_pick", "_law_bent", "_law_of"]⟩
end K80

/-! ## K80b -/
set_option Elab.async false
set_option linter.all false
set_option maxRecDepth 100000
set_option maxHeartbeats 4000000
namespace K80
open PySem PySem.Spec L2
theorem c_law_pick : Snd.mSs t_law_pick 40 (defScope s_law_pick) 20 d_law_pick.body (defBody s_law_pick) = true := by decide +kernel
theorem sc_law_pick : FnScope ["source", "many", "left", "mixed"] ["source", "many"] (defScope s_law_pick) := ⟨rfl, rfl, rfl, by decide +kernel, rfl, by decide +kernel, by decide +kernel⟩
theorem c_law_of : Snd.mSs t_law_of 40 (defScope s_law_of) 20 d_law_of.body (defBody s_law_of) = true := by decide +kernel
theorem sc_law_of : FnScope ["source", "some"] ["source", "some"] (defScope s_law_of) := ⟨rfl, rfl, rfl, by decide +kernel, rfl, by decide +kernel, by decide +kernel⟩
theorem c_law_frame : Snd.mSs t_law_frame 40 (defScope s_law_frame) 20 d_law_frame.body (defBody s_law_frame) = true := by decide +kernel
theorem sc_law_frame : FnScope ["source", "most", "least", "many", "lap", "n", "roads", "way", "road"] ["source", "most", "least", "many"] (defScope s_law_frame) := ⟨rfl, rfl, rfl, by decide +kernel, rfl, by decide +kernel, by decide +kernel⟩
theorem c_lot_of_row : Snd.mSs t_lot_of_row 40 (defScope s_lot_of_row) 20 d_lot_of_row.body (defBody s_lot_of_row) = true := by decide +kernel
theorem sc_lot_of_row : FnScope ["row", "place", "mark"] ["row"] (defScope s_lot_of_row) := ⟨rfl, rfl, rfl, by decide +kernel, rfl, by decide +kernel, by decide +kernel⟩
theorem c_odd_crossings : Snd.mSs t_odd_crossings 40 (defScope s_odd_crossings) 20 d_odd_crossings.body (defBody s_odd_crossings) = true := by decide +kernel
theorem sc_odd_crossings : FnScope ["frame", "row", "ends", "road", "crossing"] ["frame", "row"] (defScope s_odd_crossings) := ⟨rfl, rfl, rfl, by decide +kernel, rfl, by decide +kernel, by decide +kernel⟩
theorem c_some_ring : Snd.mSs t_some_ring 40 (defScope s_some_ring) 20 d_some_ring.body (defBody s_some_ring) = true := by decide +kernel
theorem sc_some_ring : FnScope ["frame", "lot", "here", "gone", "met", "road", "one"] ["frame", "lot"] (defScope s_some_ring) := ⟨rfl, rfl, rfl, by decide +kernel, rfl, by decide +kernel, by decide +kernel⟩
theorem c_simple_rings_of : Snd.mSs t_simple_rings_of 40 (defScope s_simple_rings_of) 20 d_simple_rings_of.body (defBody s_simple_rings_of) = true := by decide +kernel
theorem sc_simple_rings_of : FnScope ["frame", "lot", "found", "left", "ring", "road"] ["frame", "lot"] (defScope s_simple_rings_of) := ⟨rfl, rfl, rfl, by decide +kernel, rfl, by decide +kernel, by decide +kernel⟩
theorem c_ring_paper : Snd.mSs t_ring_paper 40 (defScope s_ring_paper) 20 d_ring_paper.body (defBody s_ring_paper) = true := by decide +kernel
theorem sc_ring_paper : FnScope ["frame", "row", "odd"] ["frame", "row"] (defScope s_ring_paper) := ⟨rfl, rfl, rfl, by decide +kernel, rfl, by decide +kernel, by decide +kernel⟩
theorem c_law_some_lot : Snd.mSs t_law_some_lot 40 (defScope s_law_some_lot) 20 d_law_some_lot.body (defBody s_law_some_lot) = true := by decide +kernel
theorem sc_law_some_lot : FnScope ["source", "many", "share", "k"] ["source", "many"] (defScope s_law_some_lot) := ⟨rfl, rfl, rfl, by decide +kernel, rfl, by decide +kernel, by decide +kernel⟩
theorem c_all_roads : Snd.mSs t_all_roads 40 (defScope s_all_roads) 20 d_all_roads.body (defBody s_all_roads) = true := by decide +kernel
theorem sc_all_roads : FnScope ["frame"] ["frame"] (defScope s_all_roads) := ⟨rfl, rfl, rfl, by decide +kernel, rfl, by decide +kernel, by decide +kernel⟩
theorem c_is_pair_with : Snd.mSs t_is_pair_with 40 (defScope s_is_pair_with) 20 d_is_pair_with.body (defBody s_is_pair_with) = true := by decide +kernel
theorem sc_is_pair_with : FnScope ["value", "words"] ["value", "words"] (defScope s_is_pair_with) := ⟨rfl, rfl, rfl, by decide +kernel, rfl, by decide +kernel, by decide +kernel⟩
theorem c_is_number_of : Snd.mSs t_is_number_of 40 (defScope s_is_number_of) 20 d_is_number_of.body (defBody s_is_number_of) = true := by decide +kernel
theorem sc_is_number_of : FnScope ["value", "many"] ["value", "many"] (defScope s_is_number_of) := ⟨rfl, rfl, rfl, by decide +kernel, rfl, by decide +kernel, by decide +kernel⟩
theorem c_is_lot_of_numbers : Snd.mSs t_is_lot_of_numbers 40 (defScope s_is_lot_of_numbers) 20 d_is_lot_of_numbers.body (defBody s_is_lot_of_numbers) = true := by decide +kernel
theorem sc_is_lot_of_numbers : FnScope ["value", "many", "k", "one"] ["value", "many"] (defScope s_is_lot_of_numbers) := ⟨rfl, rfl, rfl, by decide +kernel, rfl, by decide +kernel, by decide +kernel⟩
theorem c_are_lots_up : Snd.mSs t_are_lots_up 40 (defScope s_are_lots_up) 20 d_are_lots_up.body (defBody s_are_lots_up) = true := by decide +kernel
theorem sc_are_lots_up : FnScope ["value", "many", "k", "lot"] ["value", "many"] (defScope s_are_lots_up) := ⟨rfl, rfl, rfl, by decide +kernel, rfl, by decide +kernel, by decide +kernel⟩
theorem c_heads_by : Snd.mSs t_heads_by 40 (defScope s_heads_by) 20 d_heads_by.body (defBody s_heads_by) = true := by decide +kernel
theorem sc_heads_by : FnScope ["frame", "lot", "heads", "road", "low", "high", "head", "crossing"] ["frame", "lot"] (defScope s_heads_by) := ⟨rfl, rfl, rfl, by decide +kernel, rfl, by decide +kernel, by decide +kernel⟩
theorem c_pieces_by : Snd.mSs t_pieces_by 40 (defScope s_pieces_by) 20 d_pieces_by.body (defBody s_pieces_by) = true := by decide +kernel
theorem sc_pieces_by : FnScope ["frame", "lot", "first", "heads", "found", "crossing"] ["frame", "lot"] (defScope s_pieces_by) := ⟨rfl, rfl, rfl, by decide +kernel, rfl, by decide +kernel, by decide +kernel⟩
theorem c_piece_count : Snd.mSs t_piece_count 40 (defScope s_piece_count) 20 d_piece_count.body (defBody s_piece_count) = true := by decide +kernel
theorem sc_piece_count : FnScope ["frame", "lot"] ["frame", "lot"] (defScope s_piece_count) := ⟨rfl, rfl, rfl, by decide +kernel, rfl, by decide +kernel, by decide +kernel⟩
theorem c_frame_rank : Snd.mSs t_frame_rank 40 (defScope s_frame_rank) 20 d_frame_rank.body (defBody s_frame_rank) = true := by decide +kernel
theorem sc_frame_rank : FnScope ["frame", "lot"] ["frame", "lot"] (defScope s_frame_rank) := ⟨rfl, rfl, rfl, by decide +kernel, rfl, by decide +kernel, by decide +kernel⟩
theorem c_is_simple_ring : Snd.mSs t_is_simple_ring 40 (defScope s_is_simple_ring) 20 d_is_simple_ring.body (defBody s_is_simple_ring) = true := by decide +kernel
theorem sc_is_simple_ring : FnScope ["frame", "lot", "road", "one"] ["frame", "lot"] (defScope s_is_simple_ring) := ⟨rfl, rfl, rfl, by decide +kernel, rfl, by decide +kernel, by decide +kernel⟩
theorem c_judge_ring_paper : Snd.mSs t_judge_ring_paper 40 (defScope s_judge_ring_paper) 20 d_judge_ring_paper.body (defBody s_judge_ring_paper) = true := by decide +kernel
theorem sc_judge_ring_paper : FnScope ["frame", "row", "value", "road", "i", "lot"] ["frame", "row", "value"] (defScope s_judge_ring_paper) := ⟨rfl, rfl, rfl, by decide +kernel, rfl, by decide +kernel, by decide +kernel⟩
theorem c_law_even_lot : Snd.mSs t_law_even_lot 40 (defScope s_law_even_lot) 20 d_law_even_lot.body (defBody s_law_even_lot) = true := by decide +kernel
theorem sc_law_even_lot : FnScope ["source", "frame", "found", "lap", "k", "here", "gone", "met", "left", "some", "road", "last"] ["source", "frame"] (defScope s_law_even_lot) := ⟨rfl, rfl, rfl, by decide +kernel, rfl, by decide +kernel, by decide +kernel⟩
theorem c_law_row : Snd.mSs t_law_row 40 (defScope s_law_row) 20 d_law_row.body (defBody s_law_row) = true := by decide +kernel
theorem sc_law_row : FnScope ["many", "lot", "k"] ["many", "lot"] (defScope s_law_row) := ⟨rfl, rfl, rfl, by decide +kernel, rfl, by decide +kernel, by decide +kernel⟩
theorem c_law_odd : Snd.mSs t_law_odd 40 (defScope s_law_odd) 20 d_law_odd.body (defBody s_law_odd) = true := by decide +kernel
theorem sc_law_odd : FnScope ["frame", "lot", "ends", "road", "c"] ["frame", "lot"] (defScope s_law_odd) := ⟨rfl, rfl, rfl, by decide +kernel, rfl, by decide +kernel, by decide +kernel⟩
theorem c_law_is_pair : Snd.mSs t_law_is_pair 40 (defScope s_law_is_pair) 20 d_law_is_pair.body (defBody s_law_is_pair) = true := by decide +kernel
theorem sc_law_is_pair : FnScope ["value", "words"] ["value", "words"] (defScope s_law_is_pair) := ⟨rfl, rfl, rfl, by decide +kernel, rfl, by decide +kernel, by decide +kernel⟩
theorem c_law_is_lot : Snd.mSs t_law_is_lot 40 (defScope s_law_is_lot) 20 d_law_is_lot.body (defBody s_law_is_lot) = true := by decide +kernel
theorem sc_law_is_lot : FnScope ["value", "many", "k"] ["value", "many"] (defScope s_law_is_lot) := ⟨rfl, rfl, rfl, by decide +kernel, rfl, by decide +kernel, by decide +kernel⟩
theorem c_law_pieces : Snd.mSs t_law_pieces 40 (defScope s_law_pieces) 20 d_law_pieces.body (defBody s_law_pieces) = true := by decide +kernel
theorem sc_law_pieces : FnScope ["frame", "lot", "left", "found", "piece", "line", "here", "some", "road", "a", "b"] ["frame", "lot"] (defScope s_law_pieces) := ⟨rfl, rfl, rfl, by decide +kernel, rfl, by decide +kernel, by decide +kernel⟩
theorem c_law_is_ring : Snd.mSs t_law_is_ring 40 (defScope s_law_is_ring) 20 d_law_is_ring.body (defBody s_law_is_ring) = true := by decide +kernel
theorem sc_law_is_ring : FnScope ["frame", "lot", "here", "road", "c", "piece", "late"] ["frame", "lot"] (defScope s_law_is_ring) := ⟨rfl, rfl, rfl, by decide +kernel, rfl, by decide +kernel, by decide +kernel⟩
theorem c_law_fault : Snd.mSs t_law_fault 40 (defScope s_law_fault) 20 d_law_fault.body (defBody s_law_fault) = true := by decide +kernel
theorem sc_law_fault : FnScope ["frame", "row", "value", "many", "wrong", "k", "i", "lot"] ["frame", "row", "value"] (defScope s_law_fault) := ⟨rfl, rfl, rfl, by decide +kernel, rfl, by decide +kernel, by decide +kernel⟩
theorem c_law_bent : Snd.mSs t_law_bent 40 (defScope s_law_bent) 20 d_law_bent.body (defBody s_law_bent) = true := by decide +kernel
theorem sc_law_bent : FnScope ["source", "value", "odd", "k", "some"] ["source", "value"] (defScope s_law_bent) := ⟨rfl, rfl, rfl, by decide +kernel, rfl, by decide +kernel, by decide +kernel⟩
theorem c_law : Snd.mSs t_law 40 (defScope s_law) 20 d_law.body ((defBody s_law).tail) = true := by decide +kernel
theorem sc_law : FnScope ["script", "source", "lap", "frame", "told", "lot", "some", "own", "values", "value", "many", "kept", "row", "odd", "shown", "turn"] ["script"] (defScope s_law) := ⟨rfl, rfl, rfl, by decide +kernel, rfl, by decide +kernel, by decide +kernel⟩
/-! ### the source -/
theorem sc_law_source : FnScope ["script", "mixed", "cell"] ["script"] (defScope s_law_source) := ⟨rfl, rfl, rfl, by decide +kernel, rfl, by decide +kernel, by decide +kernel⟩
section
variable {P : Program} {w : World} {K : PySem.W.Frag} {mg : Str → Option Value} {base : Heap}
theorem ok_law_source (Y : Snd.Txt K mg base) (m : Snd.IsMade K "_law_source" s_law_source) : Snd.OkD P w K mg base 1 "_law_source" (Snd.spSource K) := by
  obtain ⟨f, fd, m⟩ := m.made
  refine ⟨f, fd, ["script"], Y.get _ _ m.at_, m.fun_.kp, m.fun_.binds (fun _ _ _ _ _ _ us hl => match us, hl with | [_], _ => rfl), ?_⟩
  refine Snd.fnG_of m.fun_ sc_law_source (fun vs H Q E ⟨a, ns, e, _⟩ => by rw [e]; rfl) fun cdv A outer s H vs Q E _ room ⟨a, ns, ev, sq, hl, q⟩ => ?_
  subst ev
  have hint : mg "int" = none := Y.blt _ (by decide)
  have habs : mg "abs" = none := Y.blt _ (by decide)
  have nd := sc_law_source.nd
  refine ⟨_, pss_cons (ps_set nd rfl (.inl rfl) pe_int (i := 1)) (pss_cons (ps_for PassesOwn.never rfl (pi_list (pv 0)) (pg_name nd rfl (.inl rfl) (i := 2)) (pss_one (ps_set nd rfl (.inl rfl) (i := 1)
    (pe_op op_mod (pe_callTy (Snd.f1_int (O := fun _ => False)) rfl hint PyProof.Rows.boot_int (pa_cons (pe_op op_add (pe_op op_add (pe_op op_mul (pv 1) pe_int) (pe_op op_mul (pv 2) pe_int)) pe_int) pa_nil)) pe_int))))
    (pss_one (ps_ret (pe_disp (pps_cons pe_str (pe_revL (pe_lc (own := [("cell", 2)]) rfl nd (pi_list (pv 0)) (blkOk_by (by show blkC ["script", "mixed", "cell"] (defScope s_law_source) _ _ = true; decide +kernel)) (fun s H C cl fp => pg_name nd rfl (.inl rfl) (i := 2) (.inr rfl)) (fun s H C cl fp => pts_nil)
      (fun s H C cl fp => pe_callB call_abs rfl habs PyProof.Rows.boot_abs (pa_cons (pv 2) pa_nil))))
      (pps_cons pe_str pe_int (pps_cons pe_str (pv 1) (pps_cons pe_str pe_int pps_nil)))) rfl rfl (by simp) (by simp))))), ?_⟩
  have b0 := Snd.mix_in
  refine ⟨.ref a, rfl, a, rfl, ⟨_, sq⟩, for_list (K := K) (a := a) (xs := ns.map V.int) (fun i σ H1 => ∃ (x : Option V), σ = [some (.ref a), some (.int (Mini.mixOf (ns.take i))), x] ∧ Same H H1) ⟨none, rfl, Same.refl H⟩ (fun i σ H1 _ ⟨_, _, sm⟩ => Snd.sqL_same sm sq) ?_ ?_⟩
  · rintro i x σ H1 hx ⟨y, rfl, sm⟩
    rw [List.getElem?_map, Option.map_eq_some_iff] at hx
    obtain ⟨c, hc, rfl⟩ := hx
    have hb := b0 (ns.take i) 11 (by decide) (by decide)
    refine ⟨_, rfl, Mini.mixOf (ns.take i), 69069, rfl, rfl, ?_, _, rfl, c, 31, rfl, rfl, ?_, _, _, rfl, rfl, _, 5, rfl, rfl, _, .int (Mini.mixOf (ns.take i) * 69069 + c * 31 + 5), .int (Mini.mixOf (ns.take i) * 69069 + c * 31 + 5), rfl, .of (.int _), rfl, fun _ z => z.elim, fun v' H2 sm2 nw => ?_⟩
    · exact .inl ⟨by unfold Mini.mixOf; omega, by unfold Mini.mixOf; omega⟩
    · exact .inr ⟨by decide, by decide⟩
    · have ev : v' = .int (Mini.mixOf (ns.take i) * 69069 + c * 31 + 5) := Snd.Rp.intI nw
      subst ev
      refine ⟨_, 2147483629, rfl, rfl, (show (0 : Int) < 2147483629 by decide), some (.int c), ?_, sm.trans sm2⟩
      have e : Mini.mixOf (ns.take (i + 1)) = (Mini.mixOf (ns.take i) * 69069 + c * 31 + 5) % 2147483629 := by
        unfold Mini.mixOf
        rw [List.take_add_one, hc, Option.toList_some, List.foldl_append]
        rfl
      rw [e]
      rfl
  · rintro σ H1 ⟨x, rfl, sm⟩
    have et : ns.take (ns.map V.int).length = ns := by rw [List.length_map, List.take_length]
    rw [et]
    intro p hp
    have hL : ns.length ≤ sizeLine := by rw [sizeLine_eq]; omega
    have sq1 := Snd.sqL_same (sm.trans (Snd.same_upd (o := .dK []) hp)) sq
    refine ⟨.ref a, rfl, a, rfl, ⟨_, sq1⟩, fun D hD => ?_⟩
    have hDp : D ≠ p := fun z => by rw [z, upd_same] at hD; cases hD
    refine lc_list (K := K) (a := a) (xs := ns.map V.int) (fun i H2 => H2 D = some (.lst ((ns.take i).map fun i => V.int (if i < 0 then -i else i))) ∧ ∀ b o, upd H1 p (.dK []) b = some o → H2 b = some o) ⟨by rw [upd_same]; rfl, Snd.same_upd hD⟩ (fun i H2 _ ⟨_, k⟩ => Snd.sqL_same k sq1) ?_ ?_
    · rintro i x H2 hx ⟨hd, k⟩
      rw [List.getElem?_map, Option.map_eq_some_iff] at hx
      obtain ⟨c, hc, rfl⟩ := hx
      refine ⟨rfl, ?_⟩
      refine ⟨_, rfl, c, rfl, _, hd, ?_, ?_, fun b o e => ?_⟩
      · rw [List.length_map, List.length_take, sizeLine_eq]; omega
      · rw [upd_same, List.take_add_one, hc, Option.toList_some, List.map_append]
        rfl
      · rw [upd_ne (fun z => by rw [z, hD] at e; cases e)]
        exact k b o e
    · rintro H2 ⟨hd, k⟩
      rw [List.length_map, List.take_length] at hd
      refine ⟨D, _, rfl, .of hd, fun c hc => ?_⟩
      have hcp : c ≠ p := fun z => by rw [z, k p _ upd_same] at hc; cases hc
      refine ⟨_, rfl, by rw [upd_ne (Ne.symm hcp)]; exact k p _ upd_same, [(Sum.inr "cells", .ref c), (Sum.inr "left", .int 1), (Sum.inr "mixed", .int (Mini.mixOf ns)), (Sum.inr "turn", .int 0)], rfl, by simp, ?_⟩
      refine q _ p c (fun b o e => ?_) (sm.free hp) ?_ ⟨Ne.symm hcp, upd_same, ?_⟩
      · have e1 := sm _ _ e
        have hbp : b ≠ p := fun z => by rw [z, hp] at e1; cases e1
        rw [upd_ne hbp, upd_ne (fun z => by
          have e2 := k b o (by rw [upd_ne hbp]; exact e1)
          rw [z, hc] at e2
          cases e2)]
        exact k b o (by rw [upd_ne hbp]; exact e1)
      · cases eH : H c with
        | none => rfl
        | some o =>
          have e1 := sm _ _ eH
          have e2 := k c o (by rw [upd_ne hcp]; exact e1)
          rw [hc] at e2
          cases e2
      · rw [upd_ne hcp, upd_same]
        show some (HO.lst (List.reverse _)) = some (HO.lst ((List.reverse _).map V.int))
        rw [List.map_reverse, List.map_map]
        rfl
end
structure All (K : PySem.W.Frag) : Prop where
  m_law_source : Snd.IsMade K "_law_source" s_law_source
  m_law_pick : Snd.IsMade K "_law_pick" s_law_pick
  m_law_of : Snd.IsMade K "_law_of" s_law_of
  m_law_frame : Snd.IsMade K "_law_frame" s_law_frame
  m_lot_of_row : Snd.IsMade K "lot_of_row" s_lot_of_row
  m_odd_crossings : Snd.IsMade K "odd_crossings" s_odd_crossings
  m_some_ring : Snd.IsMade K "some_ring" s_some_ring
  m_simple_rings_of : Snd.IsMade K "simple_rings_of" s_simple_rings_of
  m_ring_paper : Snd.IsMade K "ring_paper" s_ring_paper
  m_law_some_lot : Snd.IsMade K "_law_some_lot" s_law_some_lot
  m_all_roads : Snd.IsMade K "all_roads" s_all_roads
  m_is_pair_with : Snd.IsMade K "is_pair_with" s_is_pair_with
  m_is_number_of : Snd.IsMade K "is_number_of" s_is_number_of
  m_is_lot_of_numbers : Snd.IsMade K "is_lot_of_numbers" s_is_lot_of_numbers
  m_are_lots_up : Snd.IsMade K "are_lots_up" s_are_lots_up
  m_heads_by : Snd.IsMade K "heads_by" s_heads_by
  m_pieces_by : Snd.IsMade K "pieces_by" s_pieces_by
  m_piece_count : Snd.IsMade K "piece_count" s_piece_count
  m_frame_rank : Snd.IsMade K "frame_rank" s_frame_rank
  m_is_simple_ring : Snd.IsMade K "is_simple_ring" s_is_simple_ring
  m_judge_ring_paper : Snd.IsMade K "judge_ring_paper" s_judge_ring_paper
  m_law_even_lot : Snd.IsMade K "_law_even_lot" s_law_even_lot
  m_law_row : Snd.IsMade K "_law_row" s_law_row
  m_law_odd : Snd.IsMade K "_law_odd" s_law_odd
  m_law_is_pair : Snd.IsMade K "_law_is_pair" s_law_is_pair
  m_law_is_lot : Snd.IsMade K "_law_is_lot" s_law_is_lot
  m_law_pieces : Snd.IsMade K "_law_pieces" s_law_pieces
  m_law_is_ring : Snd.IsMade K "_law_is_ring" s_law_is_ring
  m_law_fault : Snd.IsMade K "_law_fault" s_law_fault
  m_law_bent : Snd.IsMade K "_law_bent" s_law_bent
section
variable {P : Program} {w : World} {K : PySem.W.Frag} {mg : Str → Option Value} {base : Heap}
theorem ok_law_pick (Y : Snd.Txt K mg base) (M : All K) : Snd.OkD P w K mg base 2 "_law_pick" (Snd.spG G_law_pick) :=
  Snd.okG (k := 1) (Fs := []) (Gs := []) (d := d_law_pick) (T := t_law_pick) (ps := ["source", "many"]) Y M.m_law_pick sc_law_pick (fun _ _ _ _ _ _ us hl => match us, hl with | [_, _], _ => rfl) (by decide) .none .none c_law_pick rfl (by decide) rfl rfl
theorem ok_law_of (Y : Snd.Txt K mg base) (M : All K) : Snd.OkD P w K mg base 3 "_law_of" (Snd.spG G_law_of) :=
  Snd.okG (k := 2) (Fs := []) (Gs := [G_law_pick]) (d := d_law_of) (T := t_law_of) (ps := ["source", "some"]) Y M.m_law_of sc_law_of (fun _ _ _ _ _ _ us hl => match us, hl with | [_, _], _ => rfl) (by decide) .none (.cons (by decide) ((ok_law_pick Y M).mono (by decide)) .none) c_law_of rfl (by decide) rfl rfl
theorem ok_law_frame (Y : Snd.Txt K mg base) (M : All K) : Snd.OkD P w K mg base 4 "_law_frame" (Snd.spG G_law_frame) :=
  Snd.okG (k := 3) (Fs := []) (Gs := [G_law_pick, G_law_of]) (d := d_law_frame) (T := t_law_frame) (ps := ["source", "most", "least", "many"]) Y M.m_law_frame sc_law_frame (fun _ _ _ _ _ _ us hl => match us, hl with | [_, _, _, _], _ => rfl) (by decide) .none (.cons (by decide) ((ok_law_pick Y M).mono (by decide)) (.cons (by decide) ((ok_law_of Y M).mono (by decide)) .none)) c_law_frame rfl (by decide) rfl rfl
theorem ok_lot_of_row (Y : Snd.Txt K mg base) (M : All K) : Snd.OkD P w K mg base 2 "lot_of_row" (Snd.spF F_lot_of_row) :=
  Snd.okF (k := 1) (Fs := []) (d := d_lot_of_row) (T := t_lot_of_row) (ps := ["row"]) Y M.m_lot_of_row sc_lot_of_row (fun _ _ _ _ _ _ us hl => match us, hl with | [_], _ => rfl) (by decide) .none c_lot_of_row rfl rfl rfl
theorem ok_odd_crossings (Y : Snd.Txt K mg base) (M : All K) : Snd.OkD P w K mg base 3 "odd_crossings" (Snd.spF F_odd_crossings) :=
  Snd.okF (k := 2) (Fs := [F_lot_of_row]) (d := d_odd_crossings) (T := t_odd_crossings) (ps := ["frame", "row"]) Y M.m_odd_crossings sc_odd_crossings (fun _ _ _ _ _ _ us hl => match us, hl with | [_, _], _ => rfl) (by decide) (.cons (by decide) ((ok_lot_of_row Y M).mono (by decide)) .none) c_odd_crossings rfl rfl rfl
theorem ok_some_ring (Y : Snd.Txt K mg base) (M : All K) : Snd.OkD P w K mg base 2 "some_ring" (Snd.spF F_some_ring) :=
  Snd.okF (k := 1) (Fs := []) (d := d_some_ring) (T := t_some_ring) (ps := ["frame", "lot"]) Y M.m_some_ring sc_some_ring (fun _ _ _ _ _ _ us hl => match us, hl with | [_, _], _ => rfl) (by decide) .none c_some_ring rfl rfl rfl
theorem ok_simple_rings_of (Y : Snd.Txt K mg base) (M : All K) : Snd.OkD P w K mg base 3 "simple_rings_of" (Snd.spF F_simple_rings_of) :=
  Snd.okF (k := 2) (Fs := [F_some_ring]) (d := d_simple_rings_of) (T := t_simple_rings_of) (ps := ["frame", "lot"]) Y M.m_simple_rings_of sc_simple_rings_of (fun _ _ _ _ _ _ us hl => match us, hl with | [_, _], _ => rfl) (by decide) (.cons (by decide) ((ok_some_ring Y M).mono (by decide)) .none) c_simple_rings_of rfl rfl rfl
theorem ok_ring_paper (Y : Snd.Txt K mg base) (M : All K) : Snd.OkD P w K mg base 4 "ring_paper" (Snd.spF F_ring_paper) :=
  Snd.okF (k := 3) (Fs := [F_odd_crossings, F_simple_rings_of, F_lot_of_row]) (d := d_ring_paper) (T := t_ring_paper) (ps := ["frame", "row"]) Y M.m_ring_paper sc_ring_paper (fun _ _ _ _ _ _ us hl => match us, hl with | [_, _], _ => rfl) (by decide) (.cons (by decide) ((ok_odd_crossings Y M).mono (by decide)) (.cons (by decide) ((ok_simple_rings_of Y M).mono (by decide)) (.cons (by decide) ((ok_lot_of_row Y M).mono (by decide)) .none))) c_ring_paper rfl rfl rfl
theorem ok_law_some_lot (Y : Snd.Txt K mg base) (M : All K) : Snd.OkD P w K mg base 4 "_law_some_lot" (Snd.spG G_law_some_lot) :=
  Snd.okG (k := 3) (Fs := []) (Gs := [G_law_of, G_law_pick]) (d := d_law_some_lot) (T := t_law_some_lot) (ps := ["source", "many"]) Y M.m_law_some_lot sc_law_some_lot (fun _ _ _ _ _ _ us hl => match us, hl with | [_, _], _ => rfl) (by decide) .none (.cons (by decide) ((ok_law_of Y M).mono (by decide)) (.cons (by decide) ((ok_law_pick Y M).mono (by decide)) .none)) c_law_some_lot rfl (by decide) rfl rfl
theorem ok_all_roads (Y : Snd.Txt K mg base) (M : All K) : Snd.OkD P w K mg base 2 "all_roads" (Snd.spF F_all_roads) :=
  Snd.okF (k := 1) (Fs := []) (d := d_all_roads) (T := t_all_roads) (ps := ["frame"]) Y M.m_all_roads sc_all_roads (fun _ _ _ _ _ _ us hl => match us, hl with | [_], _ => rfl) (by decide) .none c_all_roads rfl rfl rfl
theorem ok_is_pair_with (Y : Snd.Txt K mg base) (M : All K) : Snd.OkD P w K mg base 2 "is_pair_with" (Snd.spF F_is_pair_with) :=
  Snd.okF (k := 1) (Fs := []) (d := d_is_pair_with) (T := t_is_pair_with) (ps := ["value", "words"]) Y M.m_is_pair_with sc_is_pair_with (fun _ _ _ _ _ _ us hl => match us, hl with | [_, _], _ => rfl) (by decide) .none c_is_pair_with rfl rfl rfl
theorem ok_is_number_of (Y : Snd.Txt K mg base) (M : All K) : Snd.OkD P w K mg base 2 "is_number_of" (Snd.spF F_is_number_of) :=
  Snd.okF (k := 1) (Fs := []) (d := d_is_number_of) (T := t_is_number_of) (ps := ["value", "many"]) Y M.m_is_number_of sc_is_number_of (fun _ _ _ _ _ _ us hl => match us, hl with | [_, _], _ => rfl) (by decide) .none c_is_number_of rfl rfl rfl
theorem ok_is_lot_of_numbers (Y : Snd.Txt K mg base) (M : All K) : Snd.OkD P w K mg base 3 "is_lot_of_numbers" (Snd.spF F_is_lot_of_numbers) :=
  Snd.okF (k := 2) (Fs := [F_is_number_of]) (d := d_is_lot_of_numbers) (T := t_is_lot_of_numbers) (ps := ["value", "many"]) Y M.m_is_lot_of_numbers sc_is_lot_of_numbers (fun _ _ _ _ _ _ us hl => match us, hl with | [_, _], _ => rfl) (by decide) (.cons (by decide) ((ok_is_number_of Y M).mono (by decide)) .none) c_is_lot_of_numbers rfl rfl rfl
theorem ok_are_lots_up (Y : Snd.Txt K mg base) (M : All K) : Snd.OkD P w K mg base 4 "are_lots_up" (Snd.spF F_are_lots_up) :=
  Snd.okF (k := 3) (Fs := [F_is_lot_of_numbers]) (d := d_are_lots_up) (T := t_are_lots_up) (ps := ["value", "many"]) Y M.m_are_lots_up sc_are_lots_up (fun _ _ _ _ _ _ us hl => match us, hl with | [_, _], _ => rfl) (by decide) (.cons (by decide) ((ok_is_lot_of_numbers Y M).mono (by decide)) .none) c_are_lots_up rfl rfl rfl
theorem ok_heads_by (Y : Snd.Txt K mg base) (M : All K) : Snd.OkD P w K mg base 2 "heads_by" (Snd.spF F_heads_by) :=
  Snd.okF (k := 1) (Fs := []) (d := d_heads_by) (T := t_heads_by) (ps := ["frame", "lot"]) Y M.m_heads_by sc_heads_by (fun _ _ _ _ _ _ us hl => match us, hl with | [_, _], _ => rfl) (by decide) .none c_heads_by rfl rfl rfl
theorem ok_pieces_by (Y : Snd.Txt K mg base) (M : All K) : Snd.OkD P w K mg base 3 "pieces_by" (Snd.spF F_pieces_by) :=
  Snd.okF (k := 2) (Fs := [F_heads_by]) (d := d_pieces_by) (T := t_pieces_by) (ps := ["frame", "lot"]) Y M.m_pieces_by sc_pieces_by (fun _ _ _ _ _ _ us hl => match us, hl with | [_, _], _ => rfl) (by decide) (.cons (by decide) ((ok_heads_by Y M).mono (by decide)) .none) c_pieces_by rfl rfl rfl
theorem ok_piece_count (Y : Snd.Txt K mg base) (M : All K) : Snd.OkD P w K mg base 4 "piece_count" (Snd.spF F_piece_count) :=
  Snd.okF (k := 3) (Fs := [F_pieces_by]) (d := d_piece_count) (T := t_piece_count) (ps := ["frame", "lot"]) Y M.m_piece_count sc_piece_count (fun _ _ _ _ _ _ us hl => match us, hl with | [_, _], _ => rfl) (by decide) (.cons (by decide) ((ok_pieces_by Y M).mono (by decide)) .none) c_piece_count rfl rfl rfl
theorem ok_frame_rank (Y : Snd.Txt K mg base) (M : All K) : Snd.OkD P w K mg base 5 "frame_rank" (Snd.spF F_frame_rank) :=
  Snd.okF (k := 4) (Fs := [F_piece_count]) (d := d_frame_rank) (T := t_frame_rank) (ps := ["frame", "lot"]) Y M.m_frame_rank sc_frame_rank (fun _ _ _ _ _ _ us hl => match us, hl with | [_, _], _ => rfl) (by decide) (.cons (by decide) ((ok_piece_count Y M).mono (by decide)) .none) c_frame_rank rfl rfl rfl
theorem ok_is_simple_ring (Y : Snd.Txt K mg base) (M : All K) : Snd.OkD P w K mg base 6 "is_simple_ring" (Snd.spF F_is_simple_ring) :=
  Snd.okF (k := 5) (Fs := [F_frame_rank]) (d := d_is_simple_ring) (T := t_is_simple_ring) (ps := ["frame", "lot"]) Y M.m_is_simple_ring sc_is_simple_ring (fun _ _ _ _ _ _ us hl => match us, hl with | [_, _], _ => rfl) (by decide) (.cons (by decide) ((ok_frame_rank Y M).mono (by decide)) .none) c_is_simple_ring rfl rfl rfl
theorem ok_judge_ring_paper (Y : Snd.Txt K mg base) (M : All K) : Snd.OkD P w K mg base 7 "judge_ring_paper" (Snd.spF F_judge_ring_paper) :=
  Snd.okF (k := 6) (Fs := [F_all_roads, F_is_pair_with, F_are_lots_up, F_is_number_of, F_is_simple_ring, F_odd_crossings]) (d := d_judge_ring_paper) (T := t_judge_ring_paper) (ps := ["frame", "row", "value"]) Y M.m_judge_ring_paper sc_judge_ring_paper (fun _ _ _ _ _ _ us hl => match us, hl with | [_, _, _], _ => rfl) (by decide) (.cons (by decide) ((ok_all_roads Y M).mono (by decide)) (.cons (by decide) ((ok_is_pair_with Y M).mono (by decide)) (.cons (by decide) ((ok_are_lots_up Y M).mono (by decide)) (.cons (by decide) ((ok_is_number_of Y M).mono (by decide)) (.cons (by decide) ((ok_is_simple_ring Y M).mono (by decide)) (.cons (by decide) ((ok_odd_crossings Y M).mono (by decide)) .none)))))) c_judge_ring_paper rfl rfl rfl
theorem ok_law_even_lot (Y : Snd.Txt K mg base) (M : All K) : Snd.OkD P w K mg base 4 "_law_even_lot" (Snd.spG G_law_even_lot) :=
  Snd.okG (k := 3) (Fs := []) (Gs := [G_law_pick, G_law_of]) (d := d_law_even_lot) (T := t_law_even_lot) (ps := ["source", "frame"]) Y M.m_law_even_lot sc_law_even_lot (fun _ _ _ _ _ _ us hl => match us, hl with | [_, _], _ => rfl) (by decide) .none (.cons (by decide) ((ok_law_pick Y M).mono (by decide)) (.cons (by decide) ((ok_law_of Y M).mono (by decide)) .none)) c_law_even_lot rfl (by decide) rfl rfl
theorem ok_law_row (Y : Snd.Txt K mg base) (M : All K) : Snd.OkD P w K mg base 2 "_law_row" (Snd.spF F_law_row) :=
  Snd.okF (k := 1) (Fs := []) (d := d_law_row) (T := t_law_row) (ps := ["many", "lot"]) Y M.m_law_row sc_law_row (fun _ _ _ _ _ _ us hl => match us, hl with | [_, _], _ => rfl) (by decide) .none c_law_row rfl rfl rfl
theorem ok_law_odd (Y : Snd.Txt K mg base) (M : All K) : Snd.OkD P w K mg base 2 "_law_odd" (Snd.spF F_law_odd) :=
  Snd.okF (k := 1) (Fs := []) (d := d_law_odd) (T := t_law_odd) (ps := ["frame", "lot"]) Y M.m_law_odd sc_law_odd (fun _ _ _ _ _ _ us hl => match us, hl with | [_, _], _ => rfl) (by decide) .none c_law_odd rfl rfl rfl
theorem ok_law_is_pair (Y : Snd.Txt K mg base) (M : All K) : Snd.OkD P w K mg base 2 "_law_is_pair" (Snd.spF F_law_is_pair) :=
  Snd.okF (k := 1) (Fs := []) (d := d_law_is_pair) (T := t_law_is_pair) (ps := ["value", "words"]) Y M.m_law_is_pair sc_law_is_pair (fun _ _ _ _ _ _ us hl => match us, hl with | [_, _], _ => rfl) (by decide) .none c_law_is_pair rfl rfl rfl
theorem ok_law_is_lot (Y : Snd.Txt K mg base) (M : All K) : Snd.OkD P w K mg base 2 "_law_is_lot" (Snd.spF F_law_is_lot) :=
  Snd.okF (k := 1) (Fs := []) (d := d_law_is_lot) (T := t_law_is_lot) (ps := ["value", "many"]) Y M.m_law_is_lot sc_law_is_lot (fun _ _ _ _ _ _ us hl => match us, hl with | [_, _], _ => rfl) (by decide) .none c_law_is_lot rfl rfl rfl
theorem ok_law_pieces (Y : Snd.Txt K mg base) (M : All K) : Snd.OkD P w K mg base 2 "_law_pieces" (Snd.spF F_law_pieces) :=
  Snd.okF (k := 1) (Fs := []) (d := d_law_pieces) (T := t_law_pieces) (ps := ["frame", "lot"]) Y M.m_law_pieces sc_law_pieces (fun _ _ _ _ _ _ us hl => match us, hl with | [_, _], _ => rfl) (by decide) .none c_law_pieces rfl rfl rfl
theorem ok_law_is_ring (Y : Snd.Txt K mg base) (M : All K) : Snd.OkD P w K mg base 3 "_law_is_ring" (Snd.spF F_law_is_ring) :=
  Snd.okF (k := 2) (Fs := [F_law_odd, F_law_pieces]) (d := d_law_is_ring) (T := t_law_is_ring) (ps := ["frame", "lot"]) Y M.m_law_is_ring sc_law_is_ring (fun _ _ _ _ _ _ us hl => match us, hl with | [_, _], _ => rfl) (by decide) (.cons (by decide) ((ok_law_odd Y M).mono (by decide)) (.cons (by decide) ((ok_law_pieces Y M).mono (by decide)) .none)) c_law_is_ring rfl rfl rfl
theorem ok_law_fault (Y : Snd.Txt K mg base) (M : All K) : Snd.OkD P w K mg base 4 "_law_fault" (Snd.spF F_law_fault) :=
  Snd.okF (k := 3) (Fs := [F_law_is_pair, F_law_is_lot, F_law_odd, F_law_is_ring]) (d := d_law_fault) (T := t_law_fault) (ps := ["frame", "row", "value"]) Y M.m_law_fault sc_law_fault (fun _ _ _ _ _ _ us hl => match us, hl with | [_, _, _], _ => rfl) (by decide) (.cons (by decide) ((ok_law_is_pair Y M).mono (by decide)) (.cons (by decide) ((ok_law_is_lot Y M).mono (by decide)) (.cons (by decide) ((ok_law_odd Y M).mono (by decide)) (.cons (by decide) ((ok_law_is_ring Y M).mono (by decide)) .none)))) c_law_fault rfl rfl rfl
theorem ok_law_bent (Y : Snd.Txt K mg base) (M : All K) : ∀ n : Nat, Snd.OkD P w K mg base (4 + n) "_law_bent" (Snd.spG (G_law_bent n))
  | 0 => Snd.okNever Y M.m_law_bent fun f fd m => ⟨["source", "value"], m.fun_.binds (fun _ _ _ _ _ _ us hl => match us, hl with | [_, _], _ => rfl)⟩
  | n + 1 => (Snd.okG (k := 4 + n) (Fs := []) (Gs := [G_law_pick, G_law_of, (G_law_bent n)]) (d := d_law_bent) (T := t_law_bent) (ps := ["source", "value"]) Y M.m_law_bent sc_law_bent (fun _ _ _ _ _ _ us hl => match us, hl with | [_, _], _ => rfl) (by omega) .none (.cons (by decide) ((ok_law_pick Y M).mono (by omega)) (.cons (by decide) ((ok_law_of Y M).mono (by omega)) (.cons (by decide) ((ok_law_bent Y M n).mono (by omega)) .none))) c_law_bent rfl (by decide) rfl rfl).mono (by omega)
theorem ok_law (Y : Snd.Txt K mg base) (M : All K) {f : Addr} {fd : FuncData} (F : Fun K "law" "law" s_law f fd) (H : Plain) : Snd.FnG P w K mg base 13 f fd ["script"] (Snd.spLaw K) :=
  Snd.okLaw (k := 12) (Fs := [F_ring_paper, F_judge_ring_paper, F_law_row, F_law_odd, F_law_fault, F_is_simple_ring, F_law_is_ring, F_odd_crossings, F_simple_rings_of]) (Gs := [G_law_frame, G_law_some_lot, G_law_even_lot, G_law_pick, (G_law_bent 8), G_law_of]) (T := t_law) (zs := d_law.body) (xs := (defBody s_law).tail) Y F sc_law (by decide) (.cons (by decide) ((ok_ring_paper Y M).mono (by decide)) (.cons (by decide) ((ok_judge_ring_paper Y M).mono (by decide)) (.cons (by decide) ((ok_law_row Y M).mono (by decide)) (.cons (by decide) ((ok_law_odd Y M).mono (by decide)) (.cons (by decide) ((ok_law_fault Y M).mono (by decide)) (.cons (by decide) ((ok_is_simple_ring Y M).mono (by decide)) (.cons (by decide) ((ok_law_is_ring Y M).mono (by decide)) (.cons (by decide) ((ok_odd_crossings Y M).mono (by decide)) (.cons (by decide) ((ok_simple_rings_of Y M).mono (by decide)) .none))))))))) (.cons (by decide) ((ok_law_frame Y M).mono (by decide)) (.cons (by decide) ((ok_law_some_lot Y M).mono (by decide)) (.cons (by decide) ((ok_law_even_lot Y M).mono (by decide)) (.cons (by decide) ((ok_law_pick Y M).mono (by decide)) (.cons (by decide) ((ok_law_bent Y M 8).mono (by decide)) (.cons (by decide) ((ok_law_of Y M).mono (by decide)) .none)))))) ((ok_law_source Y M.m_law_source).mono (by decide)) rfl c_law rfl rfl (by decide) (by decide +kernel) (by decide +kernel) (by decide +kernel) H
end
theorem all_mk {l : PySem.W.OpenLaw} {w : World} {K : PySem.W.Frag} {h : Heap} {mg : Str → Option Value} {fa : Addr} (X : K.In h) (G : h.Ns mainGlobals mg) (hfa : mg "law" = some (.ref fa)) (H : Plain)
    (h_law_source : Snd.IsMade K "_law_source" s_law_source) (h_law_pick : Snd.IsMade K "_law_pick" s_law_pick) (h_law_of : Snd.IsMade K "_law_of" s_law_of) (h_law_frame : Snd.IsMade K "_law_frame" s_law_frame) (h_lot_of_row : Snd.IsMade K "lot_of_row" s_lot_of_row) (h_odd_crossings : Snd.IsMade K "odd_crossings" s_odd_crossings) (h_some_ring : Snd.IsMade K "some_ring" s_some_ring) (h_simple_rings_of : Snd.IsMade K "simple_rings_of" s_simple_rings_of) (h_ring_paper : Snd.IsMade K "ring_paper" s_ring_paper) (h_law_some_lot : Snd.IsMade K "_law_some_lot" s_law_some_lot) (h_all_roads : Snd.IsMade K "all_roads" s_all_roads) (h_is_pair_with : Snd.IsMade K "is_pair_with" s_is_pair_with) (h_is_number_of : Snd.IsMade K "is_number_of" s_is_number_of) (h_is_lot_of_numbers : Snd.IsMade K "is_lot_of_numbers" s_is_lot_of_numbers) (h_are_lots_up : Snd.IsMade K "are_lots_up" s_are_lots_up) (h_heads_by : Snd.IsMade K "heads_by" s_heads_by) (h_pieces_by : Snd.IsMade K "pieces_by" s_pieces_by) (h_piece_count : Snd.IsMade K "piece_count" s_piece_count) (h_frame_rank : Snd.IsMade K "frame_rank" s_frame_rank) (h_is_simple_ring : Snd.IsMade K "is_simple_ring" s_is_simple_ring) (h_judge_ring_paper : Snd.IsMade K "judge_ring_paper" s_judge_ring_paper) (h_law_even_lot : Snd.IsMade K "_law_even_lot" s_law_even_lot) (h_law_row : Snd.IsMade K "_law_row" s_law_row) (h_law_odd : Snd.IsMade K "_law_odd" s_law_odd) (h_law_is_pair : Snd.IsMade K "_law_is_pair" s_law_is_pair) (h_law_is_lot : Snd.IsMade K "_law_is_lot" s_law_is_lot) (h_law_pieces : Snd.IsMade K "_law_pieces" s_law_pieces) (h_law_is_ring : Snd.IsMade K "_law_is_ring" s_law_is_ring) (h_law_fault : Snd.IsMade K "_law_fault" s_law_fault) (h_law_bent : Snd.IsMade K "_law_bent" s_law_bent) (hl : Snd.IsMade K "law" s_law) (hb : Snd.NoBlt K) :
    ∃ fd : FuncData, (∀ (s : Shared) (v : Value), BindsTo s fd ⟨[v], []⟩ [("script", v)]) ∧ ∀ base : Heap, K.In base → base.Ns mainGlobals mg → Snd.FnG l.prog w K mg base 13 fa fd ["script"] (Snd.spLaw K) := by
  obtain ⟨f, oc, od, an, osl, kV, doc, pm, cdv, ct, a, lk, c, kp⟩ := hl
  have e := hfa.symm.trans (PySem.W.mg_of X G a)
  cases e
  have M : All K := ⟨h_law_source, h_law_pick, h_law_of, h_law_frame, h_lot_of_row, h_odd_crossings, h_some_ring, h_simple_rings_of, h_ring_paper, h_law_some_lot, h_all_roads, h_is_pair_with, h_is_number_of, h_is_lot_of_numbers, h_are_lots_up, h_heads_by, h_pieces_by, h_piece_count, h_frame_rank, h_is_simple_ring, h_judge_ring_paper, h_law_even_lot, h_law_row, h_law_odd, h_law_is_pair, h_law_is_lot, h_law_pieces, h_law_is_ring, h_law_fault, h_law_bent⟩
  exact ⟨_, fun s v => .of_eq rfl, fun base Xb Gb => ok_law ⟨fun nm v e => PySem.W.mg_of X G e, Snd.noBlt X G hb⟩ M (fun_mk lk c kp) H⟩
end K80

/-! ## the end -/
set_option Elab.async false
open PySem PySem.W PyProof.Rows
set_option maxRecDepth 100000 in
set_option maxHeartbeats 0 in
theorem PySem.Challenge.cw_lacednets_k80_ring_papers_judged_holds : PySem.Challenge.rw_lacednets_k80_ring_papers_judged.Holds := by
  w_on; o_law; k_head; (case hw => w_witness2)
  k_fill
  refine Snd.walkG (l := PySem.Challenge.rw_lacednets_k80_ring_papers_judged) (n := 63) (k := 13) (x := "script") (sp := fun w => Snd.spLaw _) rfl (by decide) rfl ⟨rfl, by decide, by decide⟩ (fun w h Y => PySem.W.kIn_of Y) ?F (fun _ _ a ns hl _ hS => ⟨a, ns, rfl, hS, hl, fun _ => rfl⟩)
  case F =>
    intro w mg fa h KX G hmg
    refine' K80.all_mk KX G hmg K80.plain ?m0 ?m1 ?m2 ?m3 ?m4 ?m5 ?m6 ?m7 ?m8 ?m9 ?m10 ?m11 ?m12 ?m13 ?m14 ?m15 ?m16 ?m17 ?m18 ?m19 ?m20 ?m21 ?m22 ?m23 ?m24 ?m25 ?m26 ?m27 ?m28 ?m29 ?ml ?mb
    (case m0 =>
      refine' Snd.isMade ?a ?l ?c ?k
      (case a => k_is)
      (case l => k_is)
      (case c => k_is)
      (case k => k_is))
    (case m1 =>
      refine' Snd.isMade ?a ?l ?c ?k
      (case a => k_is)
      (case l => k_is)
      (case c => k_is)
      (case k => k_is))
    (case m2 =>
      refine' Snd.isMade ?a ?l ?c ?k
      (case a => k_is)
      (case l => k_is)
      (case c => k_is)
      (case k => k_is))
    (case m3 =>
      refine' Snd.isMade ?a ?l ?c ?k
      (case a => k_is)
      (case l => k_is)
      (case c => k_is)
      (case k => k_is))
    (case m4 =>
      refine' Snd.isMade ?a ?l ?c ?k
      (case a => k_is)
      (case l => k_is)
      (case c => k_is)
      (case k => k_is))
    (case m5 =>
      refine' Snd.isMade ?a ?l ?c ?k
      (case a => k_is)
      (case l => k_is)
      (case c => k_is)
      (case k => k_is))
    (case m6 =>
      refine' Snd.isMade ?a ?l ?c ?k
      (case a => k_is)
      (case l => k_is)
      (case c => k_is)
      (case k => k_is))
    (case m7 =>
      refine' Snd.isMade ?a ?l ?c ?k
      (case a => k_is)
      (case l => k_is)
      (case c => k_is)
      (case k => k_is))
    (case m8 =>
      refine' Snd.isMade ?a ?l ?c ?k
      (case a => k_is)
      (case l => k_is)
      (case c => k_is)
      (case k => k_is))
    (case m9 =>
      refine' Snd.isMade ?a ?l ?c ?k
      (case a => k_is)
      (case l => k_is)
      (case c => k_is)
      (case k => k_is))
    (case m10 =>
      refine' Snd.isMade ?a ?l ?c ?k
      (case a => k_is)
      (case l => k_is)
      (case c => k_is)
      (case k => k_is))
    (case m11 =>
      refine' Snd.isMade ?a ?l ?c ?k
      (case a => k_is)
      (case l => k_is)
      (case c => k_is)
      (case k => k_is))
    (case m12 =>
      refine' Snd.isMade ?a ?l ?c ?k
      (case a => k_is)
      (case l => k_is)
      (case c => k_is)
      (case k => k_is))
    (case m13 =>
      refine' Snd.isMade ?a ?l ?c ?k
      (case a => k_is)
      (case l => k_is)
      (case c => k_is)
      (case k => k_is))
    (case m14 =>
      refine' Snd.isMade ?a ?l ?c ?k
      (case a => k_is)
      (case l => k_is)
      (case c => k_is)
      (case k => k_is))
    (case m15 =>
      refine' Snd.isMade ?a ?l ?c ?k
      (case a => k_is)
      (case l => k_is)
      (case c => k_is)
      (case k => k_is))
    (case m16 =>
      refine' Snd.isMade ?a ?l ?c ?k
      (case a => k_is)
      (case l => k_is)
      (case c => k_is)
      (case k => k_is))
    (case m17 =>
      refine' Snd.isMade ?a ?l ?c ?k
      (case a => k_is)
      (case l => k_is)
      (case c => k_is)
      (case k => k_is))
    (case m18 =>
      refine' Snd.isMade ?a ?l ?c ?k
      (case a => k_is)
      (case l => k_is)
      (case c => k_is)
      (case k => k_is))
    (case m19 =>
      refine' Snd.isMade ?a ?l ?c ?k
      (case a => k_is)
      (case l => k_is)
      (case c => k_is)
      (case k => k_is))
    (case m20 =>
      refine' Snd.isMade ?a ?l ?c ?k
      (case a => k_is)
      (case l => k_is)
      (case c => k_is)
      (case k => k_is))
    (case m21 =>
      refine' Snd.isMade ?a ?l ?c ?k
      (case a => k_is)
      (case l => k_is)
      (case c => k_is)
      (case k => k_is))
    (case m22 =>
      refine' Snd.isMade ?a ?l ?c ?k
      (case a => k_is)
      (case l => k_is)
      (case c => k_is)
      (case k => k_is))
    (case m23 =>
      refine' Snd.isMade ?a ?l ?c ?k
      (case a => k_is)
      (case l => k_is)
      (case c => k_is)
      (case k => k_is))
    (case m24 =>
      refine' Snd.isMade ?a ?l ?c ?k
      (case a => k_is)
      (case l => k_is)
      (case c => k_is)
      (case k => k_is))
    (case m25 =>
      refine' Snd.isMade ?a ?l ?c ?k
      (case a => k_is)
      (case l => k_is)
      (case c => k_is)
      (case k => k_is))
    (case m26 =>
      refine' Snd.isMade ?a ?l ?c ?k
      (case a => k_is)
      (case l => k_is)
      (case c => k_is)
      (case k => k_is))
    (case m27 =>
      refine' Snd.isMade ?a ?l ?c ?k
      (case a => k_is)
      (case l => k_is)
      (case c => k_is)
      (case k => k_is))
    (case m28 =>
      refine' Snd.isMade ?a ?l ?c ?k
      (case a => k_is)
      (case l => k_is)
      (case c => k_is)
      (case k => k_is))
    (case m29 =>
      refine' Snd.isMade ?a ?l ?c ?k
      (case a => k_is)
      (case l => k_is)
      (case c => k_is)
      (case k => k_is))
    (case ml =>
      refine' Snd.isMade ?a ?l ?c ?k
      (case a => k_is)
      (case l => k_is)
      (case c => k_is)
      (case k => k_is))
    (case mb => refine ⟨?_, ?_, ?_, ?_, ?_, ?_, ?_, ?_, ?_, ?_, ?_, ?_, ?_, ?_, ?_, ?_, ?_, ?_⟩ <;> k_is)
