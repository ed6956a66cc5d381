import PyProof.Rows.All
import Wide.All
import OpenK.AllK
import Wide.FinOn
import HandS.ForMost
import HandS.Wide
import HandS.Walk
import HandS.IsInst
import HandS.TupAny
import HandS.Deep
import HandS.Style
import HandS.Zip
import HandS.Rev
import PyProof.MinMaxWalk
import PyProof.WalkInts
import PyProof.P3Eq
import HandS.TupLe
import HandS.List
import HandS.Small
import HandS.TupMul
import KE.KMulAny
import PyProof.Rows.StrOr
import PyProof.ReprRoads
import HandS.SortInts
import HandS.SortOrd
import HandS.Conv
import HandS.ExcValue
import KE.KDictSum
import KE.GoesMore
import KE.GoesEnum
import KE.GoesZip
import KE.KDictZip
import HandS.More
import HandS.RevTup
import HandS.TryOnly
import PyProof.Rows.StrJoin2
import HandS.SetFor
import HandS.Strs
import PyProof.ReprBulk
import PySem.Challenge.RW_twomarks_k03_sums_and_products
set_option Elab.async false
set_option linter.all false
set_option maxRecDepth 100000
/-! A small language over plain data, and what it evaluates to. -/
namespace Tw
open PySem

abbrev D := PyData
/-- sizes of lists and texts that are let by -/
def BIG : Nat := 1000000

inductive Ty where
  | int | bool | str | list | tuple | dict
  deriving DecidableEq
def Ty.has : Ty → D → Bool
  | .int, .int _ => true
  | .int, .bool _ => true
  | .bool, .bool _ => true
  | .str, .str _ => true
  | .list, .list _ => true
  | .tuple, .tuple _ => true
  | .dict, .dict _ => true
  | _, _ => false

inductive Op where
  | add | sub | mul | fdiv | mod | pow | neg
  | lt | le | gt | ge | eq | ne | isin | notin
  | isNone | notNone | isBool (b : Bool) | notBool (b : Bool)
  | idx | rev | sorted | index | count | sset | dpairs | denum | join
  | lrange | trange
  | len | abs | int | str | repr | sum | maxL | minL | max2 | min2 | all | any | tuple | list | inst (t : Ty)
  deriving DecidableEq

def asStrs : List D → Option (List Str)
  | [] => some []
  | .str x :: r => match asStrs r with
    | some q => some (x :: q)
    | none => none
  | _ => none
def asInts : List D → Option (List Int)
  | [] => some []
  | .int i :: r => match asInts r with
    | some is => some (i :: is)
    | none => none
  | _ :: _ => none
def asBools : List D → Option (List Bool)
  | [] => some []
  | .bool i :: r => match asBools r with
    | some is => some (i :: is)
    | none => none
  | _ :: _ => none
def maxOf : Int → List Int → Int
  | m, [] => m
  | m, x :: r => maxOf (if x > m then x else m) r
def minOf : Int → List Int → Int
  | m, [] => m
  | m, x :: r => minOf (if x < m then x else m) r
def ins (x : Int) : List Int → List Int
  | [] => [x]
  | y :: r => if x ≤ y then x :: y :: r else y :: ins x r
def isort : List Int → List Int
  | [] => []
  | x :: r => ins x (isort r)
theorem ins_perm (x : Int) : ∀ l : List Int, (ins x l).Perm (x :: l)
  | [] => .refl _
  | y :: r => by
    unfold ins
    split
    · exact .refl _
    · exact (List.Perm.cons y (ins_perm x r)).trans (.swap x y r)
theorem isort_perm : ∀ l : List Int, (isort l).Perm l
  | [] => .refl _
  | x :: r => (ins_perm x (isort r)).trans ((isort_perm r).cons x)
theorem ins_mem {x y : Int} {l : List Int} (h : y ∈ ins x l) : y = x ∨ y ∈ l := by
  have := (ins_perm x l).mem_iff.mp h
  simpa using this
theorem ins_sorted (x : Int) : ∀ l : List Int, l.Pairwise (· ≤ ·) → (ins x l).Pairwise (· ≤ ·)
  | [], _ => by simp [ins]
  | y :: r, h => by
    rw [List.pairwise_cons] at h
    unfold ins
    split
    · rename_i z
      rw [List.pairwise_cons]
      refine ⟨fun a ha => ?_, by rw [List.pairwise_cons]; exact h⟩
      rcases List.mem_cons.mp ha with rfl | ha
      · exact z
      · exact Int.le_trans z (h.1 a ha)
    · rename_i z
      rw [List.pairwise_cons]
      refine ⟨fun a ha => ?_, ins_sorted x r h.2⟩
      rcases ins_mem ha with rfl | ha
      · omega
      · exact h.1 a ha
theorem isort_sorted : ∀ l : List Int, (isort l).Pairwise (· ≤ ·)
  | [] => by simp [isort]
  | x :: r => ins_sorted x _ (isort_sorted r)
theorem sorted_one : ∀ {a b : List Int}, a.Perm b → a.Pairwise (· ≤ ·) → b.Pairwise (· ≤ ·) → a = b
  | [], b, h, _, _ => by
    have := h.length_eq
    cases b with
    | nil => rfl
    | cons => simp at this
  | x :: r, b, h, p, q => by
    cases b with
    | nil => have := h.length_eq; simp at this
    | cons y t =>
      rw [List.pairwise_cons] at p q
      have e : x = y := by
        have h1 : x ∈ y :: t := h.mem_iff.mp (by simp)
        have h2 : y ∈ x :: r := h.mem_iff.mpr (by simp)
        rcases List.mem_cons.mp h1 with e | h1
        · exact e
        · rcases List.mem_cons.mp h2 with e | h2
          · exact e.symm
          · have := p.1 y h2
            have := q.1 x h1
            omega
      subst e
      rw [sorted_one ((List.perm_cons x).mp h) p.2 q.2]
/-- sorted, each once -/
def insD (x : Int) : List Int → List Int
  | [] => [x]
  | y :: r => if x < y then x :: y :: r else if x = y then y :: r else y :: insD x r
def sset : List Int → List Int
  | [] => []
  | x :: r => insD x (sset r)
theorem insD_mem {x k : Int} : ∀ {l : List Int}, k ∈ insD x l ↔ k = x ∨ k ∈ l
  | [] => by simp [insD]
  | y :: r => by
    unfold insD
    split
    · simp
    · split
      · rename_i h
        subst h
        simp
      · have := insD_mem (x := x) (k := k) (l := r)
        simp only [List.mem_cons, this]
        constructor
        · rintro (h | h | h) <;> simp [h]
        · rintro (h | h | h) <;> simp [h]
theorem insD_lt (x : Int) : ∀ l : List Int, l.Pairwise (· < ·) → (insD x l).Pairwise (· < ·)
  | [], _ => by simp [insD]
  | y :: r, h => by
    have h' := List.pairwise_cons.mp h
    unfold insD
    split
    · rename_i z
      rw [List.pairwise_cons]
      refine ⟨fun a ha => ?_, h⟩
      rcases List.mem_cons.mp ha with rfl | ha
      · exact z
      · exact Int.lt_trans z (h'.1 a ha)
    · split
      · exact h
      · rename_i z1 z2
        rw [List.pairwise_cons]
        refine ⟨fun a ha => ?_, insD_lt x r h'.2⟩
        rcases insD_mem.mp ha with rfl | ha
        · omega
        · exact h'.1 a ha
theorem sset_mem {k : Int} : ∀ {l : List Int}, k ∈ sset l ↔ k ∈ l
  | [] => by simp [sset]
  | x :: r => by
    unfold sset
    rw [insD_mem, sset_mem, List.mem_cons]
theorem sset_lt : ∀ l : List Int, (sset l).Pairwise (· < ·)
  | [] => by simp [sset]
  | x :: r => insD_lt x _ (sset_lt r)
theorem lt_one : ∀ {a b : List Int}, a.Pairwise (· < ·) → b.Pairwise (· < ·) → (∀ k, k ∈ a ↔ k ∈ b) → a = b
  | [], [], _, _, _ => rfl
  | [], y :: r, _, _, h => by have := (h y).mpr (by simp); simp at this
  | x :: r, [], _, _, h => by have := (h x).mp (by simp); simp at this
  | x :: r, y :: t, p, q, h => by
    rw [List.pairwise_cons] at p q
    have e : x = y := by
      have h1 := (h x).mp (by simp)
      have h2 := (h y).mpr (by simp)
      rcases List.mem_cons.mp h1 with e | h1
      · exact e
      · rcases List.mem_cons.mp h2 with e | h2
        · exact e.symm
        · have := p.1 y h2
          have := q.1 x h1
          omega
    subst e
    congr 1
    refine lt_one p.2 q.2 fun k => ?_
    have := h k
    simp only [List.mem_cons] at this
    constructor
    · intro hk
      have h3 := p.1 k hk
      rcases this.mp (.inr hk) with e | e
      · omega
      · exact e
    · intro hk
      have h3 := q.1 k hk
      rcases this.mpr (.inr hk) with e | e
      · omega
      · exact e
/-- a product's factors are no wonder -/
def mulOk (a b : Int) : Bool := decide (a.natAbs.log2 + b.natAbs.log2 < 1000000)
def divOk (b : Int) : Bool := decide (b ≠ 0) && decide (b.natAbs.log2 < 9000)
def powOk (a b : Int) : Bool := decide (0 ≤ b) && decide (b ≤ 1000000) && decide (a.natAbs < 2 ^ 64)
def showOk (i : Int) : Bool := decide (i.natAbs.log2 < 1920)
def cut {α : Type} (xs : List α) (lo hi : Option Int) : List α := (xs.drop (HT.sIx xs.length 0 lo)).take (HT.sIx xs.length xs.length hi - HT.sIx xs.length 0 lo)
def seqOf : D → Option (List D)
  | .list xs => some xs
  | .tuple xs => some xs
  | _ => none
/-- the value of a key that stands in a dict -/
def keyEq1 : D → D → Bool
  | .int a, .int b => decide (a = b)
  | .str a, .str b => decide (a = b)
  | _, _ => false
def keyEqs : List D → List D → Bool
  | [], [] => true
  | x :: r, y :: t => keyEq1 x y && keyEqs r t
  | _, _ => false
def keyEq : D → D → Bool
  | .int a, .int b => decide (a = b)
  | .str a, .str b => decide (a = b)
  | .tuple xs, .tuple ys => keyEqs xs ys
  | _, _ => false
def getK : List (D × D) → D → Option D
  | [], _ => none
  | (a, v) :: r, k => if keyEq a k then some v else getK r k
def putK (kvs : List (D × D)) (k v : D) : List (D × D) :=
  if kvs.any fun p => keyEq p.1 k then kvs.map fun p => if keyEq p.1 k then (p.1, v) else p else kvs ++ [(k, v)]
def isKey : D → Bool
  | .int _ => true
  | .str _ => true
  | _ => false
/-- a key that is a tuple -/
def isKeyT : D → Bool
  | .tuple xs => xs.all isKey
  | _ => false
def tupHead : List (D × D) → Bool
  | (.tuple _, _) :: _ => true
  | _ => false
/-- what may be asked of a dict, put into it -/
def okKey (kvs : List (D × D)) (k : D) : Bool := (isKey k && !tupHead kvs) || (isKeyT k && (kvs.isEmpty || tupHead kvs))
def mergeUp (acc : List (D × D)) : List (D × D) → List (D × D)
  | [] => acc
  | (k, v) :: r => mergeUp (putK acc k v) r
/-- the pairs of dict(enumerate(x)) -/
def enD : Nat → List D → List (D × D)
  | _, [] => []
  | i, x :: r => (.int (i : Nat), x) :: enD (i + 1) r
def pairsOf : List D → Option (List (D × D))
  | [] => some []
  | .tuple [k, v] :: r => if isKey k then (match pairsOf r with
    | some q => some ((k, v) :: q)
    | none => none) else none
  | _ :: _ => none
def sliceD : D → Option Int → Option Int → Option D
  | .list xs, l, h => some (.list (cut xs l h))
  | .tuple xs, l, h => some (.tuple (cut xs l h))
  | _, _, _ => none
def isList : D → Bool
  | .list _ => true
  | _ => false
mutual
def noLst : D → Bool
  | .list _ => false
  | .tuple xs => noLsts xs
  | .dict kvs => noLstK kvs
  | _ => true
def noLsts : List D → Bool
  | [] => true
  | d :: r => noLst d && noLsts r
def noLstK : List (D × D) → Bool
  | [] => true
  | (k, d) :: r => isKey k && noLst d && noLstK r
end
def reprOk (d : D) : Bool := d.showable && decide (d.shown.length ≤ BIG) && decide (d.depth ≤ 50) && (!d.hasDict || noLst d)

def isNoneD : D → Bool
  | .none => true
  | _ => false
/-- a range's numbers -/
def rgD (a b : Int) : List D := (List.range (b - a).toNat).map fun i => .int (a + (i : Nat))
def rgOk (a b : Int) : Bool := decide (-(10 ^ 15) < a) && decide (a < 10 ^ 15) && decide (-(10 ^ 15) < b) && decide (b < 10 ^ 15) && decide ((b - a).toNat ≤ BIG)
/-- whether two things are equal; texts may be any -/
def eqGo : D → D → Option Bool
  | .str a, .str b => some (decide (a = b))
  | a, b => if SeqAt.shaped a && SeqAt.shaped b then some (PyData.eqv a b) else none
theorem eqGo_cases {a b : D} {r : Bool} (h : eqGo a b = some r) : (∃ x y, a = .str x ∧ b = .str y ∧ r = decide (x = y)) ∨ (SeqAt.shaped a = true ∧ SeqAt.shaped b = true ∧ r = PyData.eqv a b) := by
  unfold eqGo at h
  split at h
  · cases h
    exact .inl ⟨_, _, rfl, rfl, rfl⟩
  · split at h
    · rename_i z
      cases h
      rw [Bool.and_eq_true] at z
      exact .inr ⟨z.1, z.2, rfl⟩
    · cases h
theorem eqGo_shaped {a b : D} (h1 : SeqAt.shaped a = true) (h2 : SeqAt.shaped b = true) : eqGo a b = some (PyData.eqv a b) := by
  unfold eqGo
  split
  · simp only [PyData.eqv]
    congr 1
  · simp [h1, h2]
/-! ### tuples of whole numbers, as they compare -/
mutual
def sameSh : D → D → Bool
  | .int _, .int _ => true
  | .tuple xs, .tuple ys => sameShs xs ys
  | _, _ => false
def sameShs : List D → List D → Bool
  | [], [] => true
  | x :: r, y :: t => sameSh x y && sameShs r t
  | _, _ => false
end
mutual
def ltD : D → D → Bool
  | .int a, .int b => decide (a < b)
  | .tuple xs, .tuple ys => ltDs xs ys
  | _, _ => false
def ltDs : List D → List D → Bool
  | x :: r, y :: t => if PyData.eqv x y = true then ltDs r t else ltD x y
  | _, _ => false
end
def minD : D → List D → D
  | m, [] => m
  | m, x :: r => minD (if ltD x m then x else m) r
def minTup : List D → Option D
  | m :: r => if (m :: r).all (fun x => SeqAt.shaped x && sameSh x m) then some (minD m r) else none
  | [] => none
/-- a pair of great numbers -/
def bigPair : D → Bool
  | .tuple [.int i, .int j] => decide (i.natAbs.log2 < 12000) && decide (j.natAbs.log2 < 12000)
  | _ => false
/-- sorted(a list or a tuple of ints, a dict whose keys are ints) -/
def sortedE : D → Option D
  | .list xs => match asInts xs with
    | some is => some (.list ((isort is).map PyData.int))
    | none => none
  | .tuple xs => match asInts xs with
    | some is => some (.list ((isort is).map PyData.int))
    | none => none
  | .dict kvs => match asInts (kvs.map Prod.fst) with
    | some is => some (.list ((isort is).map PyData.int))
    | none => none
  | _ => none
def Op.eval : Op → List D → Option D
  | .index, [.tuple [.list xs, .int k]] => match asInts xs with
    | some is => if is.length ≤ BIG ∧ k ∈ is then some (.int (is.idxOf k : Nat)) else none
    | none => none
  | .index, [.tuple [.list xs, .bool k]] => match asBools xs with
    | some bs => if bs.length ≤ 1000 ∧ k ∈ bs then some (.int (bs.idxOf k : Nat)) else none
    | none => none
  | .index, [.tuple [.list xs, .int k, .int i]] => match asInts xs with
    | some is => if is.length ≤ BIG ∧ 0 ≤ i ∧ k ∈ is.drop i.toNat then some (.int ((i.toNat + (is.drop i.toNat).idxOf k : Nat) : Int)) else none
    | none => none
  | .count, [.tuple [.list xs, d]] => if SeqAt.shaped (.list xs) && SeqAt.shaped d then some (.int (xs.countP fun z => PyData.eqv z d : Nat)) else none
  | .add, [.int a, .int b] => some (.int (a + b))
  | .add, [.str a, .str b] => if a.length + b.length ≤ BIG then some (.str (a ++ b)) else none
  | .add, [.list a, .list b] => if a.length + b.length ≤ BIG then some (.list (a ++ b)) else none
  | .add, [.tuple a, .tuple b] => if a.length + b.length ≤ BIG then some (.tuple (a ++ b)) else none
  | .sub, [.int a, .int b] => some (.int (a - b))
  | .mul, [.int a, .int b] => if mulOk a b then some (.int (a * b)) else none
  | .mul, [.tuple (x :: r), .int b] => if 0 ≤ b ∧ b ≤ 1000 ∧ r.length < 1000 then some (.tuple (List.replicate b.toNat (x :: r)).flatten) else none
  | .mul, [.list xs, .int b] => if 0 ≤ b ∧ b ≤ 256 ∧ xs.length * b.toNat ≤ 256 then some (.list (List.replicate b.toNat xs).flatten) else none
  | .fdiv, [.int a, .int b] => if divOk b then some (.int (a.fdiv b)) else none
  | .mod, [.int a, .int b] => if b ≠ 0 then some (.int (a.fmod b)) else none
  | .pow, [.int a, .int b] => if powOk a b then some (.int (a ^ b.toNat)) else none
  | .neg, [.int a] => some (.int (-a))
  | .lt, [.int a, .int b] => some (.bool (decide (a < b)))
  | .le, [.int a, .int b] => some (.bool (decide (a ≤ b)))
  | .gt, [.int a, .int b] => some (.bool (decide (b < a)))
  | .ge, [.int a, .int b] => some (.bool (decide (b ≤ a)))
  | .eq, [a, b] => match eqGo a b with
    | some r => some (.bool r)
    | none => none
  | .ne, [a, b] => match eqGo a b with
    | some r => some (.bool (!r))
    | none => none
  | .isin, [a, .list b] => if SeqAt.shaped a && SeqAt.shaped (.list b) then some (.bool (b.any fun z => PyData.eqv z a)) else none
  | .isin, [a, .tuple b] => if SeqAt.shaped a && SeqAt.shaped (.tuple b) then some (.bool (b.any fun z => PyData.eqv z a)) else none
  | .notin, [a, .tuple b] => if SeqAt.shaped a && SeqAt.shaped (.tuple b) then some (.bool (!b.any fun z => PyData.eqv z a)) else none
  | .isin, [a, .dict b] => if okKey b a then some (.bool (getK b a).isSome) else none
  | .notin, [a, .dict b] => if okKey b a then some (.bool (!(getK b a).isSome)) else none
  | .notin, [a, .list b] => if SeqAt.shaped a && SeqAt.shaped (.list b) then some (.bool (!b.any fun z => PyData.eqv z a)) else none
  | .isNone, [a] => some (.bool (isNoneD a))
  | .notNone, [a] => some (.bool (!isNoneD a))
  | .isBool c, [.bool a] => some (.bool (a == c))
  | .notBool c, [.bool a] => some (.bool (!(a == c)))
  | .idx, [.list a, .int i] => L2.atI a i
  | .idx, [.tuple a, .int i] => L2.atI a i
  | .idx, [.dict a, .int k] => getK a (.int k)
  | .idx, [.dict a, .str k] => getK a (.str k)
  | .idx, [.dict a, .tuple k] => getK a (.tuple k)
  | .rev, [.list a] => some (.list a.reverse)
  | .rev, [.tuple a] => some (.tuple a.reverse)
  | .sorted, [a] => sortedE a
  | .sset, [.list xs] => match asInts xs with
    | some is => if is.length < 4000 ∧ (Tw.sset is).length < 64 then some (.list ((Tw.sset is).map PyData.int)) else none
    | none => none
  | .dpairs, [.list xs] => match pairsOf xs with
    | some kvs => if xs.length ≤ BIG then some (.dict (mergeUp [] kvs)) else none
    | none => none
  | .join, [.tuple [.str a, .list ys]] => match asStrs ys with
    | some ss => if (ss.map (·.length)).sum + ss.length * a.length ≤ BIG then some (.str (Str.join a ss)) else none
    | none => none
  | .denum, [.tuple xs] => if xs.length ≤ BIG then some (.dict (mergeUp [] (enD 0 xs))) else none
  | .lrange, [.int b] => if rgOk 0 b then some (.list (rgD 0 b)) else none
  | .lrange, [.int a, .int b] => if rgOk a b then some (.list (rgD a b)) else none
  | .trange, [.int b] => if rgOk 0 b then some (.tuple (rgD 0 b)) else none
  | .trange, [.int a, .int b] => if rgOk a b then some (.tuple (rgD a b)) else none
  | .len, [.list a] => some (.int (a.length : Nat))
  | .len, [.tuple a] => some (.int (a.length : Nat))
  | .abs, [.int a] => some (.int (if a < 0 then -a else a))
  | .int, [.int a] => some (.int a)
  | .int, [.bool a] => some (.int (if a then 1 else 0))
  | .str, [.int a] => if showOk a then some (.str (toString a)) else none
  | .repr, [d] => if reprOk d || bigPair d then some (.str d.shown) else none
  | .sum, [.list xs] => match asInts xs with
    | some is => some (.int is.sum)
    | none => none
  | .sum, [.tuple xs] => match asInts xs with
    | some is => some (.int is.sum)
    | none => none
  | .maxL, [.list xs] => match asInts xs with
    | some (m :: is) => some (.int (maxOf m is))
    | _ => none
  | .maxL, [.tuple xs] => match asInts xs with
    | some (m :: is) => some (.int (maxOf m is))
    | _ => none
  | .minL, [.list xs] => match asInts xs with
    | some (m :: is) => some (.int (minOf m is))
    | _ => minTup xs
  | .minL, [.tuple xs] => match asInts xs with
    | some (m :: is) => some (.int (minOf m is))
    | _ => none
  | .max2, [.int a, .int b] => some (.int (if b > a then b else a))
  | .min2, [.int a, .int b] => some (.int (if b < a then b else a))
  | .all, [.list xs] => match asBools xs with
    | some bs => some (.bool (bs.all id))
    | none => none
  | .any, [.list xs] => match asBools xs with
    | some bs => some (.bool (bs.any id))
    | none => none
  | .tuple, [.list xs] => some (.tuple xs)
  | .tuple, [.tuple xs] => some (.tuple xs)
  | .list, [.list xs] => some (.list xs)
  | .list, [.tuple xs] => some (.list xs)
  | .inst t, [d] => some (.bool (t.has d))
  | _, _ => none
/-- what comes of it is a new list -/
def Op.fresh : Op → D → Bool
  | .add, .list _ => true
  | .mul, .list _ => true
  | .rev, .list _ => true
  | .sorted, .list _ => true
  | .sset, .list _ => true
  | .dpairs, .dict _ => true
  | .denum, .dict _ => true
  | .lrange, .list _ => true
  | .list, .list _ => true
  | _, _ => false

inductive EV where
  | sh (d : D) | own (d : D) | slot (i : Nat)
inductive SV where
  | no | sh (d : D) | own (d : D) | inp (d : D) | ins (d : D)
abbrev En := List SV
/-- a def: arguments in; the answer and what became of the arguments that may be changed -/
abbrev Fn := List SV → Option (SV × List SV)

mutual
inductive ME where
  | var (i : Nat) | cst (d : D) | op (o : Op) (as : MEs) | tup (as : MEs) | lst (as : MEs) | dic (as : MEs)
  | and (a b : ME) | or (a b : ME) | not (a : ME) | slc (bl bh : Bool) (a lo hi : ME) | chain (o1 o2 : Op) (a b c : ME) | chain3 (o1 o2 o3 : Op) (a b c d : ME) | call (k : Nat) (as : MEs)
  | comp (own : List Nat) (tg : MT) (it : MI) (cnd elt : ME)
inductive MEs where
  | nil | cons (a : ME) (r : MEs)
inductive MI where
  | seq (a : ME) | range (as : MEs) | enum (a : ME) | zip (a b : ME) | ziprev (a b : ME) | rev (a : ME)
inductive MT where
  | name (i : Nat) | tup (ts : MTs) | sub (i : Nat) (k : ME)
inductive MTs where
  | nil | cons (t : MT) (r : MTs)
end

def EV.look : EV → En → Option D
  | .sh d, _ => some d
  | .own d, _ => some d
  | .slot i, s => match s[i]? with
    | some (.sh d) => some d
    | some (.own d) => some d
    | some (.inp d) => some d
    | some (.ins d) => some d
    | _ => none
def EV.take : EV → En → Option (D × En)
  | .sh d, s => some (d, s)
  | .own d, s => some (d, s)
  | .slot i, s => match s[i]? with
    | some (.sh d) => some (d, s)
    | some (.own d) => some (d, s.set i (.sh d))
    | some (.inp d) => some (d, s.set i (.ins d))
    | some (.ins d) => some (d, s)
    | _ => none
def lookAll : List EV → En → Option (List D)
  | [], _ => some []
  | e :: r, s => match e.look s with
    | some d => match lookAll r s with
      | some ds => some (d :: ds)
      | none => none
    | none => none
def bindN (i : Nat) (v : SV) (s : En) : Option En :=
  match s[i]? with
  | some .no => some (s.set i v)
  | some (.sh _) => some (s.set i v)
  | some (.own _) => some (s.set i v)
  | _ => none
def wipeE (own : List Nat) (s : En) : En :=
  match own with
  | [] => s
  | i :: r => (wipeE r s).set i .no
def restore : List Nat → En → En → En
  | [], _, s => s
  | i :: r, s0, s => match s0[i]? with
    | some v => (restore r s0 s).set i v
    | none => restore r s0 s
def pairUp : List D → Option (List (D × D))
  | [] => some []
  | k :: v :: r => if isKey k then (match pairUp r with
    | some q => some ((k, v) :: q)
    | none => none) else none
  | _ => none

/-! calls -/
def argOf (s : En) : EV → Option SV
  | .sh d => some (.sh d)
  | .own d => some (.own d)
  | .slot i => match s[i]? with
    | some (.own d) => some (.inp d)
    | some (.inp d) => some (.inp d)
    | some (.sh d) => some (.sh d)
    | some (.ins d) => some (.sh d)
    | _ => none
def argsOf (s : En) : List EV → Option (List SV)
  | [] => some []
  | e :: r => match argOf s e with
    | some v => match argsOf s r with
      | some vs => some (v :: vs)
      | none => none
    | none => none
def slotsIn : List EV → List Nat
  | [] => []
  | .slot i :: r => i :: slotsIn r
  | _ :: r => slotsIn r
/-- what became of the arguments, put back -/
def putBack : List EV → List SV → En → Option En
  | [], _, s => some s
  | .slot i :: r, o :: os, s => match s[i]? with
    | some (.own _) => (match o with
      | .inp d => putBack r os (s.set i (.own d))
      | .ins d => putBack r os (s.set i (.sh d))
      | _ => none)
    | some (.inp _) => (match o with
      | .inp d => putBack r os (s.set i (.inp d))
      | .ins d => putBack r os (s.set i (.ins d))
      | _ => none)
    | some (.sh _) => putBack r os s
    | some (.ins _) => putBack r os s
    | _ => none
  | _ :: r, _ :: os, s => putBack r os s
  | _ :: _, [], _ => none
def callFn (f : Fn) (es : List EV) (s : En) : Option (EV × En) :=
  match argsOf s es with
  | some as => if (slotsIn es).Nodup then
      (match f as with
      | some (.sh d, os) => (match putBack es os s with
        | some s' => some (.sh d, s')
        | none => none)
      | some (.own d, os) => (match putBack es os s with
        | some s' => some (.own d, s')
        | none => none)
      | _ => none) else none
  | none => none

def compGo (f : D → En → Option (Option D × En)) : List D → En → Option (List D × En)
  | [], s => some ([], s)
  | d :: ds, s => match f d s with
    | some (some y, s1) => (match compGo f ds s1 with
      | some (ys, s2) => some (y :: ys, s2)
      | none => none)
    | some (none, s1) => compGo f ds s1
    | none => none
def rangeOf : List D → Option (List D)
  | [.int n] => if -(10 ^ 15) < n ∧ n < 10 ^ 15 then some ((List.range n.toNat).map fun i => .int (i : Nat)) else none
  | [.int a, .int b] => if -(10 ^ 15) < a ∧ a < 10 ^ 15 ∧ -(10 ^ 15) < b ∧ b < 10 ^ 15 then some ((List.range (b - a).toNat).map fun i => .int (a + (i : Nat))) else none
  | [.int a, .int b, .int c] => if -(10 ^ 15) < a ∧ a < 10 ^ 15 ∧ -(10 ^ 15) < b ∧ b < 10 ^ 15 ∧ c = -1 then some ((List.range (a - b).toNat).map fun i => .int (a - (i : Nat))) else none
  | _ => none
def pairs2 (xs ys : List D) : List D := List.zipWith (fun x y => .tuple [x, y]) xs ys
def enumOf (xs : List D) : List D := pairs2 ((List.range xs.length).map fun i => .int (i : Nat)) xs
def lstAt (s : En) (i : Nat) : Option (List D) := match s[i]? with
  | some (.own (.list xs)) => some xs
  | some (.inp (.list xs)) => some xs
  | _ => none
def dicAt (s : En) (i : Nat) : Option (List (D × D)) := match s[i]? with
  | some (.own (.dict xs)) => some xs
  | some (.inp (.dict xs)) => some xs
  | _ => none
def setAt (s : En) (i : Nat) (d : D) : En := match s[i]? with
  | some (.own _) => s.set i (.own d)
  | some (.inp _) => s.set i (.inp d)
  | _ => s
def ownsAt (s : En) (i : Nat) : Bool := match s[i]? with
  | some (.own _) => true
  | some (.inp _) => true
  | _ => false
/-- x[k] = d -/
def subPut (i : Nat) (dk d : D) (s : En) : Option En := match lstAt s i with
  | some xs => (match dk with
    | .int j => (match L2.ixN xs.length j with
      | some n => some (setAt s i (.list (xs.set n d)))
      | none => none)
    | _ => none)
  | none => (match dicAt s i with
    | some kvs => if okKey kvs dk && decide (kvs.length < BIG) then some (setAt s i (.dict (putK kvs dk d))) else none
    | none => none)
def itemsOf : D → Option (List D)
  | .list xs => some xs
  | .tuple xs => some xs
  | .str x => if x.length ≤ BIG then some (x.cps.toList.map fun c => .str ⟨#[c]⟩) else none
  | _ => none

/-- the keys of an own dict at a variable, each of which is told plainly -/
def dkeys : ME → En → Option (List (D × D))
  | .var i, s => match s[i]? with
    | some (.own (.dict kvs)) => if kvs.all (fun p => isKey p.1) then some kvs else none
    | _ => none
  | _, _ => none
mutual
def evalE (T : List Fn) : ME → En → Option (EV × En)
  | .var i, s => match s[i]? with
    | some (.sh d) => some (.sh d, s)
    | some (.ins d) => some (.sh d, s)
    | some (.own _) => some (.slot i, s)
    | some (.inp _) => some (.slot i, s)
    | _ => none
  | .cst d, s => some (.sh d, s)
  | .op o as, s => match evalEs T as s with
    | some (es, s1) => match lookAll es s1 with
      | some ds => match o.eval ds with
        | some d => some (if o.fresh d then .own d else .sh d, s1)
        | none => none
      | none => none
    | none => none
  | .tup as, s => match evalTs T as s with
    | some (ds, s1) => if ds.length ≤ BIG then some (.sh (.tuple ds), s1) else none
    | none => none
  | .lst as, s => match evalTs T as s with
    | some (ds, s1) => if ds.length ≤ BIG then some (.own (.list ds), s1) else none
    | none => none
  | .dic as, s => match evalTs T as s with
    | some (ds, s1) => match pairUp ds with
      | some kvs => if ds.length ≤ 30 then some (.own (.dict (mergeUp [] kvs)), s1) else none
      | none => none
    | none => none
  | .and a b, s => match evalE T a s with
    | some (.sh (.bool true), s1) => evalE T b s1
    | some (.sh (.bool false), s1) => some (.sh (.bool false), s1)
    | _ => none
  | .or a b, s => match evalE T a s with
    | some (.sh (.bool true), s1) => some (.sh (.bool true), s1)
    | some (.sh (.bool false), s1) => evalE T b s1
    | _ => none
  | .not a, s => match evalE T a s with
    | some (.sh (.bool b), s1) => some (.sh (.bool (!b)), s1)
    | _ => none
  | .slc bl bh a lo hi, s => match evalE T a s with
    | some (e, s1) => match (if bl then (match evalE T lo s1 with
        | some (.sh (.int i), s2) => some (some i, s2)
        | _ => none) else some (none, s1) : Option (Option Int × En)) with
      | some (l, s2) => match (if bh then (match evalE T hi s2 with
          | some (.sh (.int i), s3) => some (some i, s3)
          | _ => none) else some (none, s2) : Option (Option Int × En)) with
        | some (h, s3) => match e.look s3 with
          | some d => match sliceD d l h with
            | some r => some (if isList r then .own r else .sh r, s3)
            | none => none
          | none => none
        | none => none
      | none => none
    | none => none
  | .chain o1 o2 a b c, s => match evalE T a s with
    | some (ea, s1) => match evalE T b s1 with
      | some (eb, s2) => match ea.look s2, eb.look s2 with
        | some da, some db => match o1.eval [da, db] with
          | some (.bool true) => match evalE T c s2 with
            | some (ec, s3) => match eb.look s3, ec.look s3 with
              | some db', some dc => match o2.eval [db', dc] with
                | some (.bool r) => some (.sh (.bool r), s3)
                | _ => none
              | _, _ => none
            | none => none
          | some (.bool false) => some (.sh (.bool false), s2)
          | _ => none
        | _, _ => none
      | none => none
    | none => none
  | .chain3 o1 o2 o3 a b c d, s => match evalE T a s with
    | some (ea, s1) => match evalE T b s1 with
      | some (eb, s2) => match ea.look s2, eb.look s2 with
        | some da, some db => match o1.eval [da, db] with
          | some (.bool true) => match evalE T c s2 with
            | some (ec, s3) => match eb.look s3, ec.look s3 with
              | some db', some dc => match o2.eval [db', dc] with
                | some (.bool true) => match evalE T d s3 with
                  | some (ed, s4) => match ec.look s4, ed.look s4 with
                    | some dc', some dd => match o3.eval [dc', dd] with
                      | some (.bool r) => some (.sh (.bool r), s4)
                      | _ => none
                    | _, _ => none
                  | none => none
                | some (.bool false) => some (.sh (.bool false), s3)
                | _ => none
              | _, _ => none
            | none => none
          | some (.bool false) => some (.sh (.bool false), s2)
          | _ => none
        | _, _ => none
      | none => none
    | none => none
  | .call k as, s => match T[k]? with
    | some f => match evalEs T as s with
      | some (es, s1) => callFn f es s1
      | none => none
    | none => none
  | .comp own tg it cnd elt, s => match evalI T it s with
    | some (ds, s1) => match compGo (fun d s => match assignT T tg d s with
        | some s1 => match evalE T cnd s1 with
          | some (.sh (.bool true), s2) => match evalE T elt s2 with
            | some (e, s3) => match e.take s3 with
              | some (y, s4) => some (some y, wipeE own s4)
              | none => none
            | none => none
          | some (.sh (.bool false), s2) => some (none, wipeE own s2)
          | _ => none
        | none => none) ds (wipeE own s1) with
      | some (ys, s2) => if ys.length ≤ BIG then some (.own (.list ys), restore own s1 s2) else none
      | none => none
    | none => none
def evalEs (T : List Fn) : MEs → En → Option (List EV × En)
  | .nil, s => some ([], s)
  | .cons a r, s => match evalE T a s with
    | some (e, s1) => match evalEs T r s1 with
      | some (es, s2) => some (e :: es, s2)
      | none => none
    | none => none
def evalTs (T : List Fn) : MEs → En → Option (List D × En)
  | .nil, s => some ([], s)
  | .cons a r, s => match evalE T a s with
    | some (e, s1) => match e.take s1 with
      | some (d, s2) => match evalTs T r s2 with
        | some (ds, s3) => some (d :: ds, s3)
        | none => none
      | none => none
    | none => none
def evalI (T : List Fn) : MI → En → Option (List D × En)
  | .seq a, s => match evalE T a s with
    | some (e, s1) => match e.take s1 with
      | some (d, s2) => match itemsOf d with
        | some ds => some (ds, s2)
        | none => match dkeys a s with
          | some kvs => some (kvs.map Prod.fst, s2)
          | none => none
      | none => none
    | none => none
  | .range as, s => match evalEs T as s with
    | some (es, s1) => match lookAll es s1 with
      | some ds => match rangeOf ds with
        | some r => some (r, s1)
        | none => none
      | none => none
    | none => none
  | .enum a, s => match evalE T a s with
    | some (e, s1) => match e.take s1 with
      | some (d, s2) => match seqOf d with
        | some ds => some (enumOf ds, s2)
        | none => none
      | none => none
    | none => none
  | .zip a b, s => match evalE T a s with
    | some (e, s1) => match e.take s1 with
      | some (d, s2) => match evalE T b s2 with
        | some (e', s3) => match e'.take s3 with
          | some (d', s4) => match seqOf d, seqOf d' with
            | some xs, some ys => some (pairs2 xs ys, s4)
            | _, _ => none
          | none => none
        | none => none
      | none => none
    | none => none
  | .ziprev a b, s => match evalE T a s with
    | some (e, s1) => match e.take s1 with
      | some (d, s2) => match evalE T b s2 with
        | some (e', s3) => match e'.take s3 with
          | some (d', s4) => match d, d' with
            | .tuple xs, .tuple ys => if xs.length = ys.length then some (pairs2 xs.reverse ys.reverse, s4) else none
            | _, _ => none
          | none => none
        | none => none
      | none => none
    | none => none
  | .rev a, s => match evalE T a s with
    | some (e, s1) => match e.take s1 with
      | some (d, s2) => match seqOf d with
        | some ds => some (ds.reverse, s2)
        | none => none
      | none => none
    | none => none
def assignT (T : List Fn) : MT → D → En → Option En
  | .name i, d, s => bindN i (.sh d) s
  | .tup ts, .tuple ds, s => assignTs T ts ds s
  | .tup ts, .list ds, s => assignTs T ts ds s
  | .tup _, _, _ => none
  | .sub i k, d, s => if ownsAt s i then (match evalE T k s with
    | some (e, s1) => match e.look s1 with
      | some dk => subPut i dk d s1
      | none => none
    | none => none) else none
def assignTs (T : List Fn) : MTs → List D → En → Option En
  | .nil, [], s => some s
  | .cons t r, d :: ds, s => match assignT T t d s with
    | some s1 => assignTs T r ds s1
    | none => none
  | _, _, _ => none
end

inductive Mu where
  | append | insert | reverse
mutual
inductive MS where
  | expr (e : ME) | asg (i : Nat) (e : ME) | asgT (t : MT) (e : ME) | mut (m : Mu) (i : Nat) (as : MEs) | ext (i : Nat) (e : ME)
  | ret (e : ME) | retN | ite (c : ME) (a b : MSs) | while (c : ME) (b : MSs) | for (t : MT) (it : MI) (b : MSs) | forL (t : MT) (i : Nat) (b : MSs)
  | pass | brk | cont | stuck
inductive MSs where
  | nil | cons (a : MS) (r : MSs)
end
inductive Out where
  | nx (s : En) | ret (r : SV) (s : En) | brk (s : En) | cont (s : En)

def forGo (f : D → En → Option Out) : List D → En → Option Out
  | [], s => some (.nx s)
  | d :: ds, s => match f d s with
    | some (.nx s1) => forGo f ds s1
    | some (.cont s1) => forGo f ds s1
    | some (.brk s1) => some (.nx s1)
    | some (.ret r s1) => some (.ret r s1)
    | none => none
def whileGo (c : En → Option (EV × En)) (b : En → Option Out) : Nat → En → Option Out
  | 0, _ => none
  | n + 1, s => match c s with
    | some (.sh (.bool false), s1) => some (.nx s1)
    | some (.sh (.bool true), s1) => (match b s1 with
      | some (.nx s2) => whileGo c b n s2
      | some (.cont s2) => whileGo c b n s2
      | some (.brk s2) => some (.nx s2)
      | some (.ret r s2) => some (.ret r s2)
      | none => none)
    | _ => none
open Classical in
noncomputable def whileDen (c : En → Option (EV × En)) (b : En → Option Out) (s : En) : Option Out :=
  if h : ∃ n, (whileGo c b n s).isSome = true then whileGo c b h.choose s else none
def Mu.run : Mu → List D → List D → Option (List D)
  | .append, xs, [d] => if xs.length < BIG then some (xs ++ [d]) else none
  | .insert, xs, [.int i, d] => if 0 ≤ i ∧ i < 1000000 ∧ xs.length < BIG then some (xs.take i.toNat ++ d :: xs.drop i.toNat) else none
  | .reverse, xs, [] => some xs.reverse
  | _, _, _ => none

open Classical in
/-- what has run leaves the list at a variable as it was -/
noncomputable def keepL (i : Nat) (ds : List D) : Option Out → Option Out
  | some (.nx s) => if s[i]? = some (.inp (.list ds)) then some (.nx s) else none
  | some (.cont s) => if s[i]? = some (.inp (.list ds)) then some (.cont s) else none
  | o => o
/-- an own dict at a variable, told to another one: it moves -/
def moveD (i j : Nat) (s : En) : Option En := match s[j]? with
  | some (.own (.dict kvs)) => bindN i (.own (.dict kvs)) (s.set j .no)
  | _ => none
mutual
noncomputable def evalS (T : List Fn) : MS → En → Option Out
  | .expr e, s => match evalE T e s with
    | some (_, s1) => some (.nx s1)
    | none => none
  | .asg i e, s => match evalE T e s with
    | some (.sh d, s1) => (match bindN i (.sh d) s1 with
      | some s2 => some (.nx s2)
      | none => none)
    | some (.own d, s1) => (match bindN i (.own d) s1 with
      | some s2 => some (.nx s2)
      | none => none)
    | some (.slot j, s1) => (match moveD i j s1 with
      | some s3 => some (.nx s3)
      | none => (match (EV.slot j).take s1 with
        | some (d, s2) => (match bindN i (.sh d) s2 with
          | some s3 => some (.nx s3)
          | none => none)
        | none => none))
    | none => none
  | .asgT t e, s => match evalE T e s with
    | some (ev, s1) => match ev.take s1 with
      | some (d, s2) => match assignT T t d s2 with
        | some s3 => some (.nx s3)
        | none => none
      | none => none
    | none => none
  | .mut m i as, s => match lstAt s i with
    | some _ => (match evalTs T as s with
      | some (ds, s1) => match lstAt s1 i with
        | some xs => match m.run xs ds with
          | some ys => some (.nx (setAt s1 i (.list ys)))
          | none => none
        | none => none
      | none => none)
    | none => none
  | .ext i e, s => match lstAt s i with
    | some _ => (match evalE T e s with
      | some (.own (.list ys), s1) => (match lstAt s1 i with
        | some xs => if xs.length + ys.length ≤ BIG then some (.nx (setAt s1 i (.list (xs ++ ys)))) else none
        | none => none)
      | _ => none)
    | none => none
  | .ret e, s => match evalE T e s with
    | some (.sh d, s1) => some (.ret (.sh d) s1)
    | some (.own d, s1) => some (.ret (.own d) s1)
    | some (.slot j, s1) => (match s1[j]? with
      | some (.own d) => some (.ret (.own d) (s1.set j .no))
      | some (.inp d) => some (.ret (.sh d) (s1.set j (.ins d)))
      | _ => none)
    | none => none
  | .retN, s => some (.ret (.sh .none) s)
  | .ite c a b, s => match evalE T c s with
    | some (.sh (.bool true), s1) => evalB T a s1
    | some (.sh (.bool false), s1) => evalB T b s1
    | _ => none
  | .while c b, s => whileDen (evalE T c) (evalB T b) s
  | .for t it b, s => match evalI T it s with
    | some (ds, s1) => forGo (fun d s => match assignT T t d s with
      | some s1 => evalB T b s1
      | none => none) ds s1
    | none => none
  | .forL t i b, s => match s[i]? with
    | some (.inp (.list ds)) => forGo (fun d s => match assignT T t d s with
      | some s1 => keepL i ds (evalB T b s1)
      | none => none) ds s
    | some (.own (.list ds)) => forGo (fun d s => match assignT T t d s with
      | some s1 => evalB T b s1
      | none => none) ds (s.set i (.sh (.list ds)))
    | _ => none
  | .pass, s => some (.nx s)
  | .brk, s => some (.brk s)
  | .cont, s => some (.cont s)
  | .stuck, _ => none
noncomputable def evalB (T : List Fn) : MSs → En → Option Out
  | .nil, s => some (.nx s)
  | .cons a r, s => match evalS T a s with
    | some (.nx s1) => evalB T r s1
    | some (.ret v s1) => some (.ret v s1)
    | some (.brk s1) => some (.brk s1)
    | some (.cont s1) => some (.cont s1)
    | none => none
end
noncomputable def evalDef (T : List Fn) (np nl : Nat) (body : MSs) : Fn := fun as =>
  if as.length = np then
    (match evalB T body (as ++ List.replicate (nl - np) .no) with
    | some (.nx s) => some (.sh .none, s.take np)
    | some (.ret r s) => some (r, s.take np)
    | _ => none)
  else none
end Tw

set_option linter.all false
set_option maxRecDepth 100000
set_option maxHeartbeats 400000
set_option autoImplicit false
/-! min of a list of tuples: comparisons that look at the heap of the call's begin. -/
namespace Tw
open PySem PyProof.Rows
/-- two things compared, wherever the heap h0 is still there -/
def CmpAt (prog : Program) (w : World) (A : Around) (op : CmpOp) (h0 : Heap) (P : Nat → Value → Prop) (bt : Nat → Nat → Bool) : Prop :=
  ∀ (i j : Nat) (x y : Value) (s : Shared) (Q E : Value → Shared → Prop), (∀ b o, h0.get? b = some o → s.heap.get? b = some o) → P i x → P j y → Q (.bool (bt i j)) s → wpAny (model prog w) A (richCompare op x y) Q E s
section
variable {prog : Program} {w : World} {A : Around} {R : Result → Shared → Prop} {I S : Addr} {fp wr : List Addr} {n : Nat} {P : Nat → Value → Prop} {St : Nat → Heap → Prop} {h0 : Heap} {bt : Nat → Nat → Bool}
theorem nmMin : (toString "min" ++ toString ".loop" : String) = "min.loop" := by decide
/-- what a turn keeps -/
def Kp (wr : List Addr) (S : Addr) (h h' : Heap) : Prop := ∀ b o, b ∉ wr → b ≠ S → h.get? b = some o → h'.get? b = some o
theorem Kp.trans {h h1 h2 : Heap} (a : Kp wr S h h1) (b : Kp wr S h1 h2) : Kp wr S h h2 := fun x o e1 e2 e => b x o e1 e2 (a x o e1 e2 e)
theorem Kp.upd {h h1 : Heap} {f : Obj → Obj} (a : Kp wr S h h1) : Kp wr S h (h1.update S f) := fun x o e1 e2 e => (Heap.get?_update_other _ _ (Ne.symm e2)).trans (a x o e1 e2 e)
theorem minLoop (W : Walks prog w A.in1 I fp wr n P St) (hc : CmpAt prog w A.in1 .Lt h0 P bt) (hS : S ∉ fp) (h0w : ∀ b ∈ wr, h0.get? b = none) (h0S : h0.get? S = none) : ∀ (k j : Nat) (s : Shared) (x : Value) (c : Nat), n = j + 1 + k →
    St (j + 1) s.heap → P (argBest bt j) x → s.heap.get? S = some { cls := .type "list", dict := none, data := .seq #[x, x] c, slots := #[] } → (∀ b o, h0.get? b = some o → s.heap.get? b = some o) →
    (∀ y h' tk, P (argBest bt (n - 1)) y → Kp wr S s.heap h' → R (.ok (.ret y)) { s with heap := h', toks := tk }) →
    codeAny (model prog w) A (.builtin "min.loop" ⟨[.ref I, .none, .ref S], []⟩) R s := by
  have hw : S ∉ wr := fun m => hS (W.sub _ m)
  have old : ∀ {h h' : Heap}, (∀ b o, h0.get? b = some o → h.get? b = some o) → Kp wr S h h' → ∀ b o, h0.get? b = some o → h'.get? b = some o := fun a k b o e =>
    k b o (fun m => by rw [h0w b m] at e; cases e) (fun z => by rw [z, h0S] at e; cases e) (a b o e)
  intro k
  induction k with
  | zero =>
    intro j s x c hn st px hs ho hR
    refine codeAny_builtin F.entry_min_loop (by
      rw [Around.under_plainId F.plain_min_loop _]
      show wpAny _ A.in1 (seqItems? (.ref S) >>= _) _ _ s
      refine wpAny_bind (wpAny_seqItems hs rfl (wpAny_bind (wpAny_tryCatch (W.done s _ _ (by rw [hn]; exact st) fun h' tk hk => ?_))))
      have hs2 := hk S _ hw hs
      refine wpAny_bind (show wpAny _ A.in1 (updateSeq S (fun _ => #[])) _ _ _ from wpAny_updateSeq hs2 rfl (wpAny_bind (wpAny_letGo (wpAny_pure ?_))))
      exact hR x _ tk (by rw [hn]; exact px) (Kp.upd fun b o e1 _ e => hk b o e1 e))
  | succ k ih =>
    intro j s x c hn st px hs ho hR
    refine codeAny_builtin F.entry_min_loop (by
      rw [Around.under_plainId F.plain_min_loop _]
      show wpAny _ A.in1 (seqItems? (.ref S) >>= _) _ _ s
      refine wpAny_bind (wpAny_seqItems hs rfl (wpAny_bind (wpAny_tryCatch (W.item (j + 1) s _ _ (by omega) st fun v h' tk pv st2 hk => ?_))))
      have hs2 := hk S _ hw hs
      have kk : Kp wr S s.heap h' := fun b o e1 _ e => hk b o e1 e
      have ho2 := old ho kk
      show wpAny _ A.in1 (tryCatch (holding [v, v] (richCompare .Lt v x >>= _)) _ >>= _) _ _ _
      refine wpAny_bind (wpAny_tryCatch (wpAny_holding (wpAny_bind (hc (j + 1) (argBest bt j) v x _ _ _ ho2 pv px (wpAny_bind (wpAny_holding (wpAny_truthy_bool (wpAny_bind (wpAny_letGo (wpAny_pure ?_))))))))))
      cases hb : bt (j + 1) (argBest bt j) with
      | true =>
        simp only [if_true]
        refine wpAny_bind (wpAny_updateSeq hs2 rfl (wpAny_bind (wpAny_letGo ?_)))
        rw [nmMin]
        refine wpAny_pure ⟨plainId_quiet F.plain_min_loop _, ih (j + 1) _ v _ (by omega) (W.frame _ _ _ st2 fun b m o e => ?_) (by simp only [argBest, hb, if_true]; exact pv) (Heap.get?_update_self _ hs2 rfl) (old ho kk.upd) fun y h2 tk2 py k2 => ?_⟩
        · exact (Heap.get?_update_other _ _ fun z : S = b => hS (z ▸ m)).trans e
        · exact hR y h2 tk2 py (kk.upd.trans k2)
      | false =>
        simp only [Bool.false_eq_true, if_false]
        refine wpAny_bind (wpAny_letGo ?_)
        rw [nmMin]
        refine wpAny_pure ⟨plainId_quiet F.plain_min_loop _, ih (j + 1) _ x c (by omega) st2 (by simp only [argBest, hb, Bool.false_eq_true, if_false]; exact px) hs2 ho2 fun y h2 tk2 py k2 => ?_⟩
        exact hR y h2 tk2 py (kk.trans k2))
theorem minFirst (W : Walks prog w A.in1 I fp wr n P St) (hc : CmpAt prog w A.in1 .Lt h0 P bt) (hS : S ∉ fp) (h0w : ∀ b ∈ wr, h0.get? b = none) (h0S : h0.get? S = none) (hn : 0 < n) {s : Shared} {c : Nat}
    (st : St 0 s.heap) (hs : s.heap.get? S = some { cls := .type "list", dict := none, data := .seq #[] c, slots := #[] }) (ho : ∀ b o, h0.get? b = some o → s.heap.get? b = some o)
    (hR : ∀ y h' tk, P (argBest bt (n - 1)) y → Kp wr S s.heap h' → R (.ok (.ret y)) { s with heap := h', toks := tk }) :
    codeAny (model prog w) A (.builtin "min.loop" ⟨[.ref I, .none, .ref S], []⟩) R s := by
  have hw : S ∉ wr := fun m => hS (W.sub _ m)
  have old : ∀ {h h' : Heap}, (∀ b o, h0.get? b = some o → h.get? b = some o) → Kp wr S h h' → ∀ b o, h0.get? b = some o → h'.get? b = some o := fun a k b o e =>
    k b o (fun m => by rw [h0w b m] at e; cases e) (fun z => by rw [z, h0S] at e; cases e) (a b o e)
  refine codeAny_builtin F.entry_min_loop (by
    rw [Around.under_plainId F.plain_min_loop _]
    show wpAny _ A.in1 (seqItems? (.ref S) >>= _) _ _ s
    refine wpAny_bind (wpAny_seqItems hs rfl (wpAny_bind (wpAny_tryCatch (W.item 0 s _ _ hn st fun v h' tk pv st2 hk => ?_))))
    have hs2 := hk S _ hw hs
    have kk : Kp wr S s.heap h' := fun b o e1 _ e => hk b o e1 e
    show wpAny _ A.in1 (updateSeq S (fun _ => #[v, v]) >>= _) _ _ _
    refine wpAny_bind ?_
    refine wpAny_updateSeq hs2 rfl ?_
    rw [nmMin]
    refine wpAny_pure ⟨plainId_quiet F.plain_min_loop _, minLoop W hc hS h0w h0S (n - 1) 0 _ v _ (by omega) (W.frame _ _ _ st2 fun b m o e => ?_) pv (Heap.get?_update_self _ hs2 rfl) (old ho kk.upd) fun y h2 tk2 py k2 => hR y h2 tk2 py (kk.upd.trans k2)⟩
    exact (Heap.get?_update_other _ _ fun z : S = b => hS (z ▸ m)).trans e)
theorem minCall {E : Value → Shared → Prop} {s : Shared} {l : Addr} {items : Array Value} {Q : Value → Shared → Prop} (hh : A.handled = none) (hl : s.heap.IsList l items) (hne : 0 < items.size)
    (hc : CmpAt prog w A.in1 .Lt s.heap (fun i v => items[i]? = some v) bt)
    (hq : ∀ v h' tk, items[argBest bt (items.size - 1)]? = some v → (∀ b o, s.heap.get? b = some o → h'.get? b = some o) → Q v { s with heap := h', toks := tk }) :
    wpAny (model prog w) A (call (.builtin "min") [.ref l]) Q E s := by
  have hlt : l < s.heap.objs.size := by obtain ⟨_, e, _⟩ := hl; exact Heap.lt_size e
  refine call_function_tree F.kind_min F.plain_min F.entry_min (F.args_min1 _) ?_
  show wpAny _ A.in1 (Builtin.Builtins.bindParams "min" ["key", "default"] 0 ⟨[], []⟩ >>= _) _ _ s
  refine wpAny_bind (wpAny_of_eq (show Builtin.Builtins.bindParams "min" ["key", "default"] 0 ⟨[], []⟩ = pure [none, none] from rfl) (wpAny_bind (wpAny_pure ?_)))
  obtain ⟨hI, hIe⟩ : ∃ hI, hI = s.heap.push { cls := .type "list_iterator", data := .fields #[.ref l, .int 0 0] } := ⟨_, rfl⟩
  have g1 : hI.get? s.heap.objs.size = some { cls := .type "list_iterator", data := .fields #[.ref l, .int 0 0] } := by rw [hIe]; exact Heap.get?_push_size _ rfl
  have g2 : hI.IsList l items := by rw [hIe]; exact hl.push _
  have g3 : ∀ b o, s.heap.get? b = some o → hI.get? b = some o := fun b o e => by rw [hIe]; exact Heap.get?_push_of_some _ e
  have g4 : hI.objs.size = s.heap.objs.size + 1 := by rw [hIe, Heap.size_push]
  refine wpAny_bind (wpAny_pyIter_list hl (wpAny_bind (wpAny_newObj_type ?_)))
  rw [← hIe]
  have W := Walks.list (prog := prog) (w := w) (A := A.in1) hh s.heap.objs.size l (Nat.ne_of_lt hlt) items
  have hS : hI.objs.size ∉ [s.heap.objs.size, l] := by
    rw [g4]
    intro m
    rcases List.mem_cons.mp m with e | m
    · exact Nat.succ_ne_self _ e
    · rw [List.mem_singleton] at m
      rw [← m] at hlt
      exact Nat.not_succ_lt_self hlt
  have fresh : ∀ b, s.heap.objs.size ≤ b → s.heap.get? b = none := fun b hb => by
    cases e : s.heap.get? b with
    | none => rfl
    | some o => exact absurd (Heap.lt_size e) (Nat.not_lt.mpr hb)
  have hname := nmMin
  rw [hname]
  have st0 : hI.IsListIter s.heap.objs.size l 0 ∧ hI.IsList l items := ⟨⟨_, g1, rfl, rfl⟩, g2⟩
  refine wpAny_pure ⟨plainId_quiet F.plain_min_loop _, minFirst W hc hS (fun b m => fresh b (by rw [List.mem_singleton.mp m]; exact Nat.le_refl _)) (fresh _ (by rw [g4]; exact Nat.le_succ _)) hne (W.frame _ _ _ st0 fun b _ o e => Heap.get?_push_of_some _ e) (Heap.get?_push_size _ rfl) (fun b o e => Heap.get?_push_of_some _ (g3 b o e)) fun v h' tk hp hk => ?_⟩
  refine hq v h' tk hp fun b o e => hk b o (fun m => ?_) (fun z => ?_) (Heap.get?_push_of_some _ (g3 b o e))
  · rw [List.mem_singleton.mp m, fresh _ (Nat.le_refl _)] at e
    cases e
  · rw [z, fresh _ (by rw [g4]; exact Nat.le_succ _)] at e
    cases e
end
/-! ### tuples of whole numbers, as they compare -/
theorem sameShs_len : ∀ {xs ys : List PyData}, sameShs xs ys = true → xs.length = ys.length
  | [], [], _ => rfl
  | x :: r, y :: t, h => by
    simp only [sameShs, Bool.and_eq_true] at h
    simp [sameShs_len h.2]
  | [], _ :: _, h => by simp [sameShs] at h
  | _ :: _, [], h => by simp [sameShs] at h
theorem sameShs_at : ∀ {xs ys : List PyData} {j : Nat} {x y : PyData}, sameShs xs ys = true → xs[j]? = some x → ys[j]? = some y → sameSh x y = true
  | [], _, _, _, _, _, h, _ => by simp at h
  | _ :: _, [], _, _, _, h, _, _ => by simp [sameShs] at h
  | a :: r, b :: t, 0, x, y, h, e1, e2 => by
    simp only [sameShs, Bool.and_eq_true] at h
    simp only [List.getElem?_cons_zero, Option.some.injEq] at e1 e2
    subst e1
    subst e2
    exact h.1
  | a :: r, b :: t, j + 1, x, y, h, e1, e2 => by
    simp only [sameShs, Bool.and_eq_true] at h
    exact sameShs_at h.2 (by simpa using e1) (by simpa using e2)
mutual
theorem sameSh_tr : ∀ (a b c : PyData), sameSh a c = true → sameSh b c = true → sameSh a b = true
  | .int _, .int _, .int _, _, _ => rfl
  | .tuple xs, .tuple ys, .tuple zs, h1, h2 => by
    simp only [sameSh] at h1 h2 ⊢
    exact sameShs_tr xs ys zs h1 h2
  | .int _, b, .tuple _, h1, _ => by simp [sameSh] at h1
  | .tuple _, b, .int _, h1, _ => by simp [sameSh] at h1
  | .int _, .tuple _, .int _, _, h => by simp [sameSh] at h
  | .tuple _, .int _, .tuple _, _, h => by simp [sameSh] at h
  | .none, _, _, h, _ => by simp [sameSh] at h
  | .bool _, _, _, h, _ => by simp [sameSh] at h
  | .str _, _, _, h, _ => by simp [sameSh] at h
  | .list _, _, _, h, _ => by simp [sameSh] at h
  | .dict _, _, _, h, _ => by simp [sameSh] at h
  | _, .none, _, _, h => by simp [sameSh] at h
  | _, .bool _, _, _, h => by simp [sameSh] at h
  | _, .str _, _, _, h => by simp [sameSh] at h
  | _, .list _, _, _, h => by simp [sameSh] at h
  | _, .dict _, _, _, h => by simp [sameSh] at h
  | .int _, _, .none, h, _ => by simp [sameSh] at h
  | .int _, _, .bool _, h, _ => by simp [sameSh] at h
  | .int _, _, .str _, h, _ => by simp [sameSh] at h
  | .int _, _, .list _, h, _ => by simp [sameSh] at h
  | .int _, _, .dict _, h, _ => by simp [sameSh] at h
  | .tuple _, _, .none, h, _ => by simp [sameSh] at h
  | .tuple _, _, .bool _, h, _ => by simp [sameSh] at h
  | .tuple _, _, .str _, h, _ => by simp [sameSh] at h
  | .tuple _, _, .list _, h, _ => by simp [sameSh] at h
  | .tuple _, _, .dict _, h, _ => by simp [sameSh] at h
theorem sameShs_tr : ∀ (a b c : List PyData), sameShs a c = true → sameShs b c = true → sameShs a b = true
  | [], [], _, _, _ => rfl
  | x :: r, y :: t, z :: u, h1, h2 => by
    simp only [sameShs, Bool.and_eq_true] at h1 h2 ⊢
    exact ⟨sameSh_tr x y z h1.1 h2.1, sameShs_tr r t u h1.2 h2.2⟩
  | _ :: _, _, [], h, _ => by simp [sameShs] at h
  | [], _ :: _, [], _, h => by simp [sameShs] at h
  | [], _, _ :: _, h, _ => by simp [sameShs] at h
  | _ :: _, [], _ :: _, _, h => by simp [sameShs] at h
end
theorem lex_lt {xs ys : List PyData} : ∀ (k i : Nat), xs.length = ys.length → i + k = xs.length →
    Ob.lexAt (fun j => PyData.eqv (xs.getD j .none) (ys.getD j .none)) (fun j => ltD (xs.getD j .none) (ys.getD j .none)) false i k = ltDs (xs.drop i) (ys.drop i)
  | 0, i, hl, hk => by
    rw [List.drop_of_length_le (by omega), Ob.lexAt_zero]
    rfl
  | k + 1, i, hl, hk => by
    have e1 : xs.drop i = xs.getD i .none :: xs.drop (i + 1) := by
      rw [List.drop_eq_getElem_cons (by omega)]
      simp [List.getD_eq_getElem?_getD, List.getElem?_eq_getElem (show i < xs.length by omega)]
    have e2 : ys.drop i = ys.getD i .none :: ys.drop (i + 1) := by
      rw [List.drop_eq_getElem_cons (by omega)]
      simp [List.getD_eq_getElem?_getD, List.getElem?_eq_getElem (show i < ys.length by omega)]
    rw [Ob.lexAt_succ, lex_lt k (i + 1) hl (by omega), e1, e2]
    rfl
theorem canLays_at : ∀ {xs : List PyData} {j : Nat} {x : PyData}, PyData.canLayAll0 xs = true → xs[j]? = some x → x.canLay0 = true
  | [], _, _, _, h => by simp at h
  | a :: r, 0, x, h, e => by
    simp only [PyData.canLayAll0, Bool.and_eq_true] at h
    simp only [List.getElem?_cons_zero, Option.some.injEq] at e
    subst e
    exact h.1
  | a :: r, j + 1, x, h, e => by
    simp only [PyData.canLayAll0, Bool.and_eq_true] at h
    exact canLays_at h.2 (by simpa using e)
theorem depths_at : ∀ {xs : List PyData} {j : Nat} {x : PyData}, xs[j]? = some x → x.depth ≤ PyData.depthAll xs
  | [], _, _, h => by simp at h
  | a :: r, 0, x, e => by
    simp only [List.getElem?_cons_zero, Option.some.injEq] at e
    subst e
    simp only [PyData.depthAll]
    omega
  | a :: r, j + 1, x, e => by
    have := depths_at (xs := r) (by simpa using e)
    simp only [PyData.depthAll]
    omega
theorem reads_at {h : Heap} : ∀ {vs : List Value} {ds : List PyData} {as : List Addr} {j : Nat} {v : Value}, ReadsAll h vs ds as → vs[j]? = some v → ∃ d bs, ds[j]? = some d ∧ Reads h v d bs
  | _, _, _, _, _, .nil, e => by simp at e
  | _, _, _, 0, v, .cons (d := d) r t, e => by
    simp only [List.getElem?_cons_zero, Option.some.injEq] at e
    subst e
    exact ⟨d, _, rfl, r⟩
  | _, _, _, j + 1, v, .cons r t, e => by
    obtain ⟨d, bs, h1, h2⟩ := reads_at t (by simpa using e)
    exact ⟨d, bs, by simpa using h1, h2⟩
theorem reads_len {h : Heap} : ∀ {vs : List Value} {ds : List PyData} {as : List Addr}, ReadsAll h vs ds as → vs.length = ds.length
  | _, _, _, .nil => rfl
  | _, _, _, .cons r t => by simp [reads_len t]
theorem ltAt : ∀ (n : Nat) (a b : PyData) (A : Around) (s : Shared) (x y : Value) (as bs : List Addr), a.depth ≤ n → Reads s.heap x a as → Reads s.heap y b bs → sameSh a b = true → a.canLay0 = true → b.canLay0 = true → A.units + n < cLine → Ob.RcOp .Lt A s x y (ltD a b) := by
  intro n
  induction n with
  | zero =>
    intro a b A s x y as bs hn ra rb hs ha hb hu
    cases a <;> cases b <;> try (simp [sameSh] at hs; done)
    case int i j =>
      cases ra
      cases rb
      exact Ob.RcOp.lt_int _ _ _ _
    case tuple xs ys =>
      simp [PyData.depth] at hn
  | succ n ih =>
    intro a b A s x y as bs hn ra rb hs ha hb hu
    cases a <;> cases b <;> try (simp [sameSh] at hs; done)
    case int i j =>
      cases ra
      cases rb
      exact Ob.RcOp.lt_int _ _ _ _
    case tuple xs ys =>
      simp only [sameSh] at hs
      have hl := sameShs_len hs
      simp only [PyData.canLay0] at ha hb
      simp only [PyData.depth] at hn
      cases ra with
      | @tuple p o vs m _ as1 g1 g2 g3 r1 =>
        cases rb with
        | @tuple q o' ws m' _ bs1 k1 k2 k3 r2 =>
          have l1 := reads_len r1
          have l2 := reads_len r2
          rw [Array.length_toList] at l1 l2
          have := Ob.RcOp.tuples_lt (A := A) (s := s) (l := p) (b := q) (items := vs) (items2 := ws) (e := fun j => PyData.eqv (xs.getD j .none) (ys.getD j .none)) (r := fun j => ltD (xs.getD j .none) (ys.getD j .none)) ⟨o, g1, g2, m, g3⟩ ⟨o', k1, k2, m', k3⟩ (by omega) (fun j h1 h2 => ?_) (fun j h1 h2 _ => ?_)
          · rw [show decide (vs.size < ws.size) = false from decide_eq_false (by omega), lex_lt _ 0 hl (by omega), List.drop_zero, List.drop_zero] at this
            exact this
          · obtain ⟨d, cs, e1, e2⟩ := reads_at (j := j) (v := vs[j]) r1 (by simp [h1])
            obtain ⟨d', cs', e1', e2'⟩ := reads_at (j := j) (v := ws[j]) r2 (by simp [h2])
            show PySem.SeqAt.EqAt A.in1 s _ _ (PyData.eqv (xs.getD j .none) (ys.getD j .none))
            rw [List.getD_eq_getElem?_getD, List.getD_eq_getElem?_getD, e1, e1']
            have q1 := depths_at e1
            exact SeqAt.eqAt_reads d d' A.in1 s _ _ cs cs' e2 e2' (canLays_at ha e1) (canLays_at hb e1') (by show A.units + 1 + _ < cLine; omega)
          · obtain ⟨d, cs, e1, e2⟩ := reads_at (j := j) (v := vs[j]) r1 (by simp [h1])
            obtain ⟨d', cs', e1', e2'⟩ := reads_at (j := j) (v := ws[j]) r2 (by simp [h2])
            show Ob.RcOp .Lt A.in1 s _ _ (ltD (xs.getD j .none) (ys.getD j .none))
            rw [List.getD_eq_getElem?_getD, List.getD_eq_getElem?_getD, e1, e1']
            have q1 := depths_at e1
            exact ih d d' A.in1 s _ _ cs cs' (by omega) e2 e2' (sameShs_at hs e1 e1') (canLays_at ha e1) (canLays_at hb e1') (by show A.units + 1 + _ < cLine; omega)
mutual
theorem reads_keep {h h' : Heap} (k : ∀ b o, h.get? b = some o → h'.get? b = some o) : ∀ (d : PyData) {v : Value} {as : List Addr}, Reads h v d as → Reads h' v d as
  | .none, _, _, r => by cases r; exact .none
  | .bool b, _, _, r => by cases r; exact .bool b
  | .int i, _, _, r => by cases r; exact .int _ _
  | .str x, _, _, r => by cases r; exact .str _ _
  | .list xs, _, _, r => by
    cases r with
    | list a b c d => exact .list (k _ _ a) b c (readsAll_keep k xs d)
  | .tuple xs, _, _, r => by
    cases r with
    | tuple a b c d => exact .tuple (k _ _ a) b c (readsAll_keep k xs d)
  | .dict kvs, _, _, r => by
    cases r with
    | dict a b c d e => exact .dict (k _ _ a) b c (readsFst_keep k kvs d) (readsSnd_keep k kvs e)
theorem readsAll_keep {h h' : Heap} (k : ∀ b o, h.get? b = some o → h'.get? b = some o) : ∀ (ds : List PyData) {vs : List Value} {as : List Addr}, ReadsAll h vs ds as → ReadsAll h' vs ds as
  | [], _, _, r => by cases r; exact .nil
  | d :: ds, _, _, r => by
    cases r with
    | cons a b => exact .cons (reads_keep k d a) (readsAll_keep k ds b)
theorem readsFst_keep {h h' : Heap} (k : ∀ b o, h.get? b = some o → h'.get? b = some o) : ∀ (ds : List (PyData × PyData)) {vs : List Value} {as : List Addr}, ReadsAll h vs (ds.map (·.1)) as → ReadsAll h' vs (ds.map (·.1)) as
  | [], _, _, r => by cases r; exact .nil
  | (d, e) :: ds, _, _, r => by
    cases r with
    | cons a b => exact .cons (reads_keep k d a) (readsFst_keep k ds b)
theorem readsSnd_keep {h h' : Heap} (k : ∀ b o, h.get? b = some o → h'.get? b = some o) : ∀ (ds : List (PyData × PyData)) {vs : List Value} {as : List Addr}, ReadsAll h vs (ds.map (·.2)) as → ReadsAll h' vs (ds.map (·.2)) as
  | [], _, _, r => by cases r; exact .nil
  | (d, e) :: ds, _, _, r => by
    cases r with
    | cons a b => exact .cons (reads_keep k e a) (readsSnd_keep k ds b)
end
theorem minD_snoc : ∀ (l : List PyData) (m x : PyData), minD m (l ++ [x]) = if ltD x (minD m l) then x else minD m l
  | [], m, x => rfl
  | y :: r, m, x => by rw [List.cons_append, minD, minD, minD_snoc r]
theorem argBest_min {m : PyData} {r : List PyData} {bt : Nat → Nat → Bool} (hb : ∀ i j x y, (m :: r)[i]? = some x → (m :: r)[j]? = some y → bt i j = ltD x y) : ∀ k : Nat, k ≤ r.length → (m :: r)[argBest bt k]? = some (minD m (r.take k))
  | 0, _ => by simp [argBest, minD]
  | k + 1, hk => by
    have ih := argBest_min hb k (by omega)
    have hx : (m :: r)[k + 1]? = some r[k] := by simp
    have e := hb (k + 1) (argBest bt k) _ _ hx ih
    rw [List.take_succ_eq_append_getElem (by omega), minD_snoc]
    unfold argBest
    rw [e]
    split
    · exact hx
    · exact ih
end Tw

set_option linter.all false
set_option maxRecDepth 100000
set_option maxHeartbeats 1000000
set_option autoImplicit false
/-! How plain data stands in the abstract heap. -/
namespace Tw
open PySem PySem.Spec PyProof.Rows L2

abbrev Sl := L2.St
def kD : Key → D
  | .inl i => .int i
  | .inr x => .str x

mutual
inductive Rl (K : PySem.W.Frag) (F : Hp) : V → D → Prop
  | non : Rl K F .non .none
  | bl (b : Bool) : Rl K F (.bl b) (.bool b)
  | int (i : Int) : Rl K F (.int i) (.int i)
  | str (x : Str) : Rl K F (.str x) (.str x)
  | lst {a : Addr} {xs : List V} {ds : List D} (h : SqL K F a xs) (r : RlAll K F xs ds) : Rl K F (.ref a) (.list ds)
  | tup {a : Addr} {xs : List V} {ds : List D} (h : F a = some (.tup xs)) (r : RlAll K F xs ds) : Rl K F (.ref a) (.tuple ds)
  | dic {a : Addr} {ks : List (Key × V)} {kvs : List (D × D)} (h : F a = some (.dK ks)) (r : RlKv K F ks kvs) : Rl K F (.ref a) (.dict kvs)
  | dicT {a : Addr} {ks : List (List Key × V)} {kvs : List (D × D)} (h : F a = some (.dT ks)) (n : kvs ≠ []) (r : RlKvT K F ks kvs) : Rl K F (.ref a) (.dict kvs)
  | dicF {a : Addr} {o : Obj} {ks : List (Key × V)} {kvs : List (D × D)} (h : F a = some (.frz o (.dK ks))) (r : RlKv K F ks kvs) : Rl K F (.ref a) (.dict kvs)
inductive RlAll (K : PySem.W.Frag) (F : Hp) : List V → List D → Prop
  | nil : RlAll K F [] []
  | cons {v : V} {vs : List V} {d : D} {ds : List D} (h : Rl K F v d) (t : RlAll K F vs ds) : RlAll K F (v :: vs) (d :: ds)
inductive RlKv (K : PySem.W.Frag) (F : Hp) : List (Key × V) → List (D × D) → Prop
  | nil : RlKv K F [] []
  | cons {k : Key} {v : V} {ks : List (Key × V)} {e d : D} {kvs : List (D × D)} (q : kD k = e) (h : Rl K F v d) (t : RlKv K F ks kvs) : RlKv K F ((k, v) :: ks) ((e, d) :: kvs)
inductive RlKvT (K : PySem.W.Frag) (F : Hp) : List (List Key × V) → List (D × D) → Prop
  | nil : RlKvT K F [] []
  | cons {k : List Key} {v : V} {ks : List (List Key × V)} {e d : D} {kvs : List (D × D)} (q : PyData.tuple (k.map kD) = e) (h : Rl K F v d) (t : RlKvT K F ks kvs) : RlKvT K F ((k, v) :: ks) ((e, d) :: kvs)
end

theorem Same.rd {H H' : Hp} {a : Addr} {o : HO} (e : Same H H') (h : Rd H a o) : Rd H' a o := by
  rcases h with h | ⟨u, h⟩
  · exact .inl (e _ _ h)
  · exact .inr ⟨u, e _ _ h⟩
theorem Same.seqT {K : PySem.W.Frag} {H H' : Hp} {a : Addr} {xs : List V} (e : Same H H') (h : SqT K H a xs) : SqT K H' a xs := by
  rcases h with h | h
  · exact .inl (Same.rd e h)
  · exact .inr h

section
variable {K : PySem.W.Frag} {F F' H H' : Hp}
mutual
theorem Rl.mono (e : Same F F') : ∀ (d : D) (v : V), Rl K F v d → Rl K F' v d
  | .none, _, h => by cases h; exact .non
  | .bool b, _, h => by cases h; exact .bl b
  | .int i, _, h => by cases h; exact .int i
  | .str x, _, h => by cases h; exact .str x
  | .list ds, _, h => by
    cases h with
    | lst h r => exact .lst (e.seq h) (RlAll.mono e ds _ r)
  | .tuple ds, _, h => by
    cases h with
    | tup h r => exact .tup (e _ _ h) (RlAll.mono e ds _ r)
  | .dict kvs, _, h => by
    cases h with
    | dic h r => exact .dic (e _ _ h) (RlKv.mono e kvs _ r)
    | dicT h n r => exact .dicT (e _ _ h) n (RlKvT.mono e kvs _ r)
    | dicF h r => exact .dicF (e _ _ h) (RlKv.mono e kvs _ r)
theorem RlAll.mono (e : Same F F') : ∀ (ds : List D) (vs : List V), RlAll K F vs ds → RlAll K F' vs ds
  | [], _, h => by cases h; exact .nil
  | d :: ds, _, h => by
    cases h with
    | cons h t => exact .cons (Rl.mono e d _ h) (RlAll.mono e ds _ t)
theorem RlKv.mono (e : Same F F') : ∀ (kvs : List (D × D)) (ks : List (Key × V)), RlKv K F ks kvs → RlKv K F' ks kvs
  | [], _, h => by cases h; exact .nil
  | (k, d) :: kvs, _, h => by
    cases h with
    | cons q h t => exact .cons q (Rl.mono e d _ h) (RlKv.mono e kvs _ t)
theorem RlKvT.mono (e : Same F F') : ∀ (kvs : List (D × D)) (ks : List (List Key × V)), RlKvT K F ks kvs → RlKvT K F' ks kvs
  | [], _, h => by cases h; exact .nil
  | (k, d) :: kvs, _, h => by
    cases h with
    | cons q h t => exact .cons q (Rl.mono e d _ h) (RlKvT.mono e kvs _ t)
end
theorem Rl.up (e : Same F F') {d : D} {v : V} (h : Rl K F v d) : Rl K F' v d := Rl.mono e d v h
theorem RlAll.up (e : Same F F') {d : List D} {v : List V} (h : RlAll K F v d) : RlAll K F' v d := RlAll.mono e d v h
theorem RlKv.up (e : Same F F') {d : List (D × D)} {v : List (Key × V)} (h : RlKv K F v d) : RlKv K F' v d := RlKv.mono e d v h

theorem RlKvT.up (e : Same F F') {d : List (D × D)} {v : List (List Key × V)} (h : RlKvT K F v d) : RlKvT K F' v d := RlKvT.mono e d v h
theorem RlKvT.length : ∀ {vs : List (List Key × V)} {ds : List (D × D)}, RlKvT K F vs ds → vs.length = ds.length
  | _, _, .nil => rfl
  | _, _, .cons _ _ t => congrArg (· + 1) (RlKvT.length t)
theorem RlAll.length : ∀ {vs : List V} {ds : List D}, RlAll K F vs ds → vs.length = ds.length
  | _, _, .nil => rfl
  | _, _, .cons _ t => congrArg (· + 1) (RlAll.length t)
theorem RlAll.get : ∀ {vs : List V} {ds : List D} {i : Nat} {d : D}, RlAll K F vs ds → ds[i]? = some d → ∃ v, vs[i]? = some v ∧ Rl K F v d
  | _, _, _, _, .nil, h => by simp at h
  | _, _, 0, _, .cons h _, e => by
    simp at e
    subst e
    exact ⟨_, rfl, h⟩
  | _, _, i + 1, _, .cons _ t, e => by
    obtain ⟨v, h1, h2⟩ := RlAll.get (i := i) t (by simpa using e)
    exact ⟨v, by simpa using h1, h2⟩
theorem RlAll.set {v : V} {d : D} (h : Rl K F v d) : ∀ {vs : List V} {ds : List D} (i : Nat), RlAll K F vs ds → RlAll K F (vs.set i v) (ds.set i d)
  | _, _, _, .nil => .nil
  | _, _, 0, .cons _ t => .cons h t
  | _, _, i + 1, .cons q t => .cons q (RlAll.set h i t)
theorem RlAll.append : ∀ {vs ws : List V} {ds es : List D}, RlAll K F vs ds → RlAll K F ws es → RlAll K F (vs ++ ws) (ds ++ es)
  | _, _, _, _, .nil, h => h
  | _, _, _, _, .cons q t, h => .cons q (RlAll.append t h)
theorem RlAll.take : ∀ {vs : List V} {ds : List D} (n : Nat), RlAll K F vs ds → RlAll K F (vs.take n) (ds.take n)
  | _, _, 0, _ => .nil
  | _, _, _ + 1, .nil => .nil
  | _, _, n + 1, .cons q t => .cons q (RlAll.take n t)
theorem RlAll.drop : ∀ {vs : List V} {ds : List D} (n : Nat), RlAll K F vs ds → RlAll K F (vs.drop n) (ds.drop n)
  | _, _, 0, h => h
  | _, _, _ + 1, .nil => .nil
  | _, _, n + 1, .cons _ t => RlAll.drop n t
theorem RlAll.reverse : ∀ {vs : List V} {ds : List D}, RlAll K F vs ds → RlAll K F vs.reverse ds.reverse
  | _, _, .nil => .nil
  | _, _, .cons q t => by
    rw [List.reverse_cons, List.reverse_cons]
    exact RlAll.append (RlAll.reverse t) (.cons q .nil)
theorem RlAll.cut {vs : List V} {ds : List D} (lo hi : Option Int) (h : RlAll K F vs ds) : RlAll K F (cutV vs lo hi) (cut ds lo hi) := by
  unfold cutV Tw.cut
  rw [h.length]
  exact (h.drop _).take _
theorem RlAll.ints : ∀ {vs : List V} {ds : List D} {is : List Int}, RlAll K F vs ds → asInts ds = some is → vs = is.map V.int
  | _, _, _, .nil, h => by cases h; rfl
  | _, _, is, .cons q t, h => by
    cases q with
    | int i =>
      unfold asInts at h
      split at h
      · rename_i js e
        cases h
        rw [RlAll.ints t e]
        rfl
      · cases h
    | _ => cases h
theorem RlAll.bools : ∀ {vs : List V} {ds : List D} {is : List Bool}, RlAll K F vs ds → asBools ds = some is → vs = is.map V.bl
  | _, _, _, .nil, h => by cases h; rfl
  | _, _, is, .cons q t, h => by
    cases q with
    | bl i =>
      unfold asBools at h
      split at h
      · rename_i js e
        cases h
        rw [RlAll.bools t e]
        rfl
      · cases h
    | _ => cases h
theorem RlKv.length : ∀ {vs : List (Key × V)} {ds : List (D × D)}, RlKv K F vs ds → vs.length = ds.length
  | _, _, .nil => rfl
  | _, _, .cons _ _ t => congrArg (· + 1) (RlKv.length t)

/-- what is owned: it may be changed -/
inductive OR (K : PySem.W.Frag) (F H : Hp) : V → D → Prop
  | lst {a : Addr} {xs : List V} {ds : List D} (h : H a = some (.lst xs)) (n : F a = none) (r : RlAll K F xs ds) : OR K F H (.ref a) (.list ds)
  | dic {a : Addr} {ks : List (Key × V)} {kvs : List (D × D)} (h : H a = some (.dK ks)) (n : F a = none) (r : RlKv K F ks kvs) : OR K F H (.ref a) (.dict kvs)
  | dicT {a : Addr} {ks : List (List Key × V)} {kvs : List (D × D)} (h : H a = some (.dT ks)) (n : F a = none) (m : kvs ≠ []) (r : RlKvT K F ks kvs) : OR K F H (.ref a) (.dict kvs)
theorem OR.at {v : V} {d : D} (h : OR K F H v d) : ∃ a o, v = .ref a ∧ H a = some o ∧ F a = none ∧ Rl K (upd F a o) v d := by
  cases h with
  | @lst a xs ds h n r =>
    have e : Same F (upd F a (.lst xs)) := fun b o q => by rw [upd_ne (ne_of_none q n)]; exact q
    exact ⟨a, _, rfl, h, n, .lst (.inl (.inl upd_same)) (r.up e)⟩
  | @dic a ks kvs h n r =>
    have e : Same F (upd F a (.dK ks)) := fun b o q => by rw [upd_ne (ne_of_none q n)]; exact q
    exact ⟨a, _, rfl, h, n, .dic upd_same (r.up e)⟩
  | @dicT a ks kvs h n m r =>
    have e : Same F (upd F a (.dT ks)) := fun b o q => by rw [upd_ne (ne_of_none q n)]; exact q
    exact ⟨a, _, rfl, h, n, .dicT upd_same m (r.up e)⟩
theorem OR.keep {v : V} {d : D} (h : OR K F H v d) (s : Same F F') (g : ∀ a o, v = .ref a → H a = some o → H' a = some o ∧ F' a = none) : OR K F' H' v d := by
  cases h with
  | lst h n r => exact .lst (g _ _ rfl h).1 (g _ _ rfl h).2 (r.up s)
  | dic h n r => exact .dic (g _ _ rfl h).1 (g _ _ rfl h).2 (r.up s)
  | dicT h n m r => exact .dicT (g _ _ rfl h).1 (g _ _ rfl h).2 m (r.up s)
/-- to be read -/
def PR (K : PySem.W.Frag) (F H : Hp) (v : V) (d : D) : Prop := Rl K F v d ∨ OR K F H v d
theorem PR.int {v : V} {i : Int} (h : PR K F H v (.int i)) : v = .int i := by
  rcases h with h | h
  · cases h; rfl
  · cases h
theorem PR.bl {v : V} {i : Bool} (h : PR K F H v (.bool i)) : v = .bl i := by
  rcases h with h | h
  · cases h; rfl
  · cases h
theorem PR.str {v : V} {i : Str} (h : PR K F H v (.str i)) : v = .str i := by
  rcases h with h | h
  · cases h; rfl
  · cases h
theorem PR.non {v : V} (h : PR K F H v .none) : v = .non := by
  rcases h with h | h
  · cases h; rfl
  · cases h
theorem PR.lst {v : V} {ds : List D} (S : Same F H) (h : PR K F H v (.list ds)) : ∃ a xs, v = .ref a ∧ SqL K H a xs ∧ RlAll K F xs ds := by
  rcases h with h | h
  · cases h with
    | lst h r => exact ⟨_, _, rfl, S.seq h, r⟩
  · cases h with
    | lst h n r => exact ⟨_, _, rfl, .inl (.inl h), r⟩
theorem PR.tup {v : V} {ds : List D} (S : Same F H) (h : PR K F H v (.tuple ds)) : ∃ a xs, v = .ref a ∧ SqT K H a xs ∧ RlAll K F xs ds := by
  rcases h with h | h
  · cases h with
    | tup h r => exact ⟨_, _, rfl, .inl (.inl (S _ _ h)), r⟩
  · cases h
/-- what a dict is in the heap -/
def IsDo (K : PySem.W.Frag) (F H : Hp) (a : Addr) (ds : List (D × D)) : Prop := (∃ xs, H a = some (.dK xs) ∧ RlKv K F xs ds) ∨ (ds ≠ [] ∧ ∃ xs, H a = some (.dT xs) ∧ RlKvT K F xs ds)
def IsDc (K : PySem.W.Frag) (F H : Hp) (a : Addr) (ds : List (D × D)) : Prop := (∃ xs, Rd H a (.dK xs) ∧ RlKv K F xs ds) ∨ (ds ≠ [] ∧ ∃ xs, H a = some (.dT xs) ∧ RlKvT K F xs ds)
theorem PR.dic {v : V} {ds : List (D × D)} (S : Same F H) (h : PR K F H v (.dict ds)) : ∃ a, v = .ref a ∧ IsDc K F H a ds := by
  rcases h with h | h
  · cases h with
    | dic h r => exact ⟨_, rfl, .inl ⟨_, .inl (S _ _ h), r⟩⟩
    | dicT h m r => exact ⟨_, rfl, .inr ⟨m, _, S _ _ h, r⟩⟩
    | dicF h r => exact ⟨_, rfl, .inl ⟨_, .inr ⟨_, S _ _ h⟩, r⟩⟩
  · cases h with
    | dic h n r => exact ⟨_, rfl, .inl ⟨_, .inl h, r⟩⟩
    | dicT h n m r => exact ⟨_, rfl, .inr ⟨m, _, h, r⟩⟩
theorem PR.tupF {v : V} {ds : List D} (S : Same F H) (h : PR K F H v (.tuple ds)) : ∃ a xs, v = .ref a ∧ H a = some (.tup xs) ∧ RlAll K F xs ds := by
  rcases h with h | h
  · cases h with
    | tup h r => exact ⟨_, _, rfl, S _ _ h, r⟩
  · cases h

/-! ### environments -/
def SV.isIn : SV → Bool
  | .inp _ => true
  | .ins _ => true
  | _ => false
def SV.owns : SV → Bool
  | .inp _ => true
  | .own _ => true
  | _ => false
def SR (K : PySem.W.Frag) (F H : Hp) : Option V → SV → Prop
  | _, .no => True
  | some v, .sh d => Rl K F v d
  | some v, .ins d => Rl K F v d
  | some v, .own d => OR K F H v d
  | some v, .inp d => OR K F H v d
  | none, .sh _ => False
  | none, .ins _ => False
  | none, .own _ => False
  | none, .inp _ => False
def OwnAt (σ : Sl) (s : En) (i : Nat) (a : Addr) : Prop := σ[i]? = some (some (.ref a)) ∧ ∃ x, s[i]? = some x ∧ x.owns = true
def OwnA (σ : Sl) (s : En) (a : Addr) : Prop := ∃ i, OwnAt σ s i a
structure ER (K : PySem.W.Frag) (F H : Hp) (σ : Sl) (s : En) : Prop where
  fh : Same F H
  len : σ.length = s.length
  at_ : ∀ (i : Nat) (x : Option V) (y : SV), σ[i]? = some x → s[i]? = some y → SR K F H x y
  ap : ∀ (i j : Nat) (a : Addr), i ≠ j → OwnAt σ s i a → OwnAt σ s j a → False
/-- what a step may do: what is frozen stays; what is not owned stays; nothing of another's is frozen -/
structure Stp (F H : Hp) (A : Addr → Prop) (F' H' : Hp) : Prop where
  ff : Same F F'
  fh : Same F' H'
  keep : ∀ b o, H b = some o → ¬ A b → H' b = some o
  nf : ∀ b o, H b = some o → F b = none → ¬ A b → F' b = none
  dom : ∀ b, H' b = none → H b = none
theorem Stp.refl {A : Addr → Prop} (h : Same F H) : Stp F H A F H := ⟨fun _ _ q => q, h, fun _ _ q _ => q, fun _ _ _ q _ => q, fun _ q => q⟩
theorem Stp.trans {F1 H1 F2 H2 : Hp} {A B : Addr → Prop} (x : Stp F H A F1 H1) (y : Stp F1 H1 B F2 H2) (ab : ∀ a, B a → A a ∨ H a = none) : Stp F H A F2 H2 where
  ff := x.ff.trans y.ff
  fh := y.fh
  keep := fun b o q n => y.keep b o (x.keep b o q n) fun z => by
    rcases ab b z with z | z
    · exact n z
    · rw [q] at z; cases z
  nf := fun b o q f n => y.nf b o (x.keep b o q n) (x.nf b o q f n) fun z => by
    rcases ab b z with z | z
    · exact n z
    · rw [q] at z; cases z
  dom := fun b q => x.dom b (y.dom b q)
/-- a step of slots and heap -/
structure RS (K : PySem.W.Frag) (F H : Hp) (σ : Sl) (s : En) (F' H' : Hp) (σ' : Sl) (s' : En) : Prop where
  e0 : ER K F H σ s
  st : Stp F H (OwnA σ s) F' H'
  er : ER K F' H' σ' s'
  sub : ∀ (i : Nat) (a : Addr), OwnAt σ' s' i a → OwnAt σ s i a
  kin : ∀ i : Nat, (s'[i]?.map SV.isIn) = (s[i]?.map SV.isIn)
variable {σ σ1 σ2 : Sl} {s s1 s2 : En} {F1 H1 F2 H2 : Hp}
theorem RS.refl (e : ER K F H σ s) : RS K F H σ s F H σ s := ⟨e, .refl e.fh, e, fun _ _ h => h, fun _ => rfl⟩
theorem RS.trans (x : RS K F H σ s F1 H1 σ1 s1) (y : RS K F1 H1 σ1 s1 F2 H2 σ2 s2) : RS K F H σ s F2 H2 σ2 s2 :=
  ⟨x.e0, x.st.trans y.st fun _ ⟨i, h⟩ => .inl ⟨i, x.sub _ _ h⟩, y.er, fun i a h => x.sub i a (y.sub i a h), fun i => (y.kin i).trans (x.kin i)⟩
/-- an owned thing stands in the heap -/
theorem ER.own (e : ER K F H σ s) {i : Nat} {a : Addr} (h : OwnAt σ s i a) : ∃ o, H a = some o ∧ F a = none := by
  obtain ⟨h1, x, h2, h3⟩ := h
  have q := e.at_ i _ x h1 h2
  cases x with
  | own d =>
    have q : OR K F H (.ref a) d := q
    obtain ⟨a', o, e1, e2, e3, _⟩ := q.at
    cases e1
    exact ⟨o, e2, e3⟩
  | inp d =>
    have q : OR K F H (.ref a) d := q
    obtain ⟨a', o, e1, e2, e3, _⟩ := q.at
    cases e1
    exact ⟨o, e2, e3⟩
  | _ => cases h3
theorem ER.ownA (e : ER K F H σ s) {a : Addr} (h : OwnA σ s a) : H a ≠ none := by
  obtain ⟨i, h⟩ := h
  obtain ⟨o, q, _⟩ := e.own h
  rw [q]
  exact fun z => nomatch z
/-- new things, nothing changed -/
structure Gro (F H F' H' : Hp) : Prop where
  ff : Same F F'
  fh : Same F' H'
  hh : Same H H'
  nf : ∀ b o, H b = some o → F b = none → F' b = none
theorem Gro.refl (h : Same F H) : Gro F H F H := ⟨fun _ _ q => q, h, fun _ _ q => q, fun _ _ _ q => q⟩
theorem Gro.trans (x : Gro F H F1 H1) (y : Gro F1 H1 F2 H2) : Gro F H F2 H2 :=
  ⟨x.ff.trans y.ff, y.fh, x.hh.trans y.hh, fun b o q f => y.nf b o (x.hh b o q) (x.nf b o q f)⟩
theorem Gro.stp (g : Gro F H F' H') (A : Addr → Prop) : Stp F H A F' H' :=
  ⟨g.ff, g.fh, fun b o q _ => g.hh b o q, fun b o q f _ => g.nf b o q f, fun b q => by
    cases z : H b with
    | none => rfl
    | some o => rw [g.hh b o z] at q; cases q⟩
theorem SR.gro (g : Gro F H F' H') {x : Option V} {y : SV} (h : SR K F H x y) : SR K F' H' x y := by
  cases y with
  | no => trivial
  | sh d => cases x with
    | none => exact h
    | some v => exact Rl.up g.ff h
  | ins d => cases x with
    | none => exact h
    | some v => exact Rl.up g.ff h
  | own d => cases x with
    | none => exact h
    | some v =>
      have h : OR K F H v d := h
      exact h.keep g.ff fun a o e q => ⟨g.hh a o q, by
        obtain ⟨a', o', e1, e2, e3, _⟩ := h.at
        rw [e] at e1; cases e1
        exact g.nf a _ q e3⟩
  | inp d => cases x with
    | none => exact h
    | some v =>
      have h : OR K F H v d := h
      exact h.keep g.ff fun a o e q => ⟨g.hh a o q, by
        obtain ⟨a', o', e1, e2, e3, _⟩ := h.at
        rw [e] at e1; cases e1
        exact g.nf a _ q e3⟩
theorem ER.gro (g : Gro F H F' H') (e : ER K F H σ s) : ER K F' H' σ s :=
  ⟨g.fh, e.len, fun i x y h1 h2 => (e.at_ i x y h1 h2).gro g, e.ap⟩
theorem RS.gro (g : Gro F H F' H') (e : ER K F H σ s) : RS K F H σ s F' H' σ s := ⟨e, g.stp _, e.gro g, fun _ _ h => h, fun _ => rfl⟩
/-- a new thing, shared from the start, or owned -/
theorem Gro.sh {p : Addr} {o : HO} (S : Same F H) (hp : H p = none) : Gro F H (upd F p o) (upd H p o) := by
  have fp : F p = none := by
    cases z : F p with
    | none => rfl
    | some u => rw [S _ _ z] at hp; cases hp
  refine ⟨fun b u q => ?_, fun b u q => ?_, fun b u q => ?_, fun b u q f => ?_⟩
  · rw [upd_ne (ne_of_none q fp)]; exact q
  · by_cases hb : b = p
    · subst hb; rw [upd_same] at q ⊢; exact q
    · rw [upd_ne hb] at q ⊢; exact S _ _ q
  · rw [upd_ne (ne_of_none q hp)]; exact q
  · rw [upd_ne (ne_of_none q hp)]; exact f
theorem Gro.own {p : Addr} {o : HO} (S : Same F H) (hp : H p = none) : Gro F H F (upd H p o) ∧ F p = none := by
  have fp : F p = none := by
    cases z : F p with
    | none => rfl
    | some u => rw [S _ _ z] at hp; cases hp
  refine ⟨⟨fun b u q => q, fun b u q => ?_, fun b u q => ?_, fun b u q f => f⟩, fp⟩
  · rw [upd_ne (ne_of_none q fp)]; exact S _ _ q
  · rw [upd_ne (ne_of_none q hp)]; exact q
/-- what an expression gave -/
def EvR (K : PySem.W.Frag) (F H H0 : Hp) (σ : Sl) (v : V) : EV → Prop
  | .sh d => Rl K F v d
  | .own d => OR K F H v d ∧ ∀ a, v = .ref a → H0 a = none
  | .slot i => σ[i]? = some (some v)
theorem EvR.carry {H0 : Hp} {v : V} {e : EV} (h : EvR K F H H0 σ v e) (x : RS K F H σ s F' H' σ s1) (n : ∀ a, OwnA σ s a → H0 a ≠ none) : EvR K F' H' H0 σ v e := by
  cases e with
  | sh d => exact Rl.up x.st.ff h
  | own d =>
    refine ⟨h.1.keep x.st.ff fun a o e q => ?_, h.2⟩
    have na : ¬ OwnA σ s a := fun z => n a z (h.2 a e)
    refine ⟨x.st.keep a o q na, x.st.nf a o q ?_ na⟩
    obtain ⟨a', o', e1, e2, e3, _⟩ := h.1.at
    rw [e] at e1; cases e1
    exact e3
  | slot i => exact h
theorem EvR.base {H0 H00 : Hp} {v : V} {e : EV} (h : EvR K F H H0 σ v e) (d : ∀ b, H0 b = none → H00 b = none) : EvR K F H H00 σ v e := by
  cases e with
  | sh d => exact h
  | own d' => exact ⟨h.1, fun a e => d a (h.2 a e)⟩
  | slot i => exact h
theorem EvR.peek {H0 : Hp} {v : V} {e : EV} {d : D} (h : EvR K F H H0 σ v e) (r : ER K F H σ s) (l : e.look s = some d) : PR K F H v d := by
  cases e with
  | sh d' => cases l; exact .inl h
  | own d' => cases l; exact .inr h.1
  | slot i =>
    have h : σ[i]? = some (some v) := h
    simp only [EV.look] at l
    split at l
    · rename_i e; cases l; exact .inl (r.at_ i _ _ h e)
    · rename_i e; cases l; exact .inr (r.at_ i _ _ h e)
    · rename_i e; cases l; exact .inr (r.at_ i _ _ h e)
    · rename_i e; cases l; exact .inl (r.at_ i _ _ h e)
    · cases l
theorem get_set {α : Type} {l : List α} {i j : Nat} {x y : α} (h : (l.set i x)[j]? = some y) : (j = i ∧ y = x) ∨ (j ≠ i ∧ l[j]? = some y) := by
  rw [List.getElem?_set] at h
  split at h
  · rename_i e
    split at h
    · exact .inl ⟨e.symm, (Option.some.inj h).symm⟩
    · cases h
  · rename_i e
    exact .inr ⟨fun z => e z.symm, h⟩
theorem SR.freeze {a : Addr} {o : HO} {x : Option V} {y : SV} (z : SR K F H x y) (ff : Same F (upd F a o)) (fa : F a = none) (ne : y.owns = true → x ≠ some (.ref a)) : SR K (upd F a o) H x y := by
  cases y with
  | no => trivial
  | sh d' => cases x with
    | none => exact z
    | some v => exact Rl.up ff z
  | ins d' => cases x with
    | none => exact z
    | some v => exact Rl.up ff z
  | own d' => cases x with
    | none => exact z
    | some v =>
      have z : OR K F H v d' := z
      refine z.keep ff fun b u eb q => ⟨q, ?_⟩
      have hb : b ≠ a := fun e => ne rfl (by rw [eb, e])
      rw [upd_ne hb]
      obtain ⟨b', _, e1, _, e3, _⟩ := z.at
      rw [eb] at e1; cases e1; exact e3
  | inp d' => cases x with
    | none => exact z
    | some v =>
      have z : OR K F H v d' := z
      refine z.keep ff fun b u eb q => ⟨q, ?_⟩
      have hb : b ≠ a := fun e => ne rfl (by rw [eb, e])
      rw [upd_ne hb]
      obtain ⟨b', _, e1, _, e3, _⟩ := z.at
      rw [eb] at e1; cases e1; exact e3
/-- frozen: slot i's thing -/
theorem RS.freeze (e : ER K F H σ s) {i : Nat} {v : V} {x y : SV} {d : D} (h1 : σ[i]? = some (some v)) (h2 : s[i]? = some x) (hx : (x = .own d ∧ y = .sh d) ∨ (x = .inp d ∧ y = .ins d)) :
    ∃ F', RS K F H σ s F' H σ (s.set i y) ∧ Rl K F' v d := by
  have ow : x.owns = true := by rcases hx with ⟨rfl, _⟩ | ⟨rfl, _⟩ <;> rfl
  have ny : y.owns = false := by rcases hx with ⟨_, rfl⟩ | ⟨_, rfl⟩ <;> rfl
  have q : OR K F H v d := by
    have z := e.at_ i _ _ h1 h2
    rcases hx with ⟨rfl, _⟩ | ⟨rfl, _⟩ <;> exact z
  obtain ⟨a, o, rfl, ha, fa, r⟩ := q.at
  have me : OwnAt σ s i a := ⟨h1, x, h2, ow⟩
  have ff : Same F (upd F a o) := fun b u q => by rw [upd_ne (ne_of_none q fa)]; exact q
  have fh : Same (upd F a o) H := fun b u q => by
    by_cases hb : b = a
    · subst hb; rw [upd_same] at q; cases q; exact ha
    · rw [upd_ne hb] at q; exact e.fh _ _ q
  refine ⟨upd F a o, ⟨e, ⟨ff, fh, fun _ _ q _ => q, fun b u q f n => ?_, fun _ q => q⟩, ⟨fh, by simp [e.len], fun j x' y' g1 g2 => ?_, fun j k b hjk o1 o2 => ?_⟩, fun j b o1 => ?_, fun j => ?_⟩, r⟩
  · have hb : b ≠ a := fun z => n ⟨i, by rw [z]; exact me⟩
    rw [upd_ne hb]; exact f
  · rcases get_set g2 with ⟨rfl, rfl⟩ | ⟨hj, g2⟩
    · rw [h1] at g1; cases g1
      rcases hx with ⟨_, rfl⟩ | ⟨_, rfl⟩ <;> exact r
    · exact SR.freeze (e.at_ j _ _ g1 g2) ff fa fun ow z => e.ap j i a hj ⟨by rw [← z]; exact g1, _, g2, ow⟩ me
  · obtain ⟨p1, x1, p2, p3⟩ := o1
    obtain ⟨q1, x2, q2, q3⟩ := o2
    rcases get_set p2 with ⟨rfl, rfl⟩ | ⟨n1, p2⟩
    · rw [ny] at p3; cases p3
    · rcases get_set q2 with ⟨rfl, rfl⟩ | ⟨n2, q2⟩
      · rw [ny] at q3; cases q3
      · exact e.ap j k b hjk ⟨p1, x1, p2, p3⟩ ⟨q1, x2, q2, q3⟩
  · obtain ⟨p1, x1, p2, p3⟩ := o1
    rcases get_set p2 with ⟨rfl, rfl⟩ | ⟨n1, p2⟩
    · rw [ny] at p3; cases p3
    · exact ⟨p1, x1, p2, p3⟩
  · rw [List.getElem?_set]
    split
    · rename_i z
      subst z
      split
      · rw [h2]
        rcases hx with ⟨rfl, rfl⟩ | ⟨rfl, rfl⟩ <;> rfl
      · rename_i z
        rw [List.getElem?_eq_none (by omega)]
    · rfl
theorem SR.lock {a : Addr} {o : HO} {x : Option V} {y : SV} (z : SR K F H x y) (ff : Same F (upd F a o)) (fa : F a = none) (ne : y.owns = true → x ≠ some (.ref a)) : SR K (upd F a o) (upd H a o) x y := by
  cases y with
  | no => trivial
  | sh d' => cases x with
    | none => exact z
    | some v => exact Rl.up ff z
  | ins d' => cases x with
    | none => exact z
    | some v => exact Rl.up ff z
  | own d' => cases x with
    | none => exact z
    | some v =>
      have z : OR K F H v d' := z
      refine z.keep ff fun b u eb q => ?_
      have hb : b ≠ a := fun e => ne rfl (by rw [eb, e])
      rw [upd_ne hb, upd_ne hb]
      obtain ⟨b', _, e1, _, e3, _⟩ := z.at
      rw [eb] at e1; cases e1; exact ⟨q, e3⟩
  | inp d' => cases x with
    | none => exact z
    | some v =>
      have z : OR K F H v d' := z
      refine z.keep ff fun b u eb q => ?_
      have hb : b ≠ a := fun e => ne rfl (by rw [eb, e])
      rw [upd_ne hb, upd_ne hb]
      obtain ⟨b', _, e1, _, e3, _⟩ := z.at
      rw [eb] at e1; cases e1; exact ⟨q, e3⟩
/-- locked: slot i's dict -/
theorem RS.lock (e : ER K F H σ s) {i : Nat} {p : Addr} {ks : List (Key × V)} {kvs : List (D × D)} {o : Obj} (h1 : σ[i]? = some (some (.ref p))) (h2 : s[i]? = some (.own (.dict kvs))) (hd : H p = some (.dK ks)) (fp : F p = none) (r : RlKv K F ks kvs) :
    RS K F H σ s (upd F p (.frz o (.dK ks))) (upd H p (.frz o (.dK ks))) σ (s.set i (.sh (.dict kvs))) := by
  have me : OwnAt σ s i p := ⟨h1, _, h2, rfl⟩
  have ff : Same F (upd F p (.frz o (.dK ks))) := fun b u q => by rw [upd_ne (ne_of_none q fp)]; exact q
  have fh : Same (upd F p (.frz o (.dK ks))) (upd H p (.frz o (.dK ks))) := fun b u q => by
    by_cases hb : b = p
    · subst hb; rw [upd_same] at q ⊢; exact q
    · rw [upd_ne hb] at q ⊢; exact e.fh _ _ q
  refine ⟨e, ⟨ff, fh, fun b u q n => ?_, fun b u q f n => ?_, fun b q => ?_⟩, ⟨fh, by simp [e.len], fun j x' y' g1 g2 => ?_, fun j k b hjk o1 o2 => ?_⟩, fun j b o1 => ?_, fun j => ?_⟩
  · have hb : b ≠ p := fun z => n ⟨i, by rw [z]; exact me⟩
    rw [upd_ne hb]; exact q
  · have hb : b ≠ p := fun z => n ⟨i, by rw [z]; exact me⟩
    rw [upd_ne hb]; exact f
  · by_cases hb : b = p
    · subst hb; rw [upd_same] at q; cases q
    · rw [upd_ne hb] at q; exact q
  · rcases get_set g2 with ⟨rfl, rfl⟩ | ⟨hj, g2⟩
    · rw [h1] at g1; cases g1
      exact Rl.dicF upd_same (r.up ff)
    · exact SR.lock (e.at_ j _ _ g1 g2) ff fp fun ow z => e.ap j i p hj ⟨by rw [← z]; exact g1, _, g2, ow⟩ me
  · obtain ⟨p1, x1, p2, p3⟩ := o1
    obtain ⟨q1, x2, q2, q3⟩ := o2
    rcases get_set p2 with ⟨rfl, rfl⟩ | ⟨n1, p2⟩
    · cases p3
    · rcases get_set q2 with ⟨rfl, rfl⟩ | ⟨n2, q2⟩
      · cases q3
      · exact e.ap j k b hjk ⟨p1, x1, p2, p3⟩ ⟨q1, x2, q2, q3⟩
  · obtain ⟨p1, x1, p2, p3⟩ := o1
    rcases get_set p2 with ⟨rfl, rfl⟩ | ⟨n1, p2⟩
    · cases p3
    · exact ⟨p1, x1, p2, p3⟩
  · rw [List.getElem?_set]
    split
    · rename_i z
      subst z
      split
      · rw [h2]
        rfl
      · rename_i z
        rw [List.getElem?_eq_none (by omega)]
    · rfl
/-- what an expression gave, taken for good -/
theorem EvR.take {H0 : Hp} {s0 : En} {F0 : Hp} {v : V} {e : EV} {d : D} (h : EvR K F H H0 σ v e) (x : RS K F0 H0 σ s0 F H σ s) (l : e.take s = some (d, s1)) :
    ∃ F', RS K F0 H0 σ s0 F' H σ s1 ∧ Rl K F' v d := by
  cases e with
  | sh d' => cases l; exact ⟨F, x, h⟩
  | own d' =>
    cases l
    obtain ⟨a, o, rfl, ha, fa, r⟩ := h.1.at
    have ha0 := h.2 a rfl
    have ff : Same F (upd F a o) := fun b u q => by rw [upd_ne (ne_of_none q fa)]; exact q
    have fh : Same (upd F a o) H := fun b u q => by
      by_cases hb : b = a
      · subst hb; rw [upd_same] at q; cases q; exact ha
      · rw [upd_ne hb] at q; exact x.er.fh _ _ q
    have no : ∀ j, ¬ OwnAt σ s j a := fun j z => by
      obtain ⟨u, q, _⟩ := x.e0.own (x.sub j a z)
      rw [q] at ha0; cases ha0
    refine ⟨upd F a o, ⟨x.e0, ⟨x.st.ff.trans ff, fh, x.st.keep, fun b u q f n => ?_, x.st.dom⟩, ⟨fh, x.er.len, fun i y z g1 g2 => ?_, x.er.ap⟩, x.sub, x.kin⟩, r⟩
    · rw [upd_ne (ne_of_none q ha0)]
      exact x.st.nf b u q f n
    · have q := x.er.at_ i y z g1 g2
      have ne : z.owns = true → y ≠ some (.ref a) := fun ow e => no i ⟨by rw [← e]; exact g1, z, g2, ow⟩
      exact SR.freeze q ff fa ne
  | slot i =>
    have h : σ[i]? = some (some v) := h
    simp only [EV.take] at l
    split at l
    · rename_i e; cases l; exact ⟨F, x, x.er.at_ i _ _ h e⟩
    · rename_i e; cases l
      obtain ⟨F', x', r⟩ := RS.freeze x.er h e (.inl ⟨rfl, rfl⟩)
      exact ⟨F', x.trans x', r⟩
    · rename_i e; cases l
      obtain ⟨F', x', r⟩ := RS.freeze x.er h e (.inr ⟨rfl, rfl⟩)
      exact ⟨F', x.trans x', r⟩
    · rename_i e; cases l; exact ⟨F, x, x.er.at_ i _ _ h e⟩
    · cases l
end
end Tw

set_option linter.all false
set_option maxRecDepth 100000
set_option maxHeartbeats 1000000
set_option autoImplicit false
/-! An empty dict, asked by a tuple. -/
namespace Tw
open PySem PySem.Spec PyProof.Rows L2
section
variable {X : Cx} {pins : List (Addr × Obj)} {σ : Sl} {H : Hp} {s : Shared} {a b : Addr} {v : V} {r : Value} {A : Around} {E : Value → Shared → Prop} {k : List Key}
theorem none_of_dK (I : L2.Inv X pins σ H s) (e : Rd H a (.dK [])) : (a == sysModules) = false ∧ s.heap.DictOfH (tupleKind (mixKind X.prog X.w)) a [] := by
  obtain ⟨_, hd, vs, rel, o, es, ep, h1, h2, h3, _, h5, _⟩ := dk_rd I.hok e
  cases rel
  have : es.toList = [] := by
    generalize es.toList = l at h5
    cases h5
    rfl
  exact ⟨hd, o, es, ep, h1, h2, h3, this, by simp, by simp⟩
theorem in_none {Q : Value → Shared → Prop} (hu : A.units + 1 < cLine) (I : L2.Inv X pins σ H s) (e : Rd H a (.dK [])) (eb : H b = some (.tup (k.map kV))) (h : ∀ s', L2.Inv X pins σ H s' → Q (.bool false) s') :
    wpAny (model X.prog X.w) A (compareOp .In (.ref b) (.ref a)) Q E s := by
  obtain ⟨hd, dd⟩ := none_of_dK I e
  exact wpAny_in_heap (tupleKind_room_in1 hu) (L2.key_of I.hok eb) hd dd (h _ (I.tok _))
theorem notIn_none {Q : Value → Shared → Prop} (hu : A.units + 1 < cLine) (I : L2.Inv X pins σ H s) (e : Rd H a (.dK [])) (eb : H b = some (.tup (k.map kV))) (h : ∀ s', L2.Inv X pins σ H s' → Q (.bool true) s') :
    wpAny (model X.prog X.w) A (compareOp .NotIn (.ref b) (.ref a)) Q E s := by
  obtain ⟨hd, dd⟩ := none_of_dK I e
  exact wpAny_notIn_heap (tupleKind_room_in1 hu) (L2.key_of I.hok eb) hd dd (h _ (I.tok _))
theorem set_none {Q : Unit → Shared → Prop} (hu : A.units + 1 < cLine) (I : L2.Inv X pins σ H s) (e : H a = some (.dK [])) (eb : H b = some (.tup (k.map kV))) (rv : RelV v r) (h : ∀ s', L2.Inv X pins σ (upd H a (.dT [(k, v)])) s' → Q () s') :
    wpAny (model X.prog X.w) A (setItem (.ref a) (.ref b) r) Q E s := by
  obtain ⟨hd, dd⟩ := none_of_dK I (.inl e)
  have eq : storedH ([] : List (List Key × Addr × Value)) k b r = [(k, b, r)] := rfl
  refine wpAny_setItem_heap (hsz := Nat.zero_le _) (tupleKind_room_in1 hu) (L2.key_of I.hok eb) dd fun h' dd' hs => h _ ?_
  obtain ⟨q, es, ep, hq, h2, h3, h4, _, h5⟩ := dd'
  have ne : b ≠ a := by
    intro z
    subst z
    rw [e] at eb
    cases eb
  refine L2.d_write I (by rw [e]; exact True.intro) hs ⟨q, hq⟩ ⟨(by show 1 ≤ sizeLine; rw [sizeLine_eq]; decide), hd, _, .cons ⟨rfl, ?_, rv⟩ .nil, q, es, ep, hq, h2, h3, h4, h5⟩
  show upd H a _ b = _
  rw [upd_ne ne]
  exact eb
end
end Tw

set_option linter.all false
set_option maxRecDepth 100000
set_option maxHeartbeats 4000000
set_option autoImplicit false
/-! tuple * 0, tuple * 1. -/
namespace Tw
open PySem PySem.Spec PyProof.Rows L2
theorem tuple_mul1 (l : Addr) (items : Array Value) (n : Nat) (dd : Option Addr) (sl : Array (Option Value)) (u : Tok) :
    Meets (Builtin.«tuple.__mul__» ⟨[.ref l, .int 1 u], []⟩) (fun _ R s => s.heap.get? l = some { cls := .type "tuple", dict := dd, data := .seq items n, slots := sl } ∧
      R (.ok (.ret (Value.ref l))) s) :=
  .of_wp fun prog w A R s h => by
    obtain ⟨hp, g, d, tk, os⟩ := s
    obtain ⟨hl, h⟩ := h
    have f1 := AutoSeq1.idx_int
    have c1 : (items.isEmpty || (1 : Int) == 1) = true := by simp
    wp_walk using wpAny_loadPart' hl
    repeat (first
      | (refine wpAny_ite_false (decide_eq_false (by decide)) ?_; wp_walk using wpAny_loadPart' hl)
      | (refine wpAny_ite_true (decide_eq_true (by rw [c1])) ?_; wp_walk using wpAny_loadPart' hl))
    exact ⟨_, rfl, h⟩
theorem tuple_mul0 (l : Addr) (items : Array Value) (n : Nat) (dd : Option Addr) (sl : Array (Option Value)) (u : Tok) (hi : items.isEmpty = false) :
    Meets (Builtin.«tuple.__mul__» ⟨[.ref l, .int 0 u], []⟩) (fun _ R s => s.heap.get? l = some { cls := .type "tuple", dict := dd, data := .seq items n, slots := sl } ∧
      R (.ok (.ret (Value.ref s.heap.objs.size))) { s with heap := s.heap.push { cls := Value.type "tuple", data := Data.seq #[] }, toks := s.toks }) :=
  .of_wp fun prog w A R s h => by
    obtain ⟨hp, g, d, tk, os⟩ := s
    obtain ⟨hl, h⟩ := h
    have f1 := AutoSeq1.idx_int
    have c1 : (items.isEmpty || (0 : Int) == 1) = false := by rw [hi]; rfl
    have c2 : (decide ((0 : Int) ≤ 0) || items.isEmpty) = true := by simp
    wp_walk using wpAny_loadPart' hl
    repeat (first
      | (refine wpAny_ite_false (decide_eq_false (by decide)) ?_; wp_walk using wpAny_loadPart' hl)
      | (refine wpAny_ite_false (decide_eq_false (by rw [c1]; exact Bool.false_ne_true)) ?_; wp_walk using wpAny_loadPart' hl)
      | (refine wpAny_ite_true (decide_eq_true (by rw [c2])) ?_; wp_walk using wpAny_loadPart' hl))
    exact ⟨_, rfl, h⟩
/-- tuple * int, the tuple not empty, the int from 0 on -/
theorem op_rep01 {X : Cx} : OpR X (binaryOp .Mult) (fun x y H Q => ∃ (l : Addr) (k : Int) (xs : List V), x = .ref l ∧ y = .int k ∧ SqT X.K H l xs ∧ xs ≠ [] ∧ ((k = 0 ∧ ∀ p, H p = none → Q (.ref p) (upd H p (.tup []))) ∨ (k = 1 ∧ Q (.ref l) H))) := by
  intro pins s σ H x y v u Q I rx ry h
  obtain ⟨l, k, xs, rfl, rfl, hT, hne, h⟩ := h
  cases rx
  obtain ⟨t, rfl⟩ := ry
  obtain ⟨its, r, ⟨⟨cls, dd, data, sl⟩, ho, hc, n, hd⟩, hs⟩ := I.tuple hT
  simp only at hc hd
  subst hc hd
  have hle : its.length = xs.length := r.length.symm
  have hn : its ≠ [] := fun e => hne (by
    rw [e] at hle
    exact List.eq_nil_of_length_eq_zero hle.symm)
  have hi : its.toArray.isEmpty = false := by
    cases its with
    | nil => exact absurd rfl hn
    | cons a b => rfl
  rcases h with ⟨rfl, q⟩ | ⟨rfl, q⟩
  · refine wpAny_binaryOp_repeat_ref (T := "tuple") (U := "int") (by decide) ⟨_, ho, rfl⟩ (fun s' => typeIs_int s' 0 t) noFill_tuple_mul F.fills_int_mul F.slot_int_rmul repeat_tuple F.slot_int_index.lookup
      (call_meets F.slot_int_rmul (typeIs_int s 0 t) F.entry_int_rmul (F.args_int_rmul_2 _ _) (int_rmul_tuple 0 t l its.toArray n dd sl)
        ⟨ho, rfl, ⟨_, ho, rfl⟩, call_meets F.slot_tuple_mul ⟨_, ho, rfl⟩ F.entry_tuple_mul (F.args_tuple_mul_2 _ _) (tuple_mul0 l its.toArray n dd sl t hi) ⟨ho, ?_⟩⟩)
    refine ⟨.ref s.heap.objs.size, _, I.laid (t' := s.toks) (o := .tup []) (fun b ob q => Heap.get?_push_of_some _ q) (Nat.le_refl _) ?_, rfl, q _ (I.hok.fresh (Nat.le_refl _))⟩
    exact ⟨Nat.zero_le _, [], .nil, IsTup.new _ _⟩
  · refine wpAny_binaryOp_repeat_ref (T := "tuple") (U := "int") (by decide) ⟨_, ho, rfl⟩ (fun s' => typeIs_int s' 1 t) noFill_tuple_mul F.fills_int_mul F.slot_int_rmul repeat_tuple F.slot_int_index.lookup
      (call_meets F.slot_int_rmul (typeIs_int s 1 t) F.entry_int_rmul (F.args_int_rmul_2 _ _) (int_rmul_tuple 1 t l its.toArray n dd sl)
        ⟨ho, rfl, ⟨_, ho, rfl⟩, call_meets F.slot_tuple_mul ⟨_, ho, rfl⟩ F.entry_tuple_mul (F.args_tuple_mul_2 _ _) (tuple_mul1 l its.toArray n dd sl t) ⟨ho, ?_⟩⟩)
    exact ⟨.ref l, H, I, rfl, q⟩
/-- list * int, few in all -/
theorem op_repL {X : Cx} : OpR X (binaryOp .Mult) (fun x y H Q => ∃ (l : Addr) (k : Int) (xs : List V), x = .ref l ∧ y = .int k ∧ SqL X.K H l xs ∧ 0 ≤ k ∧ k ≤ 256 ∧ xs.length * k.toNat ≤ 256 ∧ ∀ p, H p = none → Q (.ref p) (upd H p (.lst (List.replicate k.toNat xs).flatten))) := by
  intro pins s σ H x y v u Q I rx ry h
  obtain ⟨l, k, xs, rfl, rfl, hT, k0, k1, hz, q⟩ := h
  cases rx
  obtain ⟨t, rfl⟩ := ry
  obtain ⟨its, r, pl, _⟩ := I.list hT
  obtain ⟨⟨cls, dd, data, sl⟩, n, ho, hc, hd1, hd⟩ := pl
  simp only at hc hd1 hd
  subst hc hd1 hd
  have hle : its.length = xs.length := r.length.symm
  have hsz' : its.toArray.size * k.toNat ≤ 256 := by rw [List.size_toArray, hle]; exact hz
  have hsl : 256 < sizeLine := by rw [sizeLine_eq]; decide
  have hz2 : ((its.length : Nat) : Int) * k ≤ 256 := by
    obtain ⟨m, rfl⟩ := Int.eq_ofNat_of_zero_le k0
    rw [← Int.natCast_mul, hle]
    rw [Int.toNat_natCast] at hz
    omega
  have h3 : Builtin.List.listTooLong (its.toArray.size * k.toNat) = false := by
    unfold Builtin.List.listTooLong
    exact decide_eq_false (Nat.not_lt.mpr (Nat.le_trans hsz' (Nat.le_of_lt hsl)))
  refine wpAny_binaryOp_repeat_ref (T := "list") (U := "int") (by decide) ⟨_, ho, rfl⟩ (fun s' => typeIs_int s' k t) noFill_list_mul F.fills_int_mul F.slot_int_rmul repeat_list F.slot_int_index.lookup
    (call_meets F.slot_int_rmul (typeIs_int s k t) F.entry_int_rmul (F.args_int_rmul_2 _ _) (lm_int_rmul_list_any k t l its.toArray n _ sl)
      ⟨ho, rfl, ⟨_, ho, rfl⟩, call_meets F.slot_list_mul ⟨_, ho, rfl⟩ F.entry_list_mul (F.args_list_mul_2 _ _)
        (lm_list_mul_any l its.toArray n _ sl k t (by simp [Builtin.List.listFitsIndex]; omega) (by omega) (by rw [h3]; exact Bool.false_ne_true))
        ⟨ho, ?_⟩⟩)
  rw [listMul_foldl_if]
  have rr : ∀ m : Nat, Vals (List.replicate m xs).flatten (List.replicate m its).flatten := by
    intro m
    induction m with
    | zero => exact .nil
    | succ m ih =>
      simp only [List.replicate_succ, List.flatten_cons]
      exact r.append ih
  have hl : (List.replicate k.toNat xs).flatten.length ≤ sizeLine := by
    rw [PyProof.Rows.lm_len_rep_flat, sizeLine_eq, Nat.mul_comm]
    omega
  exact ⟨.ref _, _, I.lnew (t' := s.toks) (rr k.toNat) hl, rfl, q _ I.fresh⟩
end Tw

set_option linter.all false
set_option maxRecDepth 100000
set_option maxHeartbeats 4000000
set_option autoImplicit false
/-! The operations, by values. -/
namespace Tw
open PySem PySem.Spec PyProof.Rows L2

inductive PRs (K : PySem.W.Frag) (F H : Hp) : List V → List D → Prop
  | nil : PRs K F H [] []
  | cons {v : V} {vs : List V} {d : D} {ds : List D} (h : PR K F H v d) (t : PRs K F H vs ds) : PRs K F H (v :: vs) (d :: ds)
def Op.res (o : Op) (d : D) : EV := if o.fresh d then .own d else .sh d
def rDn (K : PySem.W.Frag) (o : Op) : List V → Hp → VK → Prop := fun xs H Q => ∃ (F : Hp) (ds : List D) (d : D), Same F H ∧ PRs K F H xs ds ∧ o.eval ds = some d ∧
  ∀ (v : V) (F' H' : Hp), Gro F H F' H' → EvR K F' H' H [] v (o.res d) → Q v H'
abbrev rD2 (K : PySem.W.Frag) (o : Op) : R2 := fun x y H Q => rDn K o [x, y] H Q
abbrev rD1 (K : PySem.W.Frag) (o : Op) : V → Hp → VK → Prop := fun x H Q => rDn K o [x] H Q

theorem BIG_le : BIG ≤ sizeLine := by rw [sizeLine_eq]; decide
theorem BIG_lt : BIG < sizeLine := by rw [sizeLine_eq]; decide
section
variable {K : PySem.W.Frag} {F H : Hp} {x y : V} {Q : VK} {o : Op}
theorem rDn.two {o : Op} (h : rDn K o [x, y] H Q) : ∃ (F : Hp) (a b d : D), Same F H ∧ PR K F H x a ∧ PR K F H y b ∧ o.eval [a, b] = some d ∧
    ∀ (v : V) (F' H' : Hp), Gro F H F' H' → EvR K F' H' H [] v (o.res d) → Q v H' := by
  obtain ⟨F, ds, d, S, p, e, q⟩ := h
  cases p with
  | cons h t => cases t with
    | cons h' t => cases t; exact ⟨F, _, _, d, S, h, h', e, q⟩
theorem rDn.one {o : Op} (h : rDn K o [x] H Q) : ∃ (F : Hp) (a d : D), Same F H ∧ PR K F H x a ∧ o.eval [a] = some d ∧
    ∀ (v : V) (F' H' : Hp), Gro F H F' H' → EvR K F' H' H [] v (o.res d) → Q v H' := by
  obtain ⟨F, ds, d, S, p, e, q⟩ := h
  cases p with
  | cons h t => cases t; exact ⟨F, _, d, S, h, e, q⟩
variable {d : D}
theorem kval {v : V} (S : Same F H) (q : ∀ (v : V) (F' H' : Hp), Gro F H F' H' → EvR K F' H' H [] v (o.res d) → Q v H') (hf : o.fresh d = false) (r : Rl K F v d) : Q v H := by
  refine q v F H (.refl S) ?_
  unfold Op.res
  rw [hf]
  exact r
theorem kown {ds : List D} {xs : List V} (S : Same F H) (q : ∀ (v : V) (F' H' : Hp), Gro F H F' H' → EvR K F' H' H [] v (o.res (.list ds)) → Q v H') (hf : o.fresh (.list ds) = true) (r : RlAll K F xs ds) :
    ∀ p, H p = none → Q (.ref p) (upd H p (.lst xs)) := fun p hp => by
  obtain ⟨g, fp⟩ := Gro.own (o := .lst xs) S hp
  refine q _ F _ g ?_
  unfold Op.res
  rw [hf]
  exact ⟨.lst upd_same fp r, fun a e => by cases e; exact hp⟩
theorem ktup {ds : List D} {xs : List V} (S : Same F H) (q : ∀ (v : V) (F' H' : Hp), Gro F H F' H' → EvR K F' H' H [] v (o.res (.tuple ds)) → Q v H') (hf : o.fresh (.tuple ds) = false) (r : RlAll K F xs ds) :
    ∀ p, H p = none → Q (.ref p) (upd H p (.tup xs)) := fun p hp => by
  have g := Gro.sh (o := .tup xs) S hp
  refine q _ _ _ g ?_
  unfold Op.res
  rw [hf]
  exact .tup upd_same (r.up g.ff)

/-! ### dicts aside, as HandS has it -/
mutual
theorem Rl.toDp (S : Same F H) : ∀ (d : D) (v : V), d.hasDict = false → Rl K F v d → Dp K H v d
  | .none, _, _, h => by cases h; exact .non
  | .bool b, _, _, h => by cases h; exact .bl b
  | .int i, _, _, h => by cases h; exact .int i
  | .str x, _, _, h => by cases h; exact .str x
  | .list ds, _, n, h => by
    cases h with
    | lst h r => exact .lst (S.seq h) (RlAll.toDp S ds _ (by simpa only [PyData.hasDict] using n) r)
  | .tuple ds, _, n, h => by
    cases h with
    | tup h r => exact .tup (.inl (.inl (S _ _ h))) (RlAll.toDp S ds _ (by simpa only [PyData.hasDict] using n) r)
  | .dict _, _, n, _ => by simp only [PyData.hasDict] at n; cases n
theorem RlAll.toDp (S : Same F H) : ∀ (ds : List D) (vs : List V), PyData.hasDictAll ds = false → RlAll K F vs ds → DpAll K H vs ds
  | [], _, _, h => by cases h; exact .nil
  | d :: ds, _, n, h => by
    cases h with
    | cons h t =>
      simp only [PyData.hasDictAll, Bool.or_eq_false_iff] at n
      exact .cons (Rl.toDp S d _ n.1 h) (RlAll.toDp S ds _ n.2 t)
end
theorem PR.toDp (S : Same F H) (n : d.hasDict = false) (h : PR K F H x d) : Dp K H x d := by
  rcases h with h | h
  · exact Rl.toDp S d _ n h
  · cases h with
    | lst h _ r => exact .lst (.inl (.inl h)) (RlAll.toDp S _ _ (by simpa only [PyData.hasDict] using n) r)
    | dic => simp only [PyData.hasDict] at n; cases n
    | dicT => simp only [PyData.hasDict] at n; cases n
theorem PR.dp (S : Same F H) (n : SeqAt.shaped d = true) (h : PR K F H x d) : Dp K H x d :=
  h.toDp S (PyData.hasDict_of_canLay d (SeqAt.canLay_of_shaped n))
end

section
variable {X : Cx}
/-! ### numbers -/
theorem mul_ok {a b : Int} (h : mulOk a b = true) : CMulW a b := by
  simp only [mulOk, decide_eq_true_eq] at h
  exact h
theorem o_sub : OpR X (binaryOp .Sub) (rD2 X.K .sub) := by
  intro pins s σ H x y v u Q I rx ry h
  obtain ⟨F, a, b, d, S, pa, pb, e, q⟩ := h.two
  cases a <;> cases b <;> first
    | (simp [Op.eval] at e; done)
    | (cases e; cases pa.int; cases pb.int; exact op_sub pins s σ H _ _ v u Q I rx ry ⟨_, _, rfl, rfl, kval S q rfl (.int _)⟩)
theorem op_catL : OpR X (binaryOp .Add) (fun x y H Q => ∃ l b xs zs, x = .ref l ∧ y = .ref b ∧ SqL X.K H l xs ∧ SqL X.K H b zs ∧ xs.length + zs.length ≤ sizeLine ∧ ∀ p, H p = none → Q (.ref p) (upd H p (.lst (xs ++ zs)))) := by
  intro pins s σ H x y v u Q I rx ry h
  obtain ⟨l, b, xs, zs, rfl, rfl, hl, hb, hz, q⟩ := h
  cases rx
  cases ry
  obtain ⟨its, r, pl, _⟩ := I.list hl
  obtain ⟨its2, r2, pl2, _⟩ := I.list hb
  have n1 := r.length
  have n2 := r2.length
  obtain ⟨⟨cls1, dd1, da1, sl1⟩, k1, g1, c1, i1, d1⟩ := pl
  obtain ⟨⟨cls2, dd2, da2, sl2⟩, k2, g2, c2, i2, d2⟩ := pl2
  simp only at c1 i1 d1 c2 i2 d2
  subst c1 i1 d1 c2 i2 d2
  have ea : its.toArray ++ its2.toArray = (its ++ its2).toArray := by simp
  have hs : its.toArray.size + its2.toArray.size ≤ sizeLine := by simp only [List.size_toArray]; omega
  refine concat_meets ⟨_, g1, rfl⟩ ⟨_, g2, rfl⟩ noFill_list_add seq_list_add F.slot_list_add F.entry_list_add (F.args_list_add_2 _ _)
    (list_addW l b its.toArray its2.toArray k1 k2 _ _ sl1 sl2 hs) ⟨g1, g2, ?_⟩
  rw [ea]
  exact ⟨.ref _, _, I.lnew (t' := s.toks) (r.append r2) (by rw [List.length_append]; omega), rfl, q _ I.fresh⟩
theorem o_add : OpR X (binaryOp .Add) (rD2 X.K .add) := by
  intro pins s σ H x y v u Q I rx ry h
  obtain ⟨F, a, b, d, S, pa, pb, e, q⟩ := h.two
  have bl := BIG_le
  cases a <;> cases b <;> try (simp [Op.eval] at e; done)
  case int.int => cases e; cases pa.int; cases pb.int; exact op_add pins s σ H _ _ v u Q I rx ry ⟨_, _, rfl, rfl, kval S q rfl (.int _)⟩
  case str.str =>
    simp only [Op.eval] at e
    split at e
    · cases e; cases pa.str; cases pb.str
      exact op_add_str pins s σ H _ _ v u Q I rx ry ⟨_, _, rfl, rfl, by omega, kval S q rfl (.str _)⟩
    · cases e
  case list.list =>
    simp only [Op.eval] at e
    split at e
    · cases e
      obtain ⟨p, xs, rfl, hx, rx'⟩ := pa.lst S
      obtain ⟨p2, zs, rfl, hz, rz'⟩ := pb.lst S
      have := rx'.length
      have := rz'.length
      exact op_catL pins s σ H _ _ v u Q I rx ry ⟨p, p2, xs, zs, rfl, rfl, hx, hz, by omega, kown S q rfl (rx'.append rz')⟩
    · cases e
  case tuple.tuple =>
    simp only [Op.eval] at e
    split at e
    · cases e
      have pa0 := pa
      have pb0 := pb
      obtain ⟨p, xs, rfl, hx, rx'⟩ := pa.tup S
      obtain ⟨p2, zs, rfl, hz, rz'⟩ := pb.tup S
      have := rx'.length
      have := rz'.length
      refine op_catA pins s σ H _ _ v u Q I rx ry ⟨p, p2, xs, zs, rfl, rfl, hx, hz, by omega, fun e => ?_, fun _ e => ?_, fun _ _ => ktup S q rfl (rx'.append rz')⟩
      · subst e; cases rx'
        refine kval S q rfl ?_
        rcases pb0 with z | z
        · exact z
        · cases z
      · subst e; cases rz'
        rw [List.append_nil] at q
        refine kval S q rfl ?_
        rcases pa0 with z | z
        · exact z
        · cases z
    · cases e
theorem RlAll.rep {K : PySem.W.Frag} {F : Hp} {vs : List V} {ds : List D} (h : RlAll K F vs ds) : ∀ n : Nat, RlAll K F (List.replicate n vs).flatten (List.replicate n ds).flatten
  | 0 => .nil
  | n + 1 => by
    simp only [List.replicate_succ, List.flatten_cons]
    exact h.append (RlAll.rep h n)
theorem o_mul : OpR X (binaryOp .Mult) (rD2 X.K .mul) := by
  intro pins s σ H x y v u Q I rx ry h
  obtain ⟨F, a, b, d, S, pa, pb, e, q⟩ := h.two
  cases a <;> cases b <;> try (simp [Op.eval] at e; done)
  case int.int =>
    simp only [Op.eval] at e
    split at e
    · rename_i hm
      cases e; cases pa.int; cases pb.int
      exact op_mulW pins s σ H _ _ v u Q I rx ry ⟨_, _, rfl, rfl, mul_ok hm, kval S q rfl (.int _)⟩
    · cases e
  case tuple.int ds k =>
    cases ds with
    | nil => simp [Op.eval] at e
    | cons z r =>
      simp only [Op.eval] at e
      split at e
      · rename_i hm
        cases e
        cases pb.int
        obtain ⟨p, xs, rfl, hx, rx'⟩ := pa.tup S
        have n1 := rx'.length
        rw [List.length_cons] at n1
        have hne : xs ≠ [] := fun z => by rw [z] at n1; cases n1
        by_cases k0 : k = 0
        · subst k0
          exact op_rep01 pins s σ H _ _ v u Q I rx ry ⟨p, 0, xs, rfl, rfl, hx, hne, .inl ⟨rfl, ktup S q rfl .nil⟩⟩
        · by_cases k1 : k = 1
          · subst k1
            refine op_rep01 pins s σ H _ _ v u Q I rx ry ⟨p, 1, xs, rfl, rfl, hx, hne, .inr ⟨rfl, kval S q rfl ?_⟩⟩
            have e1 : (List.replicate (1 : Int).toNat (z :: r)).flatten = z :: r := by simp
            rw [e1]
            rcases pa with w | w
            · exact w
            · cases w
          · exact op_repT pins s σ H _ _ v u Q I rx ry ⟨p, k, xs, rfl, rfl, hx, hne, by omega, hm.2.1, by omega, ktup S q rfl (RlAll.rep rx' _)⟩
      · cases e
  case list.int ds k =>
    simp only [Op.eval] at e
    split at e
    · rename_i hm
      cases e
      cases pb.int
      obtain ⟨p, xs, rfl, hx, rx'⟩ := pa.lst S
      have n1 := rx'.length
      exact op_repL pins s σ H _ _ v u Q I rx ry ⟨p, k, xs, rfl, rfl, hx, hm.1, hm.2.1, by rw [n1]; exact hm.2.2, kown S q rfl (RlAll.rep rx' _)⟩
    · cases e
theorem o_fdiv : OpR X (binaryOp .FloorDiv) (rD2 X.K .fdiv) := by
  intro pins s σ H x y v u Q I rx ry h
  obtain ⟨F, a, b, d, S, pa, pb, e, q⟩ := h.two
  cases a <;> cases b <;> try (simp [Op.eval] at e; done)
  case int.int i j =>
    simp only [Op.eval] at e
    split at e
    · rename_i hm
      cases e; cases pa.int; cases pb.int
      simp only [divOk, Bool.and_eq_true, decide_eq_true_eq] at hm
      obtain ⟨t, rfl⟩ := rx
      obtain ⟨t', rfl⟩ := ry
      exact floordiv_int hm.1 ⟨.int _, H, I.tok _, ⟨_, rfl⟩, kval S q rfl (.int _)⟩ (.inl (PyProof.noPylong_of_log2 hm.2))
    · cases e
theorem o_mod : OpR X (binaryOp .Mod) (rD2 X.K .mod) := by
  intro pins s σ H x y v u Q I rx ry h
  obtain ⟨F, a, b, d, S, pa, pb, e, q⟩ := h.two
  cases a <;> cases b <;> try (simp [Op.eval] at e; done)
  case int.int i j =>
    simp only [Op.eval] at e
    split at e
    · rename_i hm
      cases e; cases pa.int; cases pb.int
      exact op_modN pins s σ H _ _ v u Q I rx ry ⟨_, _, rfl, rfl, hm, kval S q rfl (.int _)⟩
    · cases e
theorem o_pow : OpR X (binaryOp .Pow) (rD2 X.K .pow) := by
  intro pins s σ H x y v u Q I rx ry h
  obtain ⟨F, a, b, d, S, pa, pb, e, q⟩ := h.two
  cases a <;> cases b <;> try (simp [Op.eval] at e; done)
  case int.int i j =>
    simp only [Op.eval] at e
    split at e
    · rename_i hm
      cases e; cases pa.int; cases pb.int
      simp only [powOk, Bool.and_eq_true, decide_eq_true_eq] at hm
      exact op_pow pins s σ H _ _ v u Q I rx ry ⟨_, _, rfl, rfl, ⟨hm.1.1, hm.1.2, hm.2⟩, kval S q rfl (.int _)⟩
    · cases e
theorem o_neg : UnR X (unaryOp .USub) (rD1 X.K .neg) := by
  intro pins s σ H x v Q I rx h
  obtain ⟨F, a, d, S, pa, e, q⟩ := h.one
  cases a <;> try (simp [Op.eval] at e; done)
  case int i =>
    cases e; cases pa.int
    exact un_neg pins s σ H _ v Q I rx ⟨_, rfl, kval S q rfl (.int _)⟩
/-! ### comparisons -/
theorem o_lt : OpR X (compareOp .Lt) (rD2 X.K .lt) := by
  intro pins s σ H x y v u Q I rx ry h
  obtain ⟨F, a, b, d, S, pa, pb, e, q⟩ := h.two
  cases a <;> cases b <;> first
    | (simp [Op.eval] at e; done)
    | (cases e; cases pa.int; cases pb.int; exact op_lt pins s σ H _ _ v u Q I rx ry ⟨_, _, rfl, rfl, kval S q rfl (.bl _)⟩)
theorem o_le : OpR X (compareOp .LtE) (rD2 X.K .le) := by
  intro pins s σ H x y v u Q I rx ry h
  obtain ⟨F, a, b, d, S, pa, pb, e, q⟩ := h.two
  cases a <;> cases b <;> first
    | (simp [Op.eval] at e; done)
    | (cases e; cases pa.int; cases pb.int; exact op_le pins s σ H _ _ v u Q I rx ry ⟨_, _, rfl, rfl, kval S q rfl (.bl _)⟩)
theorem o_gt : OpR X (compareOp .Gt) (rD2 X.K .gt) := by
  intro pins s σ H x y v u Q I rx ry h
  obtain ⟨F, a, b, d, S, pa, pb, e, q⟩ := h.two
  cases a <;> cases b <;> first
    | (simp [Op.eval] at e; done)
    | (cases e; cases pa.int; cases pb.int; exact op_gt pins s σ H _ _ v u Q I rx ry ⟨_, _, rfl, rfl, kval S q rfl (.bl _)⟩)
theorem o_ge : OpR X (compareOp .GtE) (rD2 X.K .ge) := by
  intro pins s σ H x y v u Q I rx ry h
  obtain ⟨F, a, b, d, S, pa, pb, e, q⟩ := h.two
  cases a <;> cases b <;> first
    | (simp [Op.eval] at e; done)
    | (cases e; cases pa.int; cases pb.int; exact op_ge pins s σ H _ _ v u Q I rx ry ⟨_, _, rfl, rfl, kval S q rfl (.bl _)⟩)
theorem o_eq (hu : X.A.units + 65 < cLine) : OpR X (compareOp .Eq) (rD2 X.K .eq) := by
  intro pins s σ H x y v u Q I rx ry h
  obtain ⟨F, a, b, d, S, pa, pb, e, q⟩ := h.two
  simp only [Op.eval] at e
  split at e
  · rename_i r z
    cases e
    rcases eqGo_cases z with ⟨x', y', rfl, rfl, rfl⟩ | ⟨z1, z2, rfl⟩
    · cases pa.str
      cases pb.str
      exact op_eq pins s σ H _ _ v u Q I rx ry ⟨rfl, by rw [show decide (V.str x' = V.str y') = decide (x' = y') by simp]; exact kval S q rfl (.bl _)⟩
    · exact op_eqD (by omega) pins s σ H _ _ v u Q I rx ry ⟨a, b, pa.dp S z1, pb.dp S z2, z1, z2, kval S q rfl (.bl _)⟩
  · cases e
theorem o_ne (hu : X.A.units + 65 < cLine) : OpR X (compareOp .NotEq) (rD2 X.K .ne) := by
  intro pins s σ H x y v u Q I rx ry h
  obtain ⟨F, a, b, d, S, pa, pb, e, q⟩ := h.two
  simp only [Op.eval] at e
  split at e
  · rename_i r z
    cases e
    rcases eqGo_cases z with ⟨x', y', rfl, rfl, rfl⟩ | ⟨z1, z2, rfl⟩
    · cases pa.str
      cases pb.str
      exact op_ne pins s σ H _ _ v u Q I rx ry ⟨rfl, by rw [show decide (V.str x' = V.str y') = decide (x' = y') by simp]; exact kval S q rfl (.bl _)⟩
    · exact op_neD (by omega) pins s σ H _ _ v u Q I rx ry ⟨a, b, pa.dp S z1, pb.dp S z2, z1, z2, kval S q rfl (.bl _)⟩
  · cases e
/-! ### places -/
theorem valV_cons {κ : Type} [DecidableEq κ] {k0 k : κ} {v0 : V} {ks : List (κ × V)} : valV ((k0, v0) :: ks) k = if k0 = k then some v0 else valV ks k := by
  unfold valV
  rw [List.find?_cons]
  by_cases e : k0 = k
  · simp [e]
  · simp [e]
theorem keyEq_kD (a b : Key) : keyEq (kD a) (kD b) = decide (a = b) := by
  cases a <;> cases b <;> simp [kD, keyEq]
theorem getK_cons {k0 k : Key} {d0 : D} {kvs : List (D × D)} : getK ((kD k0, d0) :: kvs) (kD k) = if k0 = k then some d0 else getK kvs (kD k) := by
  unfold getK
  rw [keyEq_kD]
  by_cases e : k0 = k
  · simp [e]
  · simp only [e, decide_false, Bool.false_eq_true, if_false]
    cases kvs <;> rfl
theorem RlKv.any {K : PySem.W.Frag} {F : Hp} {k : Key} : ∀ {ks : List (Key × V)} {kvs : List (D × D)}, RlKv K F ks kvs → (kvs.any fun p => keyEq p.1 (kD k)) = ks.any fun kv => decide (kv.1 = k)
  | _, _, .nil => rfl
  | _, _, .cons q h t => by
    subst q
    rw [List.any_cons, List.any_cons, RlKv.any t, keyEq_kD]
theorem RlKv.map {K : PySem.W.Frag} {F : Hp} {k : Key} {v : V} {d : D} (hv : Rl K F v d) : ∀ {ks : List (Key × V)} {kvs : List (D × D)}, RlKv K F ks kvs →
    RlKv K F (ks.map fun kv => if kv.1 = k then (kv.1, v) else kv) (kvs.map fun p => if keyEq p.1 (kD k) then (p.1, d) else p)
  | _, _, .nil => .nil
  | _, _, .cons (k := k0) q h t => by
    subst q
    rw [List.map_cons, List.map_cons, keyEq_kD]
    by_cases e : k0 = k
    · simp only [e, decide_true, if_true]
      exact .cons rfl hv (RlKv.map hv t)
    · simp only [e, decide_false, if_false, Bool.false_eq_true]
      exact .cons rfl h (RlKv.map hv t)
theorem RlKv.app {K : PySem.W.Frag} {F : Hp} {k : Key} {v : V} {d : D} (hv : Rl K F v d) : ∀ {ks : List (Key × V)} {kvs : List (D × D)}, RlKv K F ks kvs → RlKv K F (ks ++ [(k, v)]) (kvs ++ [(kD k, d)])
  | _, _, .nil => .cons rfl hv .nil
  | _, _, .cons q h t => .cons q h (RlKv.app hv t)
theorem RlKv.put {K : PySem.W.Frag} {F : Hp} {k : Key} {v : V} {d : D} (hv : Rl K F v d) {ks : List (Key × V)} {kvs : List (D × D)} (h : RlKv K F ks kvs) : RlKv K F (L2.putK ks k v) (Tw.putK kvs (kD k) d) := by
  unfold L2.putK Tw.putK
  rw [h.any]
  split
  · exact h.map hv
  · exact h.app hv
theorem valV_get {K : PySem.W.Frag} {F : Hp} : ∀ {ks : List (Key × V)} {kvs : List (D × D)} {k : Key} {d : D}, RlKv K F ks kvs → getK kvs (kD k) = some d → ∃ v, valV ks k = some v ∧ Rl K F v d
  | _, _, k, _, .nil, h => by simp [getK] at h
  | _, _, k, d, .cons (k := k0) (v := v0) q h t, e => by
    subst q
    rw [getK_cons] at e
    rw [valV_cons]
    split at e
    · rename_i z
      cases e
      rw [if_pos z]
      exact ⟨_, rfl, h⟩
    · rename_i z
      rw [if_neg z]
      exact valV_get t e
/-! tuples as keys -/
theorem keyEq1_kD (a b : Key) : keyEq1 (kD a) (kD b) = decide (a = b) := by
  cases a <;> cases b <;> simp [kD, keyEq1]
theorem keyEqs_kD : ∀ a b : List Key, keyEqs (a.map kD) (b.map kD) = decide (a = b)
  | [], [] => rfl
  | [], _ :: _ => by simp [keyEqs]
  | _ :: _, [] => by simp [keyEqs]
  | x :: r, y :: t => by
    rw [List.map_cons, List.map_cons, keyEqs, keyEq1_kD, keyEqs_kD r t]
    by_cases h1 : x = y <;> by_cases h2 : r = t <;> simp [h1, h2]
theorem keyEq_kT (a b : List Key) : keyEq (.tuple (a.map kD)) (.tuple (b.map kD)) = decide (a = b) := by
  show keyEqs _ _ = _
  exact keyEqs_kD a b
theorem getK_consT {k0 k : List Key} {d0 : D} {kvs : List (D × D)} : getK ((.tuple (k0.map kD), d0) :: kvs) (.tuple (k.map kD)) = if k0 = k then some d0 else getK kvs (.tuple (k.map kD)) := by
  rw [getK, keyEq_kT]
  by_cases e : k0 = k
  · simp [e]
  · simp [e]
theorem keyEqs_all : ∀ {a : List Key} {ds : List D}, keyEqs (a.map kD) ds = true → ds.all isKey = true
  | [], [], _ => rfl
  | [], _ :: _, h => by simp [keyEqs] at h
  | _ :: _, [], h => by simp [keyEqs] at h
  | k :: r, d :: t, h => by
    rw [List.map_cons, keyEqs, Bool.and_eq_true] at h
    rw [List.all_cons, Bool.and_eq_true]
    refine ⟨?_, keyEqs_all h.2⟩
    cases k <;> cases d <;> first
      | rfl
      | (simp [kD, keyEq1] at h; done)
theorem RlKvT.any {K : PySem.W.Frag} {F : Hp} {k : List Key} : ∀ {ks : List (List Key × V)} {kvs : List (D × D)}, RlKvT K F ks kvs → (kvs.any fun p => keyEq p.1 (.tuple (k.map kD))) = ks.any fun kv => decide (kv.1 = k)
  | _, _, .nil => rfl
  | _, _, .cons q h t => by
    subst q
    rw [List.any_cons, List.any_cons, RlKvT.any t, keyEq_kT]
theorem RlKvT.map {K : PySem.W.Frag} {F : Hp} {k : List Key} {v : V} {d : D} (hv : Rl K F v d) : ∀ {ks : List (List Key × V)} {kvs : List (D × D)}, RlKvT K F ks kvs →
    RlKvT K F (ks.map fun kv => if kv.1 = k then (kv.1, v) else kv) (kvs.map fun p => if keyEq p.1 (.tuple (k.map kD)) then (p.1, d) else p)
  | _, _, .nil => .nil
  | _, _, .cons (k := k0) q h t => by
    subst q
    rw [List.map_cons, List.map_cons, keyEq_kT]
    by_cases e : k0 = k
    · simp only [e, decide_true, if_true]
      exact .cons rfl hv (RlKvT.map hv t)
    · simp only [e, decide_false, if_false, Bool.false_eq_true]
      exact .cons rfl h (RlKvT.map hv t)
theorem RlKvT.app {K : PySem.W.Frag} {F : Hp} {k : List Key} {v : V} {d : D} (hv : Rl K F v d) : ∀ {ks : List (List Key × V)} {kvs : List (D × D)}, RlKvT K F ks kvs → RlKvT K F (ks ++ [(k, v)]) (kvs ++ [(.tuple (k.map kD), d)])
  | _, _, .nil => .cons rfl hv .nil
  | _, _, .cons q h t => .cons q h (RlKvT.app hv t)
theorem RlKvT.put {K : PySem.W.Frag} {F : Hp} {k : List Key} {v : V} {d : D} (hv : Rl K F v d) {ks : List (List Key × V)} {kvs : List (D × D)} (h : RlKvT K F ks kvs) : RlKvT K F (L2.putK ks k v) (Tw.putK kvs (.tuple (k.map kD)) d) := by
  unfold L2.putK Tw.putK
  rw [h.any]
  split
  · exact h.map hv
  · exact h.app hv
theorem putK_ne {kvs : List (D × D)} {k d : D} : Tw.putK kvs k d ≠ [] := by
  unfold Tw.putK
  split
  · rename_i h
    intro z
    rw [List.map_eq_nil_iff] at z
    subst z
    simp at h
  · simp
theorem valV_getT {K : PySem.W.Frag} {F : Hp} : ∀ {ks : List (List Key × V)} {kvs : List (D × D)} {k : List Key} {d : D}, RlKvT K F ks kvs → getK kvs (.tuple (k.map kD)) = some d → ∃ v, valV ks k = some v ∧ Rl K F v d
  | _, _, k, _, .nil, h => by simp [getK] at h
  | _, _, k, d, .cons (k := k0) (v := v0) q h t, e => by
    subst q
    rw [getK_consT] at e
    rw [valV_cons]
    split at e
    · rename_i z
      cases e
      rw [if_pos z]
      exact ⟨_, rfl, h⟩
    · rename_i z
      rw [if_neg z]
      exact valV_getT t e
theorem valV_some {K : PySem.W.Frag} {F : Hp} : ∀ {ks : List (Key × V)} {kvs : List (D × D)} {k : Key}, RlKv K F ks kvs → (getK kvs (kD k)).isSome = (valV ks k).isSome
  | _, _, _, .nil => by simp [getK, valV]
  | _, _, k, .cons (k := k0) q h t => by
    subst q
    rw [getK_cons, valV_cons]
    split
    · rfl
    · exact valV_some t
theorem valV_someT {K : PySem.W.Frag} {F : Hp} : ∀ {ks : List (List Key × V)} {kvs : List (D × D)} {k : List Key}, RlKvT K F ks kvs → (getK kvs (.tuple (k.map kD))).isSome = (valV ks k).isSome
  | _, _, _, .nil => by simp [getK, valV]
  | _, _, k, .cons (k := k0) q h t => by
    subst q
    rw [getK_consT, valV_cons]
    split
    · rfl
    · exact valV_someT t
theorem getK_offT {K : PySem.W.Frag} {F : Hp} {k : D} (hk : ∀ xs, keyEq (.tuple xs) k = false) : ∀ {ks : List (List Key × V)} {kvs : List (D × D)}, RlKvT K F ks kvs → getK kvs k = none
  | _, _, .nil => rfl
  | _, _, .cons q h t => by
    subst q
    rw [getK, hk]
    simp only [Bool.false_eq_true, if_false]
    exact getK_offT hk t
theorem getK_offK {K : PySem.W.Frag} {F : Hp} {xs : List D} : ∀ {ks : List (Key × V)} {kvs : List (D × D)}, RlKv K F ks kvs → getK kvs (.tuple xs) = none
  | _, _, .nil => rfl
  | _, _, .cons (k := k0) q h t => by
    subst q
    rw [getK, show keyEq (kD k0) (.tuple xs) = false by cases k0 <;> rfl]
    simp only [Bool.false_eq_true, if_false]
    exact getK_offK t
theorem isKey_kD {d : D} (h : isKey d = true) : ∃ k, d = kD k := by
  cases d
  case int i => exact ⟨.inl i, rfl⟩
  case str i => exact ⟨.inr i, rfl⟩
  all_goals cases h
theorem Rl.key {K : PySem.W.Frag} {F : Hp} {v : V} {k : Key} (h : Rl K F v (kD k)) : v = kV k := by
  cases k <;> cases h <;> rfl
theorem PR.key {K : PySem.W.Frag} {F H : Hp} {v : V} {k : Key} (h : PR K F H v (kD k)) : v = kV k := by
  cases k
  · exact h.int
  · exact h.str
theorem RlAll.keys {K : PySem.W.Frag} {F : Hp} : ∀ {xs : List V} {ds : List D}, RlAll K F xs ds → ds.all isKey = true → ∃ ks : List Key, xs = ks.map kV ∧ ds = ks.map kD
  | _, _, .nil, _ => ⟨[], rfl, rfl⟩
  | _, _, .cons h t, e => by
    rw [List.all_cons, Bool.and_eq_true] at e
    obtain ⟨k, rfl⟩ := isKey_kD e.1
    obtain ⟨ks, rfl, rfl⟩ := RlAll.keys t e.2
    cases h.key
    exact ⟨k :: ks, rfl, rfl⟩
theorem PR.keyT {K : PySem.W.Frag} {F H : Hp} {v : V} {d : D} (S : Same F H) (h : PR K F H v d) (e : isKeyT d = true) : ∃ (b : Addr) (ks : List Key), v = .ref b ∧ d = .tuple (ks.map kD) ∧ H b = some (.tup (ks.map kV)) := by
  cases d <;> try (cases e; done)
  obtain ⟨a, xs, rfl, h1, h2⟩ := h.tupF S
  obtain ⟨ks, rfl, rfl⟩ := h2.keys e
  exact ⟨a, ks, rfl, rfl, h1⟩
theorem IsDo.keyI {K : PySem.W.Frag} {F H : Hp} {a : Addr} {kvs : List (D × D)} (h : IsDo K F H a kvs) (e : tupHead kvs = false) : ∃ xs, H a = some (.dK xs) ∧ RlKv K F xs kvs := by
  rcases h with h | ⟨n, xs, h1, h2⟩
  · exact h
  · cases h2 with
    | nil => exact absurd rfl n
    | cons q h t => subst q; cases e
theorem IsDo.keyT {K : PySem.W.Frag} {F H : Hp} {a : Addr} {kvs : List (D × D)} (h : IsDo K F H a kvs) (e : tupHead kvs = true) : ∃ xs, H a = some (.dT xs) ∧ RlKvT K F xs kvs := by
  rcases h with ⟨xs, h1, h2⟩ | ⟨n, h⟩
  · cases h2 with
    | nil => cases e
    | cons q h t => subst q; rename_i k _ _ _ _; cases k <;> cases e
  · exact h
theorem IsDo.no {K : PySem.W.Frag} {F H : Hp} {a : Addr} (h : IsDo K F H a []) : H a = some (.dK []) := by
  rcases h with ⟨xs, h1, h2⟩ | ⟨n, _⟩
  · cases h2; exact h1
  · exact absurd rfl n
theorem IsDc.keyI {K : PySem.W.Frag} {F H : Hp} {a : Addr} {kvs : List (D × D)} (h : IsDc K F H a kvs) (e : tupHead kvs = false) : ∃ xs, Rd H a (.dK xs) ∧ RlKv K F xs kvs := by
  rcases h with h | ⟨n, xs, h1, h2⟩
  · exact h
  · cases h2 with
    | nil => exact absurd rfl n
    | cons q h t => subst q; cases e
theorem IsDc.keyT {K : PySem.W.Frag} {F H : Hp} {a : Addr} {kvs : List (D × D)} (h : IsDc K F H a kvs) (e : tupHead kvs = true) : ∃ xs, H a = some (.dT xs) ∧ RlKvT K F xs kvs := by
  rcases h with ⟨xs, h1, h2⟩ | ⟨n, h⟩
  · cases h2 with
    | nil => cases e
    | cons q h t => subst q; rename_i k _ _ _ _; cases k <;> cases e
  · exact h
theorem IsDc.no {K : PySem.W.Frag} {F H : Hp} {a : Addr} (h : IsDc K F H a []) : Rd H a (.dK []) := by
  rcases h with ⟨xs, h1, h2⟩ | ⟨n, _⟩
  · cases h2; exact h1
  · exact absurd rfl n
theorem okKey_cases {kvs : List (D × D)} {k : D} (h : okKey kvs k = true) : (isKey k = true ∧ tupHead kvs = false) ∨ (isKeyT k = true ∧ (kvs = [] ∨ tupHead kvs = true)) := by
  unfold okKey at h
  simp only [Bool.or_eq_true, Bool.and_eq_true, Bool.not_eq_true', List.isEmpty_iff] at h
  exact h
/-- whether a dict has a key -/
theorem in_dict (hu : X.A.units + 65 < cLine) {pins : List (Addr × Obj)} {σ : Sl} {F H : Hp} {s : Shared} {x y : V} {v u : Value} {Q : Value → Shared → Prop} {a : D} {kvs : List (D × D)} (I : L2.Inv X pins σ H s) (S : Same F H) (rx : RelV x v) (ry : RelV y u)
    (pa : PR X.K F H x a) (pb : PR X.K F H y (.dict kvs)) (e : okKey kvs a = true) (q : ∀ s', L2.Inv X pins σ H s' → Q (.bool (getK kvs a).isSome) s') : wpAny (model X.prog X.w) X.A (compareOp .In v u) Q X.xe s := by
  obtain ⟨p, rfl, dc⟩ := pb.dic S
  cases (show u = Value.ref p from ry)
  rcases okKey_cases e with ⟨h1, h2⟩ | ⟨h1, h2⟩
  · obtain ⟨k, rfl⟩ := isKey_kD h1
    obtain ⟨xs, h3, h4⟩ := dc.keyI h2
    cases pa.key
    refine d_in (by omega) I (.inl ⟨_, _, h3, rfl, rfl⟩) rx fun s' I' => ?_
    rw [← valV_some h4]
    exact q s' I'
  · obtain ⟨b, ks, rfl, rfl, hb⟩ := pa.keyT S h1
    cases (show v = Value.ref b from rx)
    rcases h2 with rfl | h2
    · exact in_none (by omega) I dc.no hb q
    · obtain ⟨xs, h3, h4⟩ := dc.keyT h2
      refine d_in (by omega) I (DGet.t h3 hb) (show RelV (.ref b) (.ref b) from rfl) fun s' I' => ?_
      rw [← valV_someT h4]
      exact q s' I'
theorem notIn_dict (hu : X.A.units + 65 < cLine) {pins : List (Addr × Obj)} {σ : Sl} {F H : Hp} {s : Shared} {x y : V} {v u : Value} {Q : Value → Shared → Prop} {a : D} {kvs : List (D × D)} (I : L2.Inv X pins σ H s) (S : Same F H) (rx : RelV x v) (ry : RelV y u)
    (pa : PR X.K F H x a) (pb : PR X.K F H y (.dict kvs)) (e : okKey kvs a = true) (q : ∀ s', L2.Inv X pins σ H s' → Q (.bool (!(getK kvs a).isSome)) s') : wpAny (model X.prog X.w) X.A (compareOp .NotIn v u) Q X.xe s := by
  obtain ⟨p, rfl, dc⟩ := pb.dic S
  cases (show u = Value.ref p from ry)
  rcases okKey_cases e with ⟨h1, h2⟩ | ⟨h1, h2⟩
  · obtain ⟨k, rfl⟩ := isKey_kD h1
    obtain ⟨xs, h3, h4⟩ := dc.keyI h2
    cases pa.key
    refine d_notIn (by omega) I (.inl ⟨_, _, h3, rfl, rfl⟩) rx fun s' I' => ?_
    rw [← valV_some h4]
    exact q s' I'
  · obtain ⟨b, ks, rfl, rfl, hb⟩ := pa.keyT S h1
    cases (show v = Value.ref b from rx)
    rcases h2 with rfl | h2
    · exact notIn_none (by omega) I dc.no hb q
    · obtain ⟨xs, h3, h4⟩ := dc.keyT h2
      refine d_notIn (by omega) I (DGet.t h3 hb) (show RelV (.ref b) (.ref b) from rfl) fun s' I' => ?_
      rw [← valV_someT h4]
      exact q s' I'
theorem o_in (hu : X.A.units + 65 < cLine) : OpR X (compareOp .In) (rD2 X.K .isin) := by
  intro pins s σ H x y v u Q I rx ry h
  obtain ⟨F, a, b, d, S, pa, pb, e, q⟩ := h.two
  cases b <;> try (simp [Op.eval] at e; done)
  case list ds =>
    simp only [Op.eval] at e
    split at e
    · rename_i z
      simp only [Bool.and_eq_true] at z
      cases e
      exact op_inD hu pins s σ H _ _ v u Q I rx ry ⟨a, ds, pa.dp S z.1, pb.dp S z.2, z.1, z.2, kval S q rfl (.bl _)⟩
    · cases e
  case tuple ds =>
    simp only [Op.eval] at e
    split at e
    · rename_i z
      simp only [Bool.and_eq_true] at z
      cases e
      obtain ⟨as, r1⟩ := Dp.reads I a x v (pa.dp S z.1) rx
      obtain ⟨bs, r2⟩ := Dp.reads I (.tuple ds) y u (pb.dp S z.2) ry
      exact SeqAt.in_tuple_reads r2 r1 (SeqAt.canLay_of_shaped z.2) (SeqAt.canLay_of_shaped z.1) (room_in_shaped z.1 hu) ⟨.bl _, H, I, rfl, kval S q rfl (.bl _)⟩
    · cases e
  case dict kvs =>
    simp only [Op.eval] at e
    split at e
    · rename_i z
      cases e
      exact in_dict hu I S rx ry pa pb z fun s' I' => ⟨.bl _, H, I', rfl, kval S q rfl (.bl _)⟩
    · cases e
theorem o_notin (hu : X.A.units + 65 < cLine) : OpR X (compareOp .NotIn) (rD2 X.K .notin) := by
  intro pins s σ H x y v u Q I rx ry h
  obtain ⟨F, a, b, d, S, pa, pb, e, q⟩ := h.two
  cases b <;> try (simp [Op.eval] at e; done)
  case list ds =>
    simp only [Op.eval] at e
    split at e
    · rename_i z
      simp only [Bool.and_eq_true] at z
      cases e
      exact op_notInD hu pins s σ H _ _ v u Q I rx ry ⟨a, ds, pa.dp S z.1, pb.dp S z.2, z.1, z.2, kval S q rfl (.bl _)⟩
    · cases e
  case tuple ds =>
    simp only [Op.eval] at e
    split at e
    · rename_i z
      simp only [Bool.and_eq_true] at z
      cases e
      obtain ⟨as, r1⟩ := Dp.reads I a x v (pa.dp S z.1) rx
      obtain ⟨bs, r2⟩ := Dp.reads I (.tuple ds) y u (pb.dp S z.2) ry
      exact SeqAt.notIn_tuple_reads r2 r1 (SeqAt.canLay_of_shaped z.2) (SeqAt.canLay_of_shaped z.1) (room_in_shaped z.1 hu) ⟨.bl _, H, I, rfl, kval S q rfl (.bl _)⟩
    · cases e
  case dict kvs =>
    simp only [Op.eval] at e
    split at e
    · rename_i z
      cases e
      exact notIn_dict hu I S rx ry pa pb z fun s' I' => ⟨.bl _, H, I', rfl, kval S q rfl (.bl _)⟩
    · cases e
theorem ix_dict (hu : X.A.units + 1 < cLine) : IxR X (fun x y H Q => ∃ a v, x = .ref a ∧ DGet H a y (some v) ∧ Q v H) := by
  intro value slice pins s σ H x y v u Q I rx ry h hs
  obtain ⟨a, z, rfl, g, q⟩ := h
  cases rx
  exact tail_any (dict_typeIs I g) PySem.F.slot_dict_getitem.lookup (d_getItem hu I g ry fun w' s3 I3 rw' => ⟨z, H, I3, rw', q⟩) hs
theorem atI_rel {K : PySem.W.Frag} {F : Hp} {xs : List V} {ds : List D} {i : Int} {d : D} (r : RlAll K F xs ds) (h : atI ds i = some d) : ∃ v, atI xs i = some v ∧ Rl K F v d := by
  unfold atI at h ⊢
  rw [r.length]
  cases e : ixN ds.length i with
  | none => rw [e] at h; cases h
  | some j =>
    rw [e] at h
    exact r.get h
theorem o_idx (hu : X.A.units + 65 < cLine) : IxR X (rD2 X.K .idx) := by
  intro value slice pins s σ H x y v u Q I rx ry h hs
  obtain ⟨F, a, b, d, S, pa, pb, e, q⟩ := h.two
  cases a <;> try (simp [Op.eval] at e; done)
  case list ds =>
    cases b <;> try (simp [Op.eval] at e; done)
    case int i =>
      simp only [Op.eval] at e
      cases pb.int
      obtain ⟨p, xs, rfl, hx, rx'⟩ := pa.lst S
      obtain ⟨w, h1, h2⟩ := atI_rel rx' e
      exact ix_list value slice pins s σ H _ _ v u Q I rx ry ⟨p, xs, i, w, rfl, rfl, hx, h1, kval S q rfl h2⟩ hs
  case tuple ds =>
    cases b <;> try (simp [Op.eval] at e; done)
    case int i =>
      simp only [Op.eval] at e
      cases pb.int
      obtain ⟨p, xs, rfl, hx, rx'⟩ := pa.tup S
      obtain ⟨w, h1, h2⟩ := atI_rel rx' e
      exact ix_tup value slice pins s σ H _ _ v u Q I rx ry ⟨p, xs, i, w, rfl, rfl, hx, h1, kval S q rfl h2⟩ hs
  case dict kvs =>
    obtain ⟨p, rfl, dc⟩ := pa.dic S
    cases b <;> try (simp [Op.eval] at e; done)
    case int i =>
      cases pb.int
      rcases dc with ⟨ks, hx, rk⟩ | ⟨_, ks, hx, rk⟩
      · obtain ⟨w, h1, h2⟩ := valV_get (k := .inl i) rk e
        exact ix_dict (by omega) value slice pins s σ H _ _ v u Q I rx ry ⟨p, w, rfl, by rw [← h1]; exact .inl ⟨_, .inl i, hx, rfl, rfl⟩, kval S q rfl h2⟩ hs
      · have e : getK kvs (.int i) = some d := e
        rw [getK_offT (k := .int i) (fun _ => rfl) rk] at e
        cases e
    case str i =>
      cases pb.str
      rcases dc with ⟨ks, hx, rk⟩ | ⟨_, ks, hx, rk⟩
      · obtain ⟨w, h1, h2⟩ := valV_get (k := .inr i) rk e
        exact ix_dict (by omega) value slice pins s σ H _ _ v u Q I rx ry ⟨p, w, rfl, by rw [← h1]; exact .inl ⟨_, .inr i, hx, rfl, rfl⟩, kval S q rfl h2⟩ hs
      · have e : getK kvs (.str i) = some d := e
        rw [getK_offT (k := .str i) (fun _ => rfl) rk] at e
        cases e
    case tuple ds =>
      have e : getK kvs (.tuple ds) = some d := e
      rcases dc with ⟨ks, hx, rk⟩ | ⟨_, ks, hx, rk⟩
      · rw [getK_offK rk] at e
        cases e
      · have ka : isKeyT (.tuple ds) = true := by
          have z : ∀ {l : List (List Key × V)} {m : List (D × D)}, RlKvT X.K F l m → getK m (.tuple ds) = some d → ds.all isKey = true := by
            intro l m r
            induction l generalizing m with
            | nil => cases r; intro z; simp [getK] at z
            | cons p l ih =>
              cases r with
              | cons q' h t =>
                subst q'
                intro z
                rw [getK] at z
                split at z
                · rename_i w
                  exact keyEqs_all w
                · exact ih t z
          exact z rk e
        obtain ⟨b, k, rfl, e2, hb⟩ := pb.keyT S ka
        rw [e2] at e
        obtain ⟨w, h1, h2⟩ := valV_getT rk e
        exact ix_dict (by omega) value slice pins s σ H _ _ v u Q I rx ry ⟨p, w, rfl, by rw [← h1]; exact DGet.t hx hb, kval S q rfl h2⟩ hs
/-! ### slices -/
def rSlD (K : PySem.W.Frag) : V → Option Int → Option Int → Hp → VK → Prop := fun x lo hi H Q => ∃ (F : Hp) (a d : D), Same F H ∧ PR K F H x a ∧ sliceD a lo hi = some d ∧
  ∀ (v : V) (F' H' : Hp), Gro F H F' H' → EvR K F' H' H [] v (if isList d then .own d else .sh d) → Q v H'
theorem o_slice : SlR X (rSlD X.K) := by
  intro pins s σ H x v vl vu lo hi sl Q I rx hs pl pu h
  obtain ⟨F, a, d, S, pa, e, q⟩ := h
  cases a <;> try (cases e; done)
  case list ds =>
    cases e
    obtain ⟨p, xs, rfl, hx, rx'⟩ := pa.lst S
    refine sl_list pins s σ H _ v vl vu lo hi sl Q I rx hs pl pu ⟨p, xs, rfl, hx, fun p' hp => ?_⟩
    obtain ⟨g, fp⟩ := Gro.own (o := .lst (cutV xs lo hi)) S hp
    exact q _ F _ g ⟨.lst upd_same fp (rx'.cut lo hi), fun a e => by cases e; exact hp⟩
  case tuple ds =>
    cases e
    have pa0 := pa
    obtain ⟨p, xs, rfl, hx, rx'⟩ := pa.tup S
    refine sl_tupA pins s σ H _ v vl vu lo hi sl Q I rx hs pl pu ⟨p, xs, rfl, hx, fun z => ?_, fun _ p' hp => ?_⟩
    · refine q _ F H (.refl S) ?_
      have : cut ds lo hi = ds := by
        unfold cut
        rw [rx'.length] at z
        rw [z.1, z.2]
        simp
      rw [this]
      rcases pa0 with z | z
      · exact z
      · cases z
    · have g := Gro.sh (o := .tup (cutV xs lo hi)) S hp
      exact q _ _ _ g (Rl.tup upd_same ((rx'.cut lo hi).up g.ff))
/-! ### calls of built-ins -/
theorem o_len : CallR X (.builtin "len") (rDn X.K .len) := by
  intro pins s σ H xs us Q I r h
  obtain ⟨F, ds, d, S, p, e, q⟩ := h
  cases p with
  | nil => simp [Op.eval] at e
  | @cons v vs a ds pa t =>
    cases t with
    | cons => cases a <;> simp [Op.eval] at e
    | nil =>
      cases a <;> try (simp [Op.eval] at e; done)
      case list ds =>
        cases e
        obtain ⟨p, xs, rfl, hx, rx'⟩ := pa.lst S
        exact call_len_seq pins s σ H _ us Q I r ⟨p, xs, rfl, .inl hx, by rw [rx'.length]; exact kval S q rfl (.int _)⟩
      case tuple ds =>
        cases e
        obtain ⟨p, xs, rfl, hx, rx'⟩ := pa.tup S
        exact call_len_seq pins s σ H _ us Q I r ⟨p, xs, rfl, .inr hx, by rw [rx'.length]; exact kval S q rfl (.int _)⟩
theorem o_abs : CallR X (.builtin "abs") (rDn X.K .abs) := by
  intro pins s σ H xs us Q I r h
  obtain ⟨F, ds, d, S, p, e, q⟩ := h
  cases p with
  | nil => simp [Op.eval] at e
  | @cons v vs a ds pa t =>
    cases t with
    | cons => cases a <;> simp [Op.eval] at e
    | nil =>
      cases a <;> try (simp [Op.eval] at e; done)
      case int i =>
        cases e; cases pa.int
        exact call_abs pins s σ H _ us Q I r ⟨i, rfl, kval S q rfl (.int _)⟩
theorem o_int : CallR X (.type "int") (rDn X.K .int) := by
  intro pins s σ H xs us Q I r h
  obtain ⟨F, ds, d, S, p, e, q⟩ := h
  cases p with
  | nil => simp [Op.eval] at e
  | @cons v vs a ds pa t =>
    cases t with
    | cons => cases a <;> simp [Op.eval] at e
    | nil =>
      cases a <;> try (simp [Op.eval] at e; done)
      case int i =>
        cases e; cases pa.int
        exact call_int1 pins s σ H _ us Q I r (.inl ⟨i, rfl, kval S q rfl (.int _)⟩)
      case bool i =>
        cases e; cases pa.bl
        exact call_int1 pins s σ H _ us Q I r (.inr ⟨i, rfl, kval S q rfl (.int _)⟩)
theorem o_str : CallR X (.type "str") (rDn X.K .str) := by
  intro pins s σ H xs us Q I r h
  obtain ⟨F, ds, d, S, p, e, q⟩ := h
  cases p with
  | nil => simp [Op.eval] at e
  | @cons v vs a ds pa t =>
    cases t with
    | cons => cases a <;> simp [Op.eval] at e
    | nil =>
      cases a <;> try (simp [Op.eval] at e; done)
      case int i =>
        simp only [Op.eval] at e
        split at e
        · rename_i z
          unfold showOk at z
          cases e; cases pa.int
          exact call_str_int pins s σ H _ us Q I r ⟨i, rfl, of_decide_eq_true z, kval S q rfl (.str _)⟩
        · cases e
theorem o_max2 (hc : X.calm = true) : CallR X (.builtin "max") (rDn X.K .max2) := by
  intro pins s σ H xs us Q I r h
  obtain ⟨F, ds, d, S, p, e, q⟩ := h
  cases p with
  | nil => simp [Op.eval] at e
  | @cons v vs a ds pa t =>
    cases t with
    | nil => cases a <;> simp [Op.eval] at e
    | @cons v2 vs b ds pb t =>
      cases t with
      | cons => cases a <;> cases b <;> simp [Op.eval] at e
      | nil =>
        cases a <;> cases b <;> try (simp [Op.eval] at e; done)
        cases e; cases pa.int; cases pb.int
        exact call_max2 hc pins s σ H _ us Q I r ⟨_, _, rfl, kval S q rfl (.int _)⟩
theorem o_min2 (hc : X.calm = true) : CallR X (.builtin "min") (rDn X.K .min2) := by
  intro pins s σ H xs us Q I r h
  obtain ⟨F, ds, d, S, p, e, q⟩ := h
  cases p with
  | nil => simp [Op.eval] at e
  | @cons v vs a ds pa t =>
    cases t with
    | nil => cases a <;> simp [Op.eval] at e
    | @cons v2 vs b ds pb t =>
      cases t with
      | cons => cases a <;> cases b <;> simp [Op.eval] at e
      | nil =>
        cases a <;> cases b <;> try (simp [Op.eval] at e; done)
        cases e; cases pa.int; cases pb.int
        exact call_min2 hc pins s σ H _ us Q I r ⟨_, _, rfl, kval S q rfl (.int _)⟩
theorem o_tuple : CallR X (.type "tuple") (rDn X.K .tuple) := by
  intro pins s σ H xs us Q I r h
  obtain ⟨F, ds, d, S, p, e, q⟩ := h
  cases p with
  | nil => simp [Op.eval] at e
  | @cons v vs a ds pa t =>
    cases t with
    | cons => cases a <;> simp [Op.eval] at e
    | nil =>
      cases a <;> try (simp [Op.eval] at e; done)
      case list ds =>
        cases e
        obtain ⟨p, xs, rfl, hx, rx'⟩ := pa.lst S
        exact call_tuple_of pins s σ H _ us Q I r ⟨p, xs, rfl, .inl ⟨hx, ktup S q rfl rx'⟩⟩
      case tuple ds =>
        cases e
        have pa0 := pa
        obtain ⟨p, xs, rfl, hx, rx'⟩ := pa.tup S
        refine call_tuple_of pins s σ H _ us Q I r ⟨p, xs, rfl, .inr ⟨hx, kval S q rfl ?_⟩⟩
        rcases pa0 with z | z
        · exact z
        · cases z
theorem o_list : CallR X (.type "list") (rDn X.K .list) := by
  intro pins s σ H xs us Q I r h
  obtain ⟨F, ds, d, S, p, e, q⟩ := h
  cases p with
  | nil => simp [Op.eval] at e
  | @cons v vs a ds pa t =>
    cases t with
    | cons => cases a <;> simp [Op.eval] at e
    | nil =>
      cases a <;> try (simp [Op.eval] at e; done)
      case list ds =>
        cases e
        obtain ⟨p, xs, rfl, hx, rx'⟩ := pa.lst S
        exact call_list_of pins s σ H _ us Q I r ⟨p, xs, rfl, .inl hx, kown S q rfl rx'⟩
      case tuple ds =>
        cases e
        obtain ⟨p, xs, rfl, hx, rx'⟩ := pa.tup S
        exact call_list_of pins s σ H _ us Q I r ⟨p, xs, rfl, .inr hx, kown S q rfl rx'⟩
theorem o_all (hc : X.calm = true) : CallR X (.builtin "all") (rDn X.K .all) := by
  intro pins s σ H xs us Q I r h
  obtain ⟨F, ds, d, S, p, e, q⟩ := h
  cases p with
  | nil => simp [Op.eval] at e
  | @cons v vs a ds pa t =>
    cases t with
    | cons => cases a <;> simp [Op.eval] at e
    | nil =>
      cases a <;> try (simp [Op.eval] at e; done)
      case list ds =>
        simp only [Op.eval] at e
        split at e
        · rename_i bs z
          cases e
          obtain ⟨p, xs, rfl, hx, rx'⟩ := pa.lst S
          exact cr_all hc pins s σ H _ us Q I r ⟨p, bs, rfl, by rw [← rx'.bools z]; exact hx, kval S q rfl (.bl _)⟩
        · cases e
theorem o_any (hc : X.calm = true) : CallR X (.builtin "any") (rDn X.K .any) := by
  intro pins s σ H xs us Q I r h
  obtain ⟨F, ds, d, S, p, e, q⟩ := h
  cases p with
  | nil => simp [Op.eval] at e
  | @cons v vs a ds pa t =>
    cases t with
    | cons => cases a <;> simp [Op.eval] at e
    | nil =>
      cases a <;> try (simp [Op.eval] at e; done)
      case list ds =>
        simp only [Op.eval] at e
        split at e
        · rename_i bs z
          cases e
          obtain ⟨p, xs, rfl, hx, rx'⟩ := pa.lst S
          exact cr_any hc pins s σ H _ us Q I r ⟨p, bs, rfl, by rw [← rx'.bools z]; exact hx, kval S q rfl (.bl _)⟩
        · cases e
theorem maxOf_spec : ∀ (is : List Int) (m : Int), maxOf m is ∈ m :: is ∧ ∀ y ∈ m :: is, y ≤ maxOf m is
  | [], m => by simp [maxOf]
  | x :: r, m => by
    unfold maxOf
    obtain ⟨h1, h2⟩ := maxOf_spec r (if x > m then x else m)
    have h3 := h2 _ (List.mem_cons_self ..)
    refine ⟨?_, fun y hy => ?_⟩
    · rcases List.mem_cons.mp h1 with e | e
      · rw [e]; split <;> simp
      · simp [e]
    · rcases List.mem_cons.mp hy with e | e
      · subst e; split at h3 <;> split <;> omega
      · rcases List.mem_cons.mp e with e | e
        · subst e; split at h3 <;> split <;> omega
        · exact h2 y (List.mem_cons_of_mem _ e)
theorem minOf_spec : ∀ (is : List Int) (m : Int), minOf m is ∈ m :: is ∧ ∀ y ∈ m :: is, minOf m is ≤ y
  | [], m => by simp [minOf]
  | x :: r, m => by
    unfold minOf
    obtain ⟨h1, h2⟩ := minOf_spec r (if x < m then x else m)
    have h3 := h2 _ (List.mem_cons_self ..)
    refine ⟨?_, fun y hy => ?_⟩
    · rcases List.mem_cons.mp h1 with e | e
      · rw [e]; split <;> simp
      · simp [e]
    · rcases List.mem_cons.mp hy with e | e
      · subst e; split at h3 <;> split <;> omega
      · rcases List.mem_cons.mp e with e | e
        · subst e; split at h3 <;> split <;> omega
        · exact h2 y (List.mem_cons_of_mem _ e)
section
variable {prog : Program} {w : World} {A : Around} {E : Value → Shared → Prop} {s : Shared}
theorem max_tup {t : Addr} {its : List Value} {ns : List Int} {Q : Value → Shared → Prop} (hh : A.handled = none) (ht : IsTup s.heap t its.toArray) (hi : IntsAre its ns) (hne : 0 < ns.length)
    (h : ∀ h' tk M t', (∀ b o, s.heap.get? b = some o → h'.get? b = some o) → M ∈ ns → (∀ a, a ∈ ns → a ≤ M) → Q (.int M t') { s with heap := h', toks := tk }) : wpAny (model prog w) A (call (.builtin "max") [.ref t]) Q E s := by
  obtain ⟨xs, e⟩ := hi.allInts.items
  have hn : numsOf (intItems xs).toList = ns := by
    rw [← e]
    exact hi.numsOf
  rw [nums_intItems] at hn
  rw [e] at ht
  have htu : s.heap.IsTuple t (intItems xs) := ht
  refine call_max_walk (wpAny_pyIter_tuple htu ?_)
  have hlt : t < s.heap.objs.size := by
    obtain ⟨_, q, _⟩ := ht
    exact Heap.lt_size q
  have hne2 : t ≠ s.heap.objs.size := Nat.ne_of_lt hlt
  have hsz : 0 < xs.size := by
    rw [← hn] at hne
    simpa using hne
  refine ⟨_, [_, t], [_], _, _, _, _, rfl, Walks.tuple (A := A.in1) hh _ t hne2 (intItems xs), ⟨⟨_, Heap.get?_push_size _ rfl, rfl, rfl⟩, htu.push _⟩, fun c hc => ?_, by simpa [intItems] using hsz, CmpOf.ints_gt (numAt xs) (fun _ _ => intItems_at), fun v h' tk hP hk => ?_⟩
  · show c < (s.heap.push _).objs.size
    rw [Heap.size_push]
    rcases List.mem_cons.mp hc with z | hc
    · rw [z]; exact Nat.lt_succ_self _
    · rcases List.mem_cons.mp hc with z | hc
      · rw [z]; exact Nat.lt_succ_of_lt hlt
      · cases hc
  · have hold : ∀ c o, s.heap.get? c = some o → h'.get? c = some o := fun c o q => by
      refine hk c o (fun hm => ?_) (Heap.get?_push_of_some _ q)
      rcases List.mem_cons.mp hm with z | hm
      · have := Heap.lt_size q
        rw [z] at this
        exact Nat.lt_irrefl _ this
      · cases hm
    obtain ⟨t', rfl⟩ := intItems_at (by simpa [intItems] using hP)
    obtain ⟨h1, h2⟩ := argBest_gt (numAt xs) (xs.size - 1)
    subst hn
    refine h h' tk _ t' hold ?_ fun a ha => ?_
    · rw [numAt_eq]; exact PySem.getD_mem (by rw [List.length_map, Array.length_toList]; exact Nat.lt_of_le_of_lt h1 (by omega))
    · obtain ⟨j, hj, rfl⟩ := mem_getD ha
      rw [List.length_map, Array.length_toList] at hj
      rw [← numAt_eq]; exact h2 j (by omega)
theorem min_tup {t : Addr} {its : List Value} {ns : List Int} {Q : Value → Shared → Prop} (hh : A.handled = none) (ht : IsTup s.heap t its.toArray) (hi : IntsAre its ns) (hne : 0 < ns.length)
    (h : ∀ h' tk M t', (∀ b o, s.heap.get? b = some o → h'.get? b = some o) → M ∈ ns → (∀ a, a ∈ ns → M ≤ a) → Q (.int M t') { s with heap := h', toks := tk }) : wpAny (model prog w) A (call (.builtin "min") [.ref t]) Q E s := by
  obtain ⟨xs, e⟩ := hi.allInts.items
  have hn : numsOf (intItems xs).toList = ns := by
    rw [← e]
    exact hi.numsOf
  rw [nums_intItems] at hn
  rw [e] at ht
  have htu : s.heap.IsTuple t (intItems xs) := ht
  refine call_min_walk (wpAny_pyIter_tuple htu ?_)
  have hlt : t < s.heap.objs.size := by
    obtain ⟨_, q, _⟩ := ht
    exact Heap.lt_size q
  have hne2 : t ≠ s.heap.objs.size := Nat.ne_of_lt hlt
  have hsz : 0 < xs.size := by
    rw [← hn] at hne
    simpa using hne
  refine ⟨_, [_, t], [_], _, _, _, _, rfl, Walks.tuple (A := A.in1) hh _ t hne2 (intItems xs), ⟨⟨_, Heap.get?_push_size _ rfl, rfl, rfl⟩, htu.push _⟩, fun c hc => ?_, by simpa [intItems] using hsz, CmpOf.ints_lt (numAt xs) (fun _ _ => intItems_at), fun v h' tk hP hk => ?_⟩
  · show c < (s.heap.push _).objs.size
    rw [Heap.size_push]
    rcases List.mem_cons.mp hc with z | hc
    · rw [z]; exact Nat.lt_succ_self _
    · rcases List.mem_cons.mp hc with z | hc
      · rw [z]; exact Nat.lt_succ_of_lt hlt
      · cases hc
  · have hold : ∀ c o, s.heap.get? c = some o → h'.get? c = some o := fun c o q => by
      refine hk c o (fun hm => ?_) (Heap.get?_push_of_some _ q)
      rcases List.mem_cons.mp hm with z | hm
      · have := Heap.lt_size q
        rw [z] at this
        exact Nat.lt_irrefl _ this
      · cases hm
    obtain ⟨t', rfl⟩ := intItems_at (by simpa [intItems] using hP)
    obtain ⟨h1, h2⟩ := argBest_lt (numAt xs) (xs.size - 1)
    subst hn
    refine h h' tk _ t' hold ?_ fun a ha => ?_
    · rw [numAt_eq]; exact PySem.getD_mem (by rw [List.length_map, Array.length_toList]; exact Nat.lt_of_le_of_lt h1 (by omega))
    · obtain ⟨j, hj, rfl⟩ := mem_getD ha
      rw [List.length_map, Array.length_toList] at hj
      rw [← numAt_eq]; exact h2 j (by omega)
end
theorem o_maxL (hc : X.calm = true) : CallR X (.builtin "max") (rDn X.K .maxL) := by
  intro pins s σ H xs us Q I r h
  obtain ⟨F, ds, d, S, p, e, q⟩ := h
  cases p with
  | nil => simp [Op.eval] at e
  | @cons v vs a ds pa t =>
    cases t with
    | cons => cases a <;> simp [Op.eval] at e
    | nil =>
      cases a <;> try (simp [Op.eval] at e; done)
      case list ds =>
        simp only [Op.eval] at e
        split at e
        · rename_i m is z
          cases e
          obtain ⟨p, xs, rfl, hx, rx'⟩ := pa.lst S
          refine cr_max hc pins s σ H _ us Q I r ⟨p, m :: is, rfl, by rw [← rx'.ints z]; exact hx, by simp, fun k hk hle => ?_⟩
          obtain ⟨h1, h2⟩ := maxOf_spec is m
          have : k = maxOf m is := Int.le_antisymm (h2 k hk) (hle _ h1)
          rw [this]
          exact kval S q rfl (.int _)
        · cases e
      case tuple ds =>
        simp only [Op.eval] at e
        split at e
        · rename_i m is z
          cases e
          obtain ⟨p, xs, rfl, hx, rx'⟩ := pa.tup S
          rw [rx'.ints z] at hx
          obtain ⟨its, rv, ht, _⟩ := I.tuple hx
          rw [Vals.ref1 r]
          refine max_tup (I.ok.hd hc) ht rv.ints (by simp) fun h' tk k t' hk h1' h2' => ⟨.int _, H, I.kept hk, ⟨_, rfl⟩, ?_⟩
          obtain ⟨h1, h2⟩ := maxOf_spec is m
          have : k = maxOf m is := Int.le_antisymm (h2 k h1') (h2' _ h1)
          rw [this]
          exact kval S q rfl (.int _)
        · cases e
theorem call_minTup (hc : X.calm = true) (hu : X.A.units + 65 < cLine) {pins : List (Addr × Obj)} {σ : Sl} {F H : Hp} {s : Shared} {us : List Value} {Q : VK} {p : Addr} {xs : List V} {ds : List D} {d : D} (I : L2.Inv X pins σ H s) (r : Vals [V.ref p] us) (S : Same F H)
    (hx : SqL X.K H p xs) (rx : RlAll X.K F xs ds) (e : minTup ds = some d) (q : ∀ v, Rl X.K F v d → Q v H) : wpAny (model X.prog X.w) X.A (PySem.call (.builtin "min") us) (EP X pins σ Q) X.xe s := by
  cases ds with
  | nil => simp [minTup] at e
  | cons m t =>
    simp only [minTup] at e
    split at e
    · rename_i hall
      cases e
      rw [List.all_eq_true] at hall
      obtain ⟨its, rv, hl, _⟩ := I.list hx
      rw [Vals.ref1 r]
      have lx : xs.length = (m :: t).length := rx.length
      have li : its.length = xs.length := (Vals.length rv).symm
      have get : ∀ {i : Nat} {y : Value}, its.toArray[i]? = some y → ∃ d v, (m :: t)[i]? = some d ∧ xs[i]? = some v ∧ RelV v y ∧ Rl X.K F v d ∧ SeqAt.shaped d = true ∧ sameSh d m = true := by
        intro i y hy
        have hy : its[i]? = some y := by simpa using hy
        have hi := (List.getElem?_eq_some_iff.mp hy).1
        have hd : (m :: t)[i]? = some (m :: t)[i] := List.getElem?_eq_getElem (by omega)
        obtain ⟨v, h1, h2⟩ := rx.get hd
        obtain ⟨u, h3, h4⟩ := paired_get rv h1
        rw [hy] at h3
        cases h3
        have := hall _ (List.mem_of_getElem? hd)
        simp only [Bool.and_eq_true] at this
        exact ⟨_, v, hd, h1, h4, h2, this.1, this.2⟩
      have hun : X.A.in1.units + 64 < cLine := by show X.A.units + 1 + 64 < cLine; omega
      refine minCall (bt := fun i j => ltD ((m :: t).getD i .none) ((m :: t).getD j .none)) (I.ok.hd hc) hl.isList (by rw [List.size_toArray, li, lx, List.length_cons]; omega) ?_ ?_
      · intro i j x y s2 Q2 E2 hk hi hj hq
        obtain ⟨d1, v1, a1, a2, a3, a4, a5, a6⟩ := get hi
        obtain ⟨d2, v2, b1, b2, b3, b4, b5, b6⟩ := get hj
        obtain ⟨as1, r1⟩ := L2.Dp.reads I d1 v1 x ((PR.dp S a5 (.inl a4))) a3
        obtain ⟨as2, r2⟩ := L2.Dp.reads I d2 v2 y ((PR.dp S b5 (.inl b4))) b3
        have hq : Q2 (Value.bool (ltD d1 d2)) s2 := by
          have e1 : (m :: t).getD i .none = d1 := by rw [List.getD_eq_getElem?_getD, a1]; rfl
          have e2 : (m :: t).getD j .none = d2 := by rw [List.getD_eq_getElem?_getD, b1]; rfl
          rw [← e1, ← e2]
          exact hq
        have sh1 : d1.canLay0 = true ∧ d1.depth ≤ 64 := by simpa [SeqAt.shaped] using a5
        have sh2 : d2.canLay0 = true ∧ d2.depth ≤ 64 := by simpa [SeqAt.shaped] using b5
        exact ltAt 64 d1 d2 X.A.in1 s2 x y as1 as2 sh1.2 (reads_keep hk d1 r1) (reads_keep hk d2 r2) (sameSh_tr d1 d2 m a6 b6) sh1.1 sh2.1 hun X.prog X.w E2 Q2 hq
      · intro v h' tk hv hk
        obtain ⟨d1, v1, a1, a2, a3, a4, a5, a6⟩ := get hv
        have hb := argBest_min (m := m) (r := t) (bt := fun i j => ltD ((m :: t).getD i .none) ((m :: t).getD j .none)) (fun i j x y e1 e2 => by rw [List.getD_eq_getElem?_getD, List.getD_eq_getElem?_getD, e1, e2]; rfl) t.length (Nat.le_refl _)
        rw [List.take_length] at hb
        have hsz : its.toArray.size - 1 = t.length := by rw [List.size_toArray, li, lx, List.length_cons]; omega
        rw [hsz, hb] at a1
        cases a1
        exact ⟨v1, H, I.kept hk, a3, q v1 a4⟩
    · simp at e
theorem o_minL (hc : X.calm = true) (hu : X.A.units + 65 < cLine) : CallR X (.builtin "min") (rDn X.K .minL) := by
  intro pins s σ H xs us Q I r h
  obtain ⟨F, ds, d, S, p, e, q⟩ := h
  cases p with
  | nil => simp [Op.eval] at e
  | @cons v vs a ds pa t =>
    cases t with
    | cons => cases a <;> simp [Op.eval] at e
    | nil =>
      cases a <;> try (simp [Op.eval] at e; done)
      case list ds =>
        simp only [Op.eval] at e
        split at e
        · rename_i m is z
          cases e
          obtain ⟨p, xs, rfl, hx, rx'⟩ := pa.lst S
          refine cr_min hc pins s σ H _ us Q I r ⟨p, m :: is, rfl, by rw [← rx'.ints z]; exact hx, by simp, fun k hk hle => ?_⟩
          obtain ⟨h1, h2⟩ := minOf_spec is m
          have : k = minOf m is := Int.le_antisymm (hle _ h1) (h2 k hk)
          rw [this]
          exact kval S q rfl (.int _)
        · obtain ⟨p, xs, rfl, hx, rx'⟩ := pa.lst S
          have hfr : Op.minL.fresh d = false := by cases d <;> rfl
          exact call_minTup hc hu I r S hx rx' e fun v hv => kval S q hfr hv
      case tuple ds =>
        simp only [Op.eval] at e
        split at e
        · rename_i m is z
          cases e
          obtain ⟨p, xs, rfl, hx, rx'⟩ := pa.tup S
          rw [rx'.ints z] at hx
          obtain ⟨its, rv, ht, _⟩ := I.tuple hx
          rw [Vals.ref1 r]
          refine min_tup (I.ok.hd hc) ht rv.ints (by simp) fun h' tk k t' hk h1' h2' => ⟨.int _, H, I.kept hk, ⟨_, rfl⟩, ?_⟩
          obtain ⟨h1, h2⟩ := minOf_spec is m
          have : k = minOf m is := Int.le_antisymm (h2' _ h1) (h2 k h1')
          rw [this]
          exact kval S q rfl (.int _)
        · cases e
end
end Tw

set_option linter.all false
set_option maxRecDepth 100000
set_option maxHeartbeats 4000000
set_option autoImplicit false
/-! repr of a pair of great numbers. -/
namespace Tw
open PySem PySem.Spec PyProof.Rows L2
/-- the number of figures is not bounded otherwise -/
def KDig (K : PySem.W.Frag) : Prop := PySem.W.nsIn K cStatics "sys.int_max_str_digits" = some none
/-- what the module's names are not, and KDig -/
structure Bi (K : PySem.W.Frag) (mg : Str → Option Value) (l : List Str) : Prop where
  b : ∀ x ∈ l, mg x = none
  d : KDig K
theorem ns_none_of {K : PySem.W.Frag} {h : Heap} {m : Str → Option Value} {a : Addr} {n : Str} (X : K.In h) (G : h.Ns a m) (e : PySem.W.nsIn K a n = some none) : m n = none := by
  obtain ⟨o, es, ep, ho, hd, _, hf⟩ := G
  unfold PySem.W.nsIn at e
  split at e
  · rename_i c d es' n' sl q
    have := X _ _ q
    rw [ho] at this
    cases this
    cases hd
    split at e
    · cases e
    · rename_i he
      rw [← hf]
      unfold nsFind findBy
      rw [← Array.find?_toList, he]
      rfl
  · cases e
theorem noDigits_of {K : PySem.W.Frag} {h : Heap} (X : K.In h) (lim : h.NoLimit) (d : KDig K) : h.NoDigits :=
  let ⟨mc, G, _⟩ := lim
  ⟨mc, G, ns_none_of X G d⟩
section
variable {prog : Program} {w : World} {A : Around} {E : Value → Shared → Prop} {s : Shared}
theorem call_int_big {a : Int} {t : Tok} {Q : Value → Shared → Prop} (hn : s.heap.NoDigits) (ha : a.natAbs < 10 ^ 4300) (h : Q (.str (toString a) s.toks) { s with toks := s.toks + 1 }) : wpAny (model prog w) A (call (.builtin "int.__repr__") [.int a t]) Q E s := by
  refine wpAny_call_entry PySem.F.slot_int_repr (typeIs_int s a t) PySem.F.entry_int_repr ?_ (PySem.F.args_int_repr_1 _)
  unfold Builtin.«int.__repr__»
  show wpAny _ _ (do let r ← Builtin.overDigitLimit? a; _) _ _ s
  refine wpAny_bind (overDigitLimit_any hn (fun hlt => ?_) (fun hge => absurd ha (Nat.not_lt.mpr hge)))
  exact wpAny_bind (wpAny_mkStr (wpAny_pure ⟨_, rfl, h⟩) (int_text_fits10 ha))
theorem reprK_big {as : List Addr} {h₀ : Heap} {d : Nat} {a : Int} (t : Tok) (hn : h₀.NoDigits) (ha : a.natAbs < 10 ^ 4300) : ReprK prog w as h₀ d (.int a t) (toString a) := fun base hb A g E s Q hg hcl hu hk hQ => by
  have hb' : base ≤ sizeLine := by omega
  rw [pyReprUnder_leaf (v := .int a t) hb' (fun _ e => nomatch e)]
  unfold pyRepr
  refine wpAny_bind (wpAny_pyReprObj_slot (by omega) (typeIs_int s a t) PySem.F.slot_int_repr.toG (call_int_big (hn.keeps hk) ha ⟨_, _, rfl, ?_⟩))
  exact wpAny_pure (hQ s.heap _ fun _ _ e => e)
theorem repr_pair {a : Addr} {i j : Int} {t u : Tok} {Q : Value → Shared → Prop} (hl : s.heap.IsTuple a #[.int i t, .int j u]) (hn : s.heap.NoDigits) (hi : i.natAbs < 10 ^ 4300) (hj : j.natAbs < 10 ^ 4300) (hg : A.guards = some []) (hu : A.units + 4 < cLine)
    (hz : (PyData.shown (.tuple [.int i, .int j])).length ≤ sizeLine)
    (hQ : ∀ (h' : Heap) (v : Tok) (tk : Nat), (∀ b o, s.heap.get? b = some o → h'.get? b = some o) → Q (.str (PyData.shown (.tuple [.int i, .int j])) v) { s with heap := h', toks := tk }) : wpAny (model prog w) A (call (.builtin "repr") [.ref a]) Q E s := by
  obtain ⟨o, ho, hc, n, hd⟩ := hl
  refine call_repr_slot (by omega) ⟨o, ho, hc⟩ PySem.F.slot_tuple_repr ?_
  have hz' : (tupleText [toString i, toString j]).length ≤ sizeLine := by simpa only [PyData.shown, PyData.shownAll] using hz
  refine call_tuple_reprK (as := []) (d := 1) (ts := [toString i, toString j]) ho hc hd (by simp) (.cons (reprK_big t hn hi) (.cons (reprK_big u hn hj) .nil)) hg (fun b _ => Clear.nil b) (by show A.units + 1 + (1 + 1) < cLine; omega) (fun _ _ e => e) (fun h' v tk hk => ⟨_, _, rfl, ?_⟩) hz'
  have := hQ h' v tk hk
  simpa only [PyData.shown, PyData.shownAll] using this
end
end Tw

set_option linter.all false
set_option maxRecDepth 100000
set_option maxHeartbeats 4000000
set_option autoImplicit false
/-! sorted(a tuple of ints). -/
namespace Tw
open PySem PySem.Spec PyProof.Rows Srt SrtO
section
variable {prog : Program} {w : World} {A : Around} {E : Value → Shared → Prop} {s : Shared}
theorem collect_tup {l : Addr} {vs : List Value} {Q : List Value → Shared → Prop} (hl : s.heap.IsTuple l vs.toArray)
    (h : Q vs { s with heap := (s.heap.push (seqObj "list" #[] 0)).update s.heap.objs.size (Obj.mapSeq (· ++ vs.toArray)) }) (hsz : vs.length ≤ sizeLine) :
    wpAny (model prog w) A (collect (.ref l)) Q E s := by
  obtain ⟨o, ho, hc, n, hd⟩ := id hl
  unfold collect
  refine wpAny_bind (wpAny_runValue (codeAny_builtin entry_proto_collect' ?_))
  show wpAny _ _ (do again (.builtin "list.__iadd__" ⟨[← newList [], .ref l], []⟩)) _ _ s
  refine wpAny_bind (wpAny_newList (wpAny_pure ⟨Code.quiet_builtin _ (by decide +kernel), codeAny_builtin entry_list_iadd' ?_⟩))
  show wpAny _ _ (Builtin.List.listExtendWith (.ref s.heap.objs.size) (.ref l) (.ref s.heap.objs.size)) _ _ { s with heap := s.heap.push (seqObj "list" #[] 0) }
  unfold Builtin.List.listExtendWith
  have ho' : (s.heap.push (seqObj "list" #[] 0)).get? l = some o := Heap.get?_push_of_some _ ho
  refine wpAny_bind (wpAny_typeOf (T := "tuple") ⟨o, ho', hc⟩ ?_)
  have ht : (Value.type "tuple" == Value.type "tuple") = true := by rfl
  rw [if_pos (by rw [ht]; simp)]
  refine wpAny_bind (listItems_at ho' hd ?_)
  refine wpAny_bind (listItems_at (xs := #[]) (n := 0) (Heap.get?_push_size _ rfl) rfl ?_)
  rw [if_neg (by simp)]
  refine wpAny_bind (listUpdate_at (xs := #[]) (n := 0) (Heap.get?_push_size _ rfl) rfl ?_ (Nat.zero_le _) (by show (#[] ++ vs.toArray).size ≤ sizeLine + 1; simp only [Array.size_append, List.size_toArray, List.length_nil]; omega))
  refine wpAny_pure ?_
  show wpAny (model prog w) A (do
      let o ← load s.heap.objs.size
      match o.data with
      | .seq xs _ => pure xs.toList
      | _ => unsupported "internal:collect") Q E { s with heap := (s.heap.push (seqObj "list" #[] 0)).update s.heap.objs.size (Obj.mapSeq (· ++ vs.toArray)) }
  refine wpAny_bind (wpAny_load (get?_update_seq (Heap.get?_push_size _ rfl) _) ?_)
  show wpAny _ _ (pure ((#[] : Array Value) ++ vs.toArray).toList) Q E _
  rw [show ((#[] : Array Value) ++ vs.toArray).toList = vs by simp]
  exact wpAny_pure h
theorem sorted_tup {l : Addr} {vs : List Value} {ltv : Value → Value → Bool} {Q : Value → Shared → Prop} (O : Swo ltv) (hl : s.heap.IsTuple l vs.toArray) (hz : vs.length ≤ sizeLine)
    (hS : 2 ≤ vs.length → ∀ (h₁ : Heap) (a : Addr), h₁.get? a = some (seqObj "list" vs.toArray 0) → (∀ b o, s.heap.get? b = some o → b ≠ a ∧ h₁.get? b = some o) → SortableO prog w A.in1.in1 { s with heap := h₁ } a vs ltv)
    (h : ∀ out : List Value, Srtd ltv out → Stb ltv out vs → Q (.ref (s.heap.objs.size + 1)) { s with heap := sortedAll s.heap vs out.toArray }) :
    wpAny (model prog w) A (call (.builtin "sorted") [.ref l]) Q E s := by
  refine Calls.call_function_entry kind_sorted plain_sorted entry_sorted (args_sorted1 _) ?_
  unfold Builtin.«sorted»
  refine wpAny_bind (m := checkCount "sorted" 1 1 _) (wpAny_pure ?_)
  refine wpAny_bind (collect_tup hl ?_ hz)
  refine wpAny_bind (wpAny_newList ?_ hz)
  have hsz : ((s.heap.push (seqObj "list" #[] 0)).update s.heap.objs.size (Obj.mapSeq (· ++ vs.toArray))).objs.size = s.heap.objs.size + 1 := by
    rw [Heap.size_update, size_push']
  have hoL : (((s.heap.push (seqObj "list" #[] 0)).update s.heap.objs.size (Obj.mapSeq (· ++ vs.toArray))).push (seqObj "list" vs.toArray 0)).get? (s.heap.objs.size + 1) = some (seqObj "list" vs.toArray 0) := by
    rw [← hsz]; exact Heap.get?_push_size _ rfl
  have keep : ∀ b o, s.heap.get? b = some o → b ≠ s.heap.objs.size + 1 ∧ (((s.heap.push (seqObj "list" #[] 0)).update s.heap.objs.size (Obj.mapSeq (· ++ vs.toArray))).push (seqObj "list" vs.toArray 0)).get? b = some o := fun b o q => by
    have hlt : b < s.heap.objs.size := Heap.lt_size q
    refine ⟨Nat.ne_of_lt (Nat.lt_succ_of_lt hlt), Heap.get?_push_of_some _ ?_⟩
    rw [Heap.get?_update_ne _ _ _ _ (Nat.ne_of_lt hlt)]
    exact Heap.get?_push_of_some _ q
  show wpAny _ _ _ _ _ { s with heap := ((s.heap.push (seqObj "list" #[] 0)).update s.heap.objs.size (Obj.mapSeq (· ++ vs.toArray))).push (seqObj "list" vs.toArray 0) }
  rw [hsz]
  refine wpAny_bind (wpAny_holding (wpAny_call_entry slot_list_sort ⟨_, hoL, rfl⟩ entry_list_sort (list_sort_ord O hoL hz (fun h2 => hS h2 _ _ hoL keep) fun out hs hb => ⟨_, rfl, ?_⟩) (args_list_sort _)))
  exact wpAny_pure ⟨_, rfl, h out hs hb⟩
end
open L2
theorem call_sortedT {X : Cx} {pins : List (Addr × Obj)} {σ : Sl} {H : Hp} {s : Shared} {a : Addr} {ns : List Int} {Q : VK} {us : List Value} (I : L2.Inv X pins σ H s) (r : Vals [V.ref a] us) (hs : SqT X.K H a (ns.map V.int))
    (q : ∀ (ns' : List Int) (p : Addr), ns'.Perm ns → ns'.Pairwise (· ≤ ·) → H p = none → Q (.ref p) (upd H p (.lst (ns'.map V.int)))) : wpAny (model X.prog X.w) X.A (PySem.call (.builtin "sorted") us) (EP X pins σ Q) X.xe s := by
  obtain ⟨its, rv, hl, hz⟩ := I.tuple hs
  rw [Vals.ref1 r]
  have hi := rv.ints
  refine sorted_tup SrtO.swo_int hl (by rw [← rv.length]; exact hz) (fun h2 h₁ a' _ _ => SrtO.ints_sortable hi h2) fun out h1 h2 => ?_
  obtain ⟨k1, k2, k3⟩ := SrtO.ints_out hi h1 h2
  obtain ⟨ep, he'⟩ := PyProof.Rows.sortedAll_at s.heap its out.toArray
  have hlen : ((out.map SrtO.iv).map V.int).length ≤ sizeLine := by
    rw [List.length_map, k2.length_eq]
    rw [List.length_map] at hz
    exact hz
  exact ⟨.ref _, upd H (s.heap.objs.size + 1) (.lst ((out.map SrtO.iv).map V.int)), I.laid (t' := s.toks) (fun _ _ => PyProof.Rows.sortedAll_old) (Nat.le_succ _) ⟨hlen, out, ep, vals_of_ints k1, he'⟩, rfl, q _ _ k2 k3 (I.hok.fresh (Nat.le_succ _))⟩
section
variable {prog : Program} {w : World} {A : Around} {E : Value → Shared → Prop} {s : Shared} {T : String} {r d : Addr} {n : Nat} {P : Nat → Value → Prop} {OK : Heap → Prop}
/-- sorted(a thing whose members are ints) -/
theorem sorted_src {Q : Value → Shared → Prop} {ns : List Int} (K : PySem.W.KdlSrc prog w T r d n P OK) (hh : A.handled = none) (hok : OK s.heap) (hn : n ≤ sizeLine)
    (hI : ∀ vs : List Value, vs.length = n → (∀ (j : Nat) (v : Value), vs[j]? = some v → P j v) → Vals (ns.map V.int) vs)
    (h : ∀ (h1 h' : Heap) (tk e : Nat) (out : List Value) (ms : List Int), (∀ b o, s.heap.get? b = some o → h1.get? b = some o) → (∀ b o, s.heap.get? b = some o → h'.get? b = some o) → h'.get? h1.objs.size = some (seqObj "list" out.toArray e) → Vals (ms.map V.int) out → ms.Perm ns → ms.Pairwise (· ≤ ·) → Q (.ref h1.objs.size) { s with heap := h', toks := tk }) :
    wpAny (model prog w) A (call (.builtin "sorted") [.ref r]) Q E s := by
  refine Calls.call_function_entry kind_sorted plain_sorted entry_sorted (args_sorted1 _) ?_
  unfold Builtin.«sorted»
  refine wpAny_bind (m := checkCount "sorted" 1 1 _) (wpAny_pure ?_)
  refine wpAny_bind (PySem.W.kdu_collect (A := A.in1) K hh hok hn fun h1 tk acc hk hacc => ?_)
  have hl : acc.toList.length = n := by rw [Array.length_toList]; exact hacc.1
  have rv := hI acc.toList hl fun j v e => hacc.2 j v (by rw [← Array.getElem?_toList]; exact e)
  have hi := rv.ints
  have hz : acc.toList.length ≤ sizeLine := by rw [hl]; exact hn
  refine wpAny_bind (wpAny_newList ?_ hz)
  have hoL : (h1.push (seqObj "list" acc.toList.toArray 0)).get? h1.objs.size = some (seqObj "list" acc.toList.toArray 0) := Heap.get?_push_size _ rfl
  refine wpAny_bind (wpAny_holding (wpAny_call_entry (s := { s with heap := h1.push (seqObj "list" acc.toList.toArray 0), toks := tk }) slot_list_sort ⟨_, hoL, rfl⟩ entry_list_sort (list_sort_ord SrtO.swo_int hoL hz (fun h2 => SrtO.ints_sortable hi h2) fun out hs hb => ⟨_, rfl, ?_⟩) (args_list_sort _)))
  obtain ⟨k1, k2, k3⟩ := SrtO.ints_out hi hs hb
  obtain ⟨e, he⟩ := sortedHeap_at (vs := acc.toList) (out := out.toArray) hoL
  refine wpAny_pure ⟨_, rfl, h h1 _ tk e out _ hk (fun b o q => ?_) he (vals_of_ints k1) k2 k3⟩
  have hb := hk _ _ q
  have hlt := Heap.lt_size hb
  rw [sortedHeap_old (Nat.ne_of_lt hlt) (by rw [size_push']; exact Nat.lt_succ_of_lt hlt)]
  exact Heap.get?_push_of_some _ hb
end
open L2
/-- sorted(a dict whose keys are ints) -/
theorem call_sortedD {X : Cx} {pins : List (Addr × Obj)} {σ : Sl} {H : Hp} {s : Shared} {a : Addr} {ks : List (Key × V)} {ns : List Int} {Q : VK} {us : List Value} (hc : X.calm = true) (I : L2.Inv X pins σ H s) (r : Vals [V.ref a] us) (hd : Rd H a (.dK ks)) (hk : (ks.map fun kv => kV kv.1) = ns.map V.int)
    (q : ∀ (ns' : List Int) (p : Addr), ns'.Perm ns → ns'.Pairwise (· ≤ ·) → H p = none → Q (.ref p) (upd H p (.lst (ns'.map V.int)))) : wpAny (model X.prog X.w) X.A (PySem.call (.builtin "sorted") us) (EP X pins σ Q) X.xe s := by
  rw [Vals.ref1 r]
  obtain ⟨z, lo, vs, rk, hdo⟩ := (show ObjOk X.prog X.w H s.heap a (.dK ks) from hd.ok I.hok)
  obtain ⟨ep, hat⟩ := hdo.dictAt
  have hl : ks.length = vs.length := Paired.length rk
  refine sorted_src (n := vs.length) (ns := ns) (PySem.W.kdl_dict (knd := mixKind X.prog X.w) (kvs := vs) (ep := ep) lo) (I.ok.hd hc) hat (by rw [← hl]; exact z) (fun us hu hp => ?_) fun h1 h' tk e out ms hk1 hkp he rv hperm hs => ?_
  · rw [← hk]
    refine vals_of_at (by rw [List.length_map, hu, hl]) fun j x u h1 h2 => ?_
    obtain ⟨k, y, hky, hi⟩ := hp j u h2
    have e1 : (ks.map (·.1))[j]? = some k := by
      rw [KV.keys rk, List.getElem?_map, hky] <;> rfl
    have e2 : (ks.map fun kv => kV kv.1)[j]? = some (kV k) := by
      have e3 : (ks.map fun kv => kV kv.1) = (ks.map (·.1)).map kV := by rw [List.map_map] <;> rfl
      rw [e3, List.getElem?_map, e1] <;> rfl
    rw [e2] at h1
    cases h1
    exact keyIs_rel hi
  · have hlen : (ms.map V.int).length ≤ sizeLine := by
      have e1 := congrArg List.length hk
      rw [List.length_map, List.length_map] at e1
      rw [List.length_map, hperm.length_eq, ← e1]
      exact z
    have hN : s.heap.get? h1.objs.size = none := by
      cases z : s.heap.get? h1.objs.size with
      | none => rfl
      | some o => exact absurd (Heap.lt_size (hk1 _ _ z)) (Nat.lt_irrefl _)
    have hH : H h1.objs.size = none := by
      cases z : H h1.objs.size with
      | none => rfl
      | some u => exact absurd (ObjOk.lt ((I.hok _ u z).stay (h' := h1) (fun c v _ q => hk1 c v q) (fun c q => q) fun c xs q => q)) (Nat.lt_irrefl _)
    exact ⟨.ref _, upd H h1.objs.size (.lst (ms.map V.int)), I.laidN hkp hN hH (show ObjOk X.prog X.w _ _ _ (.lst (ms.map V.int)) from ⟨hlen, out, e, rv, he⟩), rfl, q _ _ hperm hs hH⟩
end Tw

set_option linter.all false
set_option maxRecDepth 100000
set_option maxHeartbeats 4000000
set_option autoImplicit false
/-! More operations: sums, isinstance, repr, is; what is walked. -/
namespace Tw
open PySem PySem.Spec PyProof.Rows L2
section
variable {prog : Program} {w : World} {A : Around} {E : Value → Shared → Prop} {s : Shared}
theorem sum_tup {t : Addr} {its : List Value} {ns : List Int} {Q : Value → Shared → Prop} (hh : A.handled = none) (ht : IsTup s.heap t its.toArray) (hi : IntsAre its ns)
    (h : ∀ h' tk t', (∀ b o, s.heap.get? b = some o → h'.get? b = some o) → Q (.int ns.sum t') { s with heap := h', toks := tk }) : wpAny (model prog w) A (call (.builtin "sum") [.ref t]) Q E s := by
  obtain ⟨xs, e⟩ := hi.allInts.items
  have hn : numsOf (intItems xs).toList = ns := by
    rw [← e]
    exact hi.numsOf
  rw [nums_intItems] at hn
  rw [e] at ht
  have htu : s.heap.IsTuple t (intItems xs) := ht
  refine call_sum_walkG (wpAny_pyIter_tuple htu ?_)
  have hlt : t < s.heap.objs.size := by
    obtain ⟨_, q, _⟩ := ht
    exact Heap.lt_size q
  have hne : t ≠ s.heap.objs.size := Nat.ne_of_lt hlt
  refine ⟨_, [_, t], [_], _, _, _, numAt xs, rfl, Walks.tuple (A := A.in1) hh _ t hne (intItems xs), ⟨⟨_, Heap.get?_push_size _ rfl, rfl, rfl⟩, htu.push _⟩, fun c hc => ?_, fun _ _ => intItems_at, fun h' tk t' hk => ?_⟩
  · show c < (s.heap.push _).objs.size
    rw [Heap.size_push]
    rcases List.mem_cons.mp hc with z | hc
    · rw [z]; exact Nat.lt_succ_self _
    · rcases List.mem_cons.mp hc with z | hc
      · rw [z]; exact Nat.lt_succ_of_lt hlt
      · cases hc
  · have hold : ∀ c o, s.heap.get? c = some o → h'.get? c = some o := fun c o q => by
      refine hk c o (fun hm => ?_) (Heap.get?_push_of_some _ q)
      rcases List.mem_cons.mp hm with z | hm
      · have := Heap.lt_size q
        rw [z] at this
        exact Nat.lt_irrefl _ this
      · cases hm
    have := h h' tk t' hold
    have e2 : preSum (numAt xs) (intItems xs).size = ns.sum := by
      rw [preSum_eq, List.take_of_length_le (by simp [intItems]), hn]
    rw [e2]
    exact this
end
section
variable {X : Cx}
theorem RlKv.intKeys {K : PySem.W.Frag} {F : Hp} : ∀ {ks : List (Key × V)} {kvs : List (D × D)} {is : List Int}, RlKv K F ks kvs → asInts (kvs.map Prod.fst) = some is → (ks.map fun kv => kV kv.1) = is.map V.int
  | _, _, _, .nil, h => by cases h; rfl
  | _, _, is, .cons (k := k) (e := e) q _ t, h => by
    rw [List.map_cons] at h
    cases k with
    | inl i =>
      have q : PyData.int i = e := q
      subst q
      simp only [asInts] at h
      split at h
      · rename_i js hj
        cases h
        rw [List.map_cons, List.map_cons, RlKv.intKeys t hj]
        rfl
      · cases h
    | inr x =>
      have q : PyData.str x = e := q
      subst q
      simp [asInts] at h
theorem o_sorted (hc : X.calm = true) : CallR X (.builtin "sorted") (rDn X.K .sorted) := by
  intro pins s σ H xs us Q I r h
  obtain ⟨F, ds, d, S, p, e, q⟩ := h
  cases p with
  | nil => simp [Op.eval] at e
  | @cons v vs a ds pa t =>
    cases t with
    | cons => cases a <;> simp [Op.eval] at e
    | nil =>
      cases a <;> try (simp [Op.eval, sortedE] at e; done)
      case list ds =>
        simp only [Op.eval, sortedE] at e
        split at e
        · rename_i is hz
          cases e
          obtain ⟨p, xs, rfl, hx, rx'⟩ := pa.lst S
          have ex := rx'.ints hz
          subst ex
          refine cr_sortedI pins s σ H _ us Q I r ⟨p, is, rfl, hx, fun ns' q' h1 h2 hq => ?_⟩
          have e1 : ns' = isort is := sorted_one (h1.trans (isort_perm is).symm) h2 (isort_sorted is)
          subst e1
          have rl : ∀ l : List Int, RlAll X.K F (l.map V.int) (l.map PyData.int) := fun l => by
            induction l with
            | nil => exact .nil
            | cons x r ih => exact .cons (.int x) ih
          exact kown S q rfl (rl _) q' hq
        · cases e
      case tuple ds =>
        simp only [Op.eval, sortedE] at e
        split at e
        · rename_i is hz
          cases e
          obtain ⟨p, xs, rfl, hx, rx'⟩ := pa.tup S
          have ex := rx'.ints hz
          subst ex
          refine call_sortedT I r hx fun ns' q' h1 h2 hq => ?_
          have e1 : ns' = isort is := sorted_one (h1.trans (isort_perm is).symm) h2 (isort_sorted is)
          subst e1
          have rl : ∀ l : List Int, RlAll X.K F (l.map V.int) (l.map PyData.int) := fun l => by
            induction l with
            | nil => exact .nil
            | cons x r ih => exact .cons (.int x) ih
          exact kown S q rfl (rl _) q' hq
        · cases e
      case dict kvs =>
        simp only [Op.eval, sortedE] at e
        split at e
        · rename_i is hz
          cases e
          obtain ⟨p, rfl, hx⟩ := pa.dic S
          have hx : ∃ xs, Rd H p (.dK xs) ∧ RlKv X.K F xs kvs := by
            rcases hx with hx | ⟨hne, xs, hx, rt⟩
            · exact hx
            · cases rt with
              | nil => exact absurd rfl hne
              | cons q => subst q; simp [asInts] at hz
          obtain ⟨xs, hx, rk⟩ := hx
          refine call_sortedD hc I r hx (rk.intKeys hz) fun ns' q' h1 h2 hq => ?_
          have e1 : ns' = isort is := sorted_one (h1.trans (isort_perm is).symm) h2 (isort_sorted is)
          subst e1
          have rl : ∀ l : List Int, RlAll X.K F (l.map V.int) (l.map PyData.int) := fun l => by
            induction l with
            | nil => exact .nil
            | cons x r ih => exact .cons (.int x) ih
          exact kown S q rfl (rl _) q' hq
        · cases e
theorem o_sum (hc : X.calm = true) : CallR X (.builtin "sum") (rDn X.K .sum) := by
  intro pins s σ H xs us Q I r h
  obtain ⟨F, ds, d, S, p, e, q⟩ := h
  cases p with
  | nil => simp [Op.eval] at e
  | @cons v vs a ds pa t =>
    cases t with
    | cons => cases a <;> simp [Op.eval] at e
    | nil =>
      cases a <;> try (simp [Op.eval] at e; done)
      case list ds =>
        simp only [Op.eval] at e
        split at e
        · rename_i is z
          cases e
          obtain ⟨p, xs, rfl, hx, rx'⟩ := pa.lst S
          exact cr_sum hc pins s σ H _ us Q I r ⟨p, is, rfl, by rw [← rx'.ints z]; exact hx, kval S q rfl (.int _)⟩
        · cases e
      case tuple ds =>
        simp only [Op.eval] at e
        split at e
        · rename_i is z
          cases e
          obtain ⟨p, xs, rfl, hx, rx'⟩ := pa.tup S
          rw [rx'.ints z] at hx
          obtain ⟨its, rv, ht, _⟩ := I.tuple hx
          rw [Vals.ref1 r]
          exact sum_tup (I.ok.hd hc) ht rv.ints fun h' tk t' hk => ⟨.int _, H, I.kept hk, ⟨_, rfl⟩, kval S q rfl (.int _)⟩
        · cases e
/-! ### isinstance -/
def tyName : D → String
  | .none => "NoneType"
  | .bool _ => "bool"
  | .int _ => "int"
  | .str _ => "str"
  | .list _ => "list"
  | .tuple _ => "tuple"
  | .dict _ => "dict"
def Ty.name : Ty → String
  | .int => "int"
  | .bool => "bool"
  | .str => "str"
  | .list => "list"
  | .tuple => "tuple"
  | .dict => "dict"
theorem tyx {K : PySem.W.Frag} {F H : Hp} {v : V} {d : D} (S : Same F H) (h : PR K F H v d) : TyX K H v (.type (tyName d)) := by
  cases d with
  | none => rw [h.non]; exact .base .non
  | bool b => rw [h.bl]; exact .base (.bl b)
  | int b => rw [h.int]; exact .base (.int b)
  | str b => rw [h.str]; exact .base (.str b)
  | list ds =>
    obtain ⟨a, xs, rfl, hx, _⟩ := h.lst S
    rcases hx with (hx | ⟨o, hx⟩) | ⟨o, its, n, hk, hc, _⟩
    · exact .base (.lst hx)
    · exact .base (.frz hx)
    · exact .kList hk hc
  | tuple ds =>
    obtain ⟨a, xs, rfl, hx, _⟩ := h.tup S
    rcases hx with (hx | ⟨o, hx⟩) | ⟨o, its, n, hk, hc, _⟩
    · exact .base (.tup hx)
    · exact .fTuple hx
    · exact .kTuple hk hc
  | dict ds =>
    obtain ⟨a, rfl, ⟨xs, hx | ⟨o, hx⟩, _⟩ | ⟨_, xs, hx, _⟩⟩ := h.dic S
    · exact .base (.dK hx)
    · exact .fDict hx
    · exact .base (.dT hx)
theorem kit_has {K : PySem.W.Frag} (t : Ty) (d : D) : PySem.W.kitOne K (.type (tyName d)) (.type t.name) = some (t.has d) := by
  cases t <;> cases d <;> simp only [tyName, Ty.name, Ty.has] <;> exact kit_ty (by decide +kernel)
theorem o_inst (t : Ty) : CallR X (.builtin "isinstance") (fun xs H Q => ∃ x, xs = [x, .ty t.name] ∧ rDn X.K (.inst t) [x] H Q) := by
  intro pins s σ H xs us Q I r h
  obtain ⟨x, rfl, h⟩ := h
  obtain ⟨F, a, d, S, pa, e, q⟩ := h.one
  simp only [Op.eval] at e
  cases e
  exact call_isi pins s σ H _ us Q I r ⟨x, _, _, _, _, rfl, .ty _, tyx S pa, kit_has t a, kval S q rfl (.bl _)⟩
/-! ### repr -/
/-! ### what stands in the heap, without lists -/
section
variable {pins : List (Addr × Obj)} {σ : Sl} {H F : Hp} {s : Shared}
theorem key_reads {h : Heap} {k : Key} {v : Value} (e : keyIs k v = true) : Reads h v (kD k) [] := by
  rcases keyIs_shape e with ⟨i, t, rfl, rfl⟩ | ⟨x, t, rfl, rfl⟩
  · exact .int i t
  · exact .str x t
theorem no_app {a b : List Addr} {x : Addr} (h1 : x ∉ a) (h2 : x ∉ b) : x ∉ a ++ b := fun h => (List.mem_append.mp h).elim h1 h2
theorem noLstK_T {K : PySem.W.Frag} {F : Hp} {ks : List (List Key × V)} {kvs : List (D × D)} (ne : kvs ≠ []) (r : RlKvT K F ks kvs) (n : noLstK kvs = true) : False := by
  cases r with
  | nil => exact ne rfl
  | cons q h t =>
    subst q
    simp [noLstK, isKey] at n
mutual
theorem Rl.readsN (I : L2.Inv X pins σ H s) (S : Same F H) : ∀ (d : D) (v : V) (u : Value), noLst d = true → Rl X.K F v d → RelV v u → ∃ as, Reads s.heap u d as ∧ sysModules ∉ as
  | .none, _, _, _, h, r => by
    cases h
    cases r
    exact ⟨_, .none, by simp⟩
  | .bool b, _, _, _, h, r => by
    cases h
    cases r
    exact ⟨_, .bool b, by simp⟩
  | .int i, _, _, _, h, r => by
    cases h
    obtain ⟨t, rfl⟩ := r
    exact ⟨_, .int i t, by simp⟩
  | .str x, _, _, _, h, r => by
    cases h
    obtain ⟨t, rfl⟩ := r
    exact ⟨_, .str x t, by simp⟩
  | .list ds, _, _, n, _, _ => by
    simp only [noLst] at n
    cases n
  | .tuple ds, _, _, n, h, r => by
    simp only [noLst] at n
    cases h with
    | tup hs ha =>
      cases r
      obtain ⟨its, rv, ⟨o, ho, hc, k, hd⟩, _⟩ := I.tuple (.inl (.inl (S _ _ hs)))
      obtain ⟨as, hr, hn⟩ := RlAll.readsN I S ds _ its n ha rv
      exact ⟨_, .tuple ho hc hd hr, hn⟩
  | .dict kvs, _, _, n, h, r => by
    simp only [noLst] at n
    cases h with
    | dic ha rk =>
      cases r
      obtain ⟨_, ne, vs, kv, o, es, ep, ho, ex, hd, _, pr, _⟩ := dk_of I.hok (S _ _ ha)
      obtain ⟨as, bs, h1, h2, h3, h4⟩ := RlKv.readsN I S kvs _ vs es.toList n rk kv pr
      refine ⟨_, .dict ho ex.1 hd h1 h2, ?_⟩
      rw [List.cons_append]
      intro m
      rcases List.mem_cons.mp m with m | m
      · subst m
        simp at ne
      · exact no_app h3 h4 m
    | dicT ha ne rk => exact (noLstK_T ne rk n).elim
    | dicF ha rk =>
      cases r
      obtain ⟨_, ne, vs, kv, o, es, ep, ho, ex, hd, _, pr, _⟩ := dk_rd I.hok (.inr ⟨_, S _ _ ha⟩)
      obtain ⟨as, bs, h1, h2, h3, h4⟩ := RlKv.readsN I S kvs _ vs es.toList n rk kv pr
      refine ⟨_, .dict ho ex.1 hd h1 h2, ?_⟩
      rw [List.cons_append]
      intro m
      rcases List.mem_cons.mp m with m | m
      · subst m
        simp at ne
      · exact no_app h3 h4 m
theorem RlAll.readsN (I : L2.Inv X pins σ H s) (S : Same F H) : ∀ (ds : List D) (vs : List V) (us : List Value), noLsts ds = true → RlAll X.K F vs ds → Vals vs us → ∃ as, ReadsAll s.heap us ds as ∧ sysModules ∉ as
  | [], _, _, _, h, r => by
    cases h
    cases r
    exact ⟨_, .nil, by simp⟩
  | d :: ds, _, _, n, h, r => by
    simp only [noLsts, Bool.and_eq_true] at n
    cases h with
    | cons h1 h2 =>
      cases r with
      | cons r1 r2 =>
        obtain ⟨as, q1, q2⟩ := Rl.readsN I S d _ _ n.1 h1 r1
        obtain ⟨bs, q3, q4⟩ := RlAll.readsN I S ds _ _ n.2 h2 r2
        exact ⟨_, .cons q1 q3, no_app q2 q4⟩
theorem RlKv.readsN (I : L2.Inv X pins σ H s) (S : Same F H) : ∀ (kvs : List (D × D)) (ks : List (Key × V)) (vs : List (Key × Value)) (es : List DictEntry), noLstK kvs = true → RlKv X.K F ks kvs → KV ks vs → Pairs (mixKind X.prog X.w) es vs →
    ∃ as bs, ReadsAll s.heap (es.map (·.key)) (kvs.map (·.1)) as ∧ ReadsAll s.heap (es.map (·.val)) (kvs.map (·.2)) bs ∧ sysModules ∉ as ∧ sysModules ∉ bs
  | [], _, _, _, _, h, r, p => by
    cases h
    cases r
    cases p
    exact ⟨_, _, .nil, .nil, by simp, by simp⟩
  | (k, d) :: kvs, _, _, _, n, h, r, p => by
    simp only [noLstK, Bool.and_eq_true] at n
    cases h with
    | cons e h1 h2 =>
      cases r with
      | cons r1 r2 =>
        cases p with
        | cons p1 p2 p3 =>
          obtain ⟨e1, e2⟩ := r1
          subst e
          obtain ⟨as, q1, q2⟩ := Rl.readsN I S d _ _ n.1.2 h1 e2
          obtain ⟨as2, bs2, q3, q4, q5, q6⟩ := RlKv.readsN I S kvs _ _ _ n.2 h2 r2 p3
          rw [← p2] at q1
          exact ⟨_, _, .cons (key_reads (by have p1' : keyIs _ _ = true := p1; rw [← e1] at p1'; exact p1')) q3, .cons q1 q4, by simpa using q5, no_app q2 q6⟩
end
theorem PR.readsN (I : L2.Inv X pins σ H s) (S : Same F H) {d : D} {v : V} {u : Value} (n : noLst d = true) (h : PR X.K F H v d) (r : RelV v u) : ∃ as, Reads s.heap u d as ∧ sysModules ∉ as := by
  rcases h with h | h
  · exact Rl.readsN I S d v u n h r
  · cases h with
    | lst => simp only [noLst] at n; cases n
    | dic ha _ rk =>
      simp only [noLst] at n
      cases r
      obtain ⟨_, ne, vs, kv, o, es, ep, ho, ex, hd, _, pr, _⟩ := dk_of I.hok ha
      obtain ⟨as, bs, h1, h2, h3, h4⟩ := RlKv.readsN I S _ _ vs es.toList n rk kv pr
      refine ⟨_, .dict ho ex.1 hd h1 h2, ?_⟩
      rw [List.cons_append]
      intro m
      rcases List.mem_cons.mp m with m | m
      · subst m
        simp at ne
      · exact no_app h3 h4 m
    | dicT ha _ ne rk =>
      simp only [noLst] at n
      exact (noLstK_T ne rk n).elim
/-- a thing that repr is asked of -/
theorem PR.readsR (I : L2.Inv X pins σ H s) (S : Same F H) {d : D} {v : V} {u : Value} (n : (!d.hasDict || noLst d) = true) (h : PR X.K F H v d) (r : RelV v u) : ∃ as, Reads s.heap u d as ∧ (d.hasDict = true → sysModules ∉ as) := by
  rw [Bool.or_eq_true, Bool.not_eq_true'] at n
  rcases n with n | n
  · obtain ⟨as, rd⟩ := Dp.reads I _ _ _ (h.toDp S n) r
    exact ⟨as, rd, PyData.noDict_hsm n⟩
  · obtain ⟨as, rd, q⟩ := PR.readsN I S n h r
    exact ⟨as, rd, fun _ => q⟩
end
theorem int_text_fits_pair {i j : Int} (hi : i.natAbs < 10 ^ 4300) (hj : j.natAbs < 10 ^ 4300) : (PyData.shown (.tuple [.int i, .int j])).length ≤ sizeLine := by
  have e1 := int_text_length_le10 (k := 4300) (by decide) hi
  have e2 := int_text_length_le10 (k := 4300) (by decide) hj
  have h : PyData.leavesShort 4301 (.tuple [.int i, .int j]) = true := by
    simp only [PyData.leavesShort, PyData.leavesShortAll, Bool.and_eq_true, decide_eq_true_eq]
    exact ⟨by rw [PyData.shown, PySem.ofString_length]; exact e1, by rw [PyData.shown, PySem.ofString_length]; exact e2, trivial⟩
  have := PyData.shown_le_bulk 4301 (by decide) _ h
  have hb : PyData.bulk (.tuple [.int i, .int j]) ≤ 10 := by
    simp [PyData.bulk, PyData.bulkAll]
  rw [sizeLine_eq]
  omega
theorem o_repr (hg : X.A.guards = some []) (hu : X.A.units + 65 < cLine) (dg : KDig X.K) : CallR X (.builtin "repr") (rDn X.K .repr) := by
  intro pins s σ H xs us Q I r h
  obtain ⟨F, ds, d, S, p, e, q⟩ := h
  cases p with
  | nil => simp [Op.eval] at e
  | @cons v vs a ds pa t =>
    cases t with
    | cons => simp [Op.eval] at e
    | nil =>
      simp only [Op.eval] at e
      split at e
      · rename_i z
        cases e
        rw [Bool.or_eq_true] at z
        rcases z with z | z
        case inr =>
          have fin : Q (.str a.shown) H := kval S q rfl (.str _)
          obtain ⟨u, rfl, ru⟩ := r.one
          unfold bigPair at z
          split at z
          · rename_i i j
            rw [Bool.and_eq_true, decide_eq_true_eq, decide_eq_true_eq] at z
            obtain ⟨p, xs, rfl, hx, rx⟩ := pa.tup S
            cases (show u = Value.ref p from ru)
            obtain ⟨its, rv, hl, _⟩ := I.tuple hx
            have ex : xs = [V.int i, V.int j] := rx.ints (is := [i, j]) rfl
            subst ex
            cases rv with
            | cons r1 rv =>
              cases rv with
              | cons r2 rv =>
                cases rv
                obtain ⟨t1, rfl⟩ := r1
                obtain ⟨t2, rfl⟩ := r2
                have bi : i.natAbs < 10 ^ 4300 := Nat.lt_of_lt_of_le (lt_of_log2 (Nat.lt_trans z.1 (by decide))) pow_lo
                have bj : j.natAbs < 10 ^ 4300 := Nat.lt_of_lt_of_le (lt_of_log2 (Nat.lt_trans z.2 (by decide))) pow_lo
                have l1 := int_text_fits_pair bi bj
                exact repr_pair hl (noDigits_of I.kIn I.nolimit dg) bi bj hg (by omega) l1 fun h' v tk hk => ⟨.str _, H, I.kept hk, ⟨_, rfl⟩, fin⟩
          · cases z
        simp only [reprOk, Bool.and_eq_true, decide_eq_true_eq] at z
        obtain ⟨⟨⟨z1, z2⟩, z3⟩, z4⟩ := z
        have z2' : a.shown.length ≤ sizeLine := Nat.le_trans z2 BIG_le
        have fin : Q (.str a.shown) H := kval S q rfl (.str _)
        obtain ⟨u, rfl, ru⟩ := r.one
        cases a with
        | none =>
          cases pa.non
          cases (show u = Value.none from ru)
          exact P.repr_of_none ⟨.str _, H, I.tok _, ⟨_, rfl⟩, fin⟩
        | bool b =>
          cases pa.bl
          cases (show u = Value.bool b from ru)
          exact P.repr_of_bool ⟨.str _, H, I.tok _, (by simp only [PyData.shown]; exact ⟨_, rfl⟩), fin⟩
        | int i =>
          cases pa.int
          obtain ⟨t, rfl⟩ := ru
          simp only [PyData.showable, decide_eq_true_eq] at z1
          exact P.repr_of_int z1 ⟨.str _, H, I.tok _, (by simp only [PyData.shown]; exact ⟨_, rfl⟩), fin⟩
        | str i =>
          cases pa.str
          obtain ⟨t, rfl⟩ := ru
          exact P.repr_of_str ⟨.str _, H, I.tok _, (by simp only [PyData.shown]; exact ⟨_, rfl⟩), fin⟩ (by simpa only [PyData.shown] using z2')
        | list ds =>
          obtain ⟨as, rd, hsm⟩ := pa.readsR I S z4 ru
          obtain ⟨p, xs, rfl, _⟩ := pa.lst S
          cases (show u = Value.ref p from ru)
          exact repr_of_reads' rd z1 hsm hg (by omega) (fun _ _ e => e) (fun h' u tk hk => ⟨.str _, H, I.kept hk, ⟨_, rfl⟩, fin⟩) z2'
        | tuple ds =>
          obtain ⟨as, rd, hsm⟩ := pa.readsR I S z4 ru
          obtain ⟨p, xs, rfl, _⟩ := pa.tup S
          cases (show u = Value.ref p from ru)
          exact repr_of_reads' rd z1 hsm hg (by omega) (fun _ _ e => e) (fun h' u tk hk => ⟨.str _, H, I.kept hk, ⟨_, rfl⟩, fin⟩) z2'
        | dict kvs =>
          obtain ⟨as, rd, hsm⟩ := pa.readsR I S z4 ru
          obtain ⟨p, rfl, _⟩ := pa.dic S
          cases (show u = Value.ref p from ru)
          exact repr_of_reads' rd z1 hsm hg (by omega) (fun _ _ e => e) (fun h' u tk hk => ⟨.str _, H, I.kept hk, ⟨_, rfl⟩, fin⟩) z2'
      · cases e
/-! ### is -/
theorem non_iff {K : PySem.W.Frag} {F H : Hp} {v : V} {d : D} (h : PR K F H v d) : decide (v = .non) = isNoneD d := by
  rcases h with h | h <;> cases h <;> simp [isNoneD]
theorem o_isNone : OpR X (compareOp .Is) (fun x y H Q => y = .non ∧ rD1 X.K .isNone x H Q) := by
  intro pins s σ H x y v u Q I rx ry h
  obtain ⟨rfl, h⟩ := h
  obtain ⟨F, a, d, S, pa, e, q⟩ := h.one
  simp only [Op.eval] at e
  cases e
  refine op_isN pins s σ H _ _ v u Q I rx ry ⟨rfl, ?_⟩
  rw [non_iff pa]
  exact kval S q rfl (.bl _)
theorem o_notNone : OpR X (compareOp .IsNot) (fun x y H Q => y = .non ∧ rD1 X.K .notNone x H Q) := by
  intro pins s σ H x y v u Q I rx ry h
  obtain ⟨rfl, h⟩ := h
  obtain ⟨F, a, d, S, pa, e, q⟩ := h.one
  simp only [Op.eval] at e
  cases e
  refine op_notN pins s σ H _ _ v u Q I rx ry ⟨rfl, ?_⟩
  rw [non_iff pa]
  exact kval S q rfl (.bl _)
theorem o_isBool (c : Bool) : OpR X (compareOp .Is) (fun x y H Q => y = .bl c ∧ rD1 X.K (.isBool c) x H Q) := by
  intro pins s σ H x y v u Q I rx ry h
  obtain ⟨rfl, h⟩ := h
  obtain ⟨F, a, d, S, pa, e, q⟩ := h.one
  cases a <;> try (simp [Op.eval] at e; done)
  case bool b =>
    cases e; cases pa.bl
    exact op_isBl pins s σ H _ _ v u Q I rx ry ⟨b, c, rfl, rfl, by
      have := kval S q rfl (.bl _)
      rw [Bool.beq_eq_decide_eq] at this
      exact this⟩
theorem o_notBool (c : Bool) : OpR X (compareOp .IsNot) (fun x y H Q => y = .bl c ∧ rD1 X.K (.notBool c) x H Q) := by
  intro pins s σ H x y v u Q I rx ry h
  obtain ⟨rfl, h⟩ := h
  obtain ⟨F, a, d, S, pa, e, q⟩ := h.one
  cases a <;> try (simp [Op.eval] at e; done)
  case bool b =>
    cases e; cases pa.bl
    exact op_notBl pins s σ H _ _ v u Q I rx ry ⟨b, c, rfl, rfl, by
      have := kval S q rfl (.bl _)
      rw [Bool.beq_eq_decide_eq] at this
      exact this⟩
end
end Tw

set_option linter.all false
set_option maxRecDepth 100000
set_option maxHeartbeats 4000000
set_option autoImplicit false
/-! list.index from a place on. -/
namespace Tw
open PySem PySem.Spec PyProof.Rows L2 PySem.SeqAt MeetsSeq MeetsSeq2 MeetsSeq3 SeqRoads2
theorem list_indexFrom (l : Addr) (items : Array Value) (n : Nat) (dd : Option Addr) (sl : Array (Option Value)) (x : Value) (e : Value → Bool) (i j : Nat) (t : Tok) (hj : j < items.size) (hij : i ≤ j) (hsmall : (j : Int) < 2 ^ 63 - 1)
    (hit : e items[j] = true) (hno : ∀ m (hm : m < items.size), i ≤ m → m < j → e items[m] = false) :
    Meets (Builtin.«list.index» ⟨[.ref l, x, .int (i : Nat) t], []⟩)
      (fun A R s => s.heap.get? l = some { cls := .type "list", dict := dd, data := .seq items n, slots := sl } ∧ (∀ y, y ∈ items → EqAt A.in1 s y x (e y)) ∧ R (.ok (.ret (.int j s.toks))) { s with toks := s.toks + 1 }) := by
  intro prog w A R s h
  obtain ⟨hp, g, d, tk, os⟩ := s; obtain ⟨hl, he, h⟩ := h
  have f1 := AutoSeq1.idx_int
  wp_walk using wpAny_loadPart' hl
  have a1 : ((fun i : Int => if i < 0 then max 0 (i + (items.size : Int)) else i) ((some ((i : Nat) : Int)).getD 0)) = ((i : Nat) : Int) := by
    show (if ((i : Nat) : Int) < 0 then _ else ((i : Nat) : Int)) = _
    exact if_neg (by omega)
  have a2 : ((fun i : Int => if i < 0 then max 0 (i + (items.size : Int)) else i) ((none : Option Int).getD (2 ^ 63 - 1))) = 2 ^ 63 - 1 := by simp
  rw [a1, a2]
  exact ⟨plainId_quiet plain_index_loop _, codeAny_builtin entry_index_loop (by
    rw [Around.under_plainId plain_index_loop _]
    exact index_loopAt l items n dd sl x e (2 ^ 63 - 1) j hj hsmall hit _ i rfl hij hno prog w A R _ ⟨hl, he, h⟩)⟩
section
variable {X : Cx}
theorem idx_at {is : List Int} {k : Int} (h : k ∈ is) : is[is.idxOf k]? = some k ∧ ∀ m : Nat, m < is.idxOf k → ∀ z, is[m]? = some z → z ≠ k := by
  refine ⟨List.getElem?_eq_some_iff.mpr ⟨List.idxOf_lt_length_of_mem h, List.getElem_idxOf _⟩, fun m hm z hz e => ?_⟩
  subst e
  induction is generalizing m with
  | nil => cases hz
  | cons a r ih =>
    cases m with
    | zero =>
      cases hz
      rw [List.idxOf_cons_self] at hm
      exact absurd hm (Nat.lt_irrefl _)
    | succ m =>
      by_cases e : a = z
      · subst e
        rw [List.idxOf_cons_self] at hm
        omega
      · rw [List.idxOf_cons, show (a == z) = false from beq_false_of_ne e] at hm
        simp only [cond_false] at hm
        have hz : r[m]? = some z := by simpa using hz
        exact ih m hz (List.mem_of_getElem? hz) (by omega)
theorem mt_ix1 : MtR X "list.index" (fun x xs H Q => ∃ (a : Addr) (is : List Int) (k : Int), x = V.ref a ∧ xs = [.int k] ∧ SqL X.K H a (is.map V.int) ∧ k ∈ is ∧ Q (.int (is.idxOf k : Nat)) H) := by
  intro pins s σ H x xs v us Q I rx rxs h
  obtain ⟨a, is, k, rfl, rfl, hs, hk, q⟩ := h
  obtain ⟨h1, h2⟩ := idx_at hk
  refine mt_index pins s σ H _ _ v us Q I rx rxs ⟨a, is.map V.int, .int k, is.idxOf k, .int k, rfl, rfl, hs, rfl, ?_, by rw [List.getElem?_map, h1]; rfl, by simp [eqV], fun m z' hm hz => ?_, q⟩
  · rw [List.all_eq_true]
    intro y hy
    obtain ⟨i, _, rfl⟩ := List.mem_map.mp hy
    rfl
  · rw [List.getElem?_map] at hz
    cases e : is[m]? with
    | none => rw [e] at hz; cases hz
    | some w =>
      rw [e] at hz
      cases hz
      have := h2 m hm w e
      simp [eqV, this]
theorem mt_ix2 : MtR X "list.index" (fun x xs H Q => ∃ (a : Addr) (is : List Int) (k : Int) (i : Nat), x = V.ref a ∧ xs = [.int k, .int (i : Nat)] ∧ SqL X.K H a (is.map V.int) ∧ k ∈ is.drop i ∧ Q (.int ((i + (is.drop i).idxOf k : Nat) : Int)) H) := by
  intro pins s σ H x xs v us Q I rx rxs h
  obtain ⟨a, is, k, i, rfl, rfl, hs, hk, q⟩ := h
  obtain ⟨h1, h2⟩ := idx_at hk
  obtain ⟨j, hj⟩ : ∃ j, j = i + (is.drop i).idxOf k := ⟨_, rfl⟩
  rw [← hj] at q
  rw [List.getElem?_drop, ← hj] at h1
  cases rx
  obtain ⟨uy, ui, rfl, ry, ri⟩ := vals2 rxs
  obtain ⟨t, rfl⟩ := ri
  obtain ⟨its, rv, ⟨⟨cls, dd, data, sl⟩, n, ho, hc, hdn, hd⟩, hlen⟩ := I.list hs
  simp only at hc hd
  subst hc hd
  have fys : (is.map V.int).all flatV = true := by
    rw [List.all_eq_true]
    intro y hy
    obtain ⟨i, _, rfl⟩ := List.mem_map.mp hy
    rfl
  have hz : (is.map V.int)[j]? = some (.int k) := by rw [List.getElem?_map, h1]; rfl
  obtain ⟨u, hu, ru⟩ := rv.get hz
  obtain ⟨hjl, hje⟩ := List.getElem?_eq_some_iff.mp hu
  have hvl := rv.length
  have hj' : j < its.toArray.size := by simpa using hjl
  have hsl := sizeLine_eq
  refine call_meets PySem.F.slot_list_index ⟨_, ho, rfl⟩ PySem.F.entry_list_index (PySem.F.args_list_index_3 _ _ _)
    (list_indexFrom a its.toArray n dd sl uy (eqU (.int k)) i j t hj' (by omega) (by omega) ?_ ?_) ⟨ho, fun u' hu' => mem_eqAt ry rfl rv fys u' (by simpa using hu'), ?_⟩
  · have e1 : its.toArray[j] = u := by simpa using hje
    rw [e1, eqU_of ru rfl]
    simp [eqV]
  · intro m hm him hmj
    have hml : m < its.length := by simpa using hm
    have hmy : m < (is.map V.int).length := by omega
    have hmi : m < is.length := by rw [List.length_map] at hmy; exact hmy
    have hy' : (is.map V.int)[m]? = some (.int is[m]) := by rw [List.getElem?_map, List.getElem?_eq_getElem hmi]; rfl
    obtain ⟨u2, hu2, ru2⟩ := rv.get hy'
    obtain ⟨_, hme⟩ := List.getElem?_eq_some_iff.mp hu2
    have e1 : its.toArray[m] = u2 := by simpa using hme
    have := h2 (m - i) (by omega) is[m] (by rw [List.getElem?_drop, show i + (m - i) = m by omega, List.getElem?_eq_getElem hmi])
    rw [e1, eqU_of ru2 rfl]
    simp [eqV, this]
  · exact ⟨.int (j : Nat), H, I.tok _, ⟨_, rfl⟩, q⟩
/-- list.index, the list and the others known (taken) -/
def rIx (K : PySem.W.Frag) : V → List V → Hp → VK → Prop := fun x xs H Q => ∃ (F : Hp) (ds : List D) (d : D), Same F H ∧ RlAll K F (x :: xs) ds ∧ Op.eval .index [.tuple ds] = some d ∧
  ∀ (v : V) (F' H' : Hp), Gro F H F' H' → EvR K F' H' H [] v (Op.index.res d) → Q v H'
theorem idx_atB {is : List Bool} {k : Bool} (h : k ∈ is) : is[is.idxOf k]? = some k ∧ ∀ m : Nat, m < is.idxOf k → ∀ z, is[m]? = some z → z ≠ k := by
  refine ⟨List.getElem?_eq_some_iff.mpr ⟨List.idxOf_lt_length_of_mem h, List.getElem_idxOf _⟩, fun m hm z hz e => ?_⟩
  subst e
  induction is generalizing m with
  | nil => cases hz
  | cons a r ih =>
    cases m with
    | zero =>
      cases hz
      rw [List.idxOf_cons_self] at hm
      exact absurd hm (Nat.lt_irrefl _)
    | succ m =>
      by_cases e : a = z
      · subst e
        rw [List.idxOf_cons_self] at hm
        omega
      · rw [List.idxOf_cons, show (a == z) = false from beq_false_of_ne e] at hm
        simp only [cond_false] at hm
        have hz : r[m]? = some z := by simpa using hz
        exact ih m hz (List.mem_of_getElem? hz) (by omega)
theorem asBools_eq : ∀ {ds : List D} {bs : List Bool}, asBools ds = some bs → ds = bs.map PyData.bool
  | [], _, h => by cases h; rfl
  | d :: ds, bs, h => by
    cases d <;> try (simp [asBools] at h; done)
    rename_i b
    simp only [asBools] at h
    split at h
    · rename_i q hq
      cases h
      rw [List.map_cons, ← asBools_eq hq]
    · cases h
theorem layB : ∀ bs : List Bool, PyData.canLayAll0 (bs.map PyData.bool) = true ∧ PyData.depthAll (bs.map PyData.bool) = 0
  | [] => by simp [PyData.canLayAll0, PyData.depthAll]
  | b :: r => by
    have := layB r
    simp [PyData.canLayAll0, PyData.depthAll, PyData.canLay0, PyData.depth, this.1, this.2]
theorem shapedB (bs : List Bool) : SeqAt.shaped (.list (bs.map PyData.bool)) = true := by
  have := layB bs
  simp [SeqAt.shaped, PyData.canLay0, PyData.depth, this.1, this.2]
theorem o_index (hu : X.A.units + 65 < cLine) : MtR X "list.index" (rIx X.K) := by
  intro pins s σ H x xs v us Q I rx rxs h
  obtain ⟨F, ds, d, S, p, e, q⟩ := h
  cases p with
  | @cons _ _ a ds pa t =>
    cases t with
    | nil => cases a <;> simp [Op.eval] at e
    | @cons _ _ b ds pb t =>
      have pa' : PR X.K F H x a := .inl pa
      have pb' : PR X.K F H _ b := .inl pb
      cases t with
      | nil =>
        cases a <;> try (simp [Op.eval] at e; done)
        rename_i ds
        cases b <;> try (simp [Op.eval] at e; done)
        case bool k =>
          simp only [Op.eval] at e
          split at e
          · rename_i bs z
            split at e
            · rename_i hk
              cases e
              obtain ⟨p, xs, rfl, hx, rx'⟩ := pa'.lst S
              cases pb'.bl
              obtain ⟨h1, h2⟩ := idx_atB hk.2
              have hds := asBools_eq z
              subst hds
              exact mt_indexD hu pins s σ H _ _ v us Q I rx rxs ⟨p, .bl k, .bool k, bs.map PyData.bool, bs.idxOf k, .bool k, rfl, rfl, pa'.dp S (shapedB bs), .bl k, shapedB bs, rfl, by rw [List.getElem?_map, h1]; rfl, by simp [PyData.eqv], fun m z' hm hz => by
                rw [List.getElem?_map] at hz
                cases e : bs[m]? with
                | none => rw [e] at hz; cases hz
                | some w =>
                  rw [e] at hz
                  cases hz
                  have := h2 m hm w e
                  cases w <;> cases k <;> simp_all [PyData.eqv], kval S q rfl (.int _)⟩
            · cases e
          · cases e
        rename_i k
        simp only [Op.eval] at e
        split at e
        · rename_i is z
          split at e
          · rename_i hk
            cases e
            obtain ⟨p, xs, rfl, hx, rx'⟩ := pa'.lst S
            rw [rx'.ints z] at hx
            cases pb'.int
            exact mt_ix1 pins s σ H _ _ v us Q I rx rxs ⟨p, is, k, rfl, rfl, hx, hk.2, kval S q rfl (.int _)⟩
          · cases e
        · cases e
      | @cons _ _ c ds pc t =>
        have pc' : PR X.K F H _ c := .inl pc
        cases t with
        | cons => cases a <;> first | (simp [Op.eval] at e; done) | (cases b <;> first | (simp [Op.eval] at e; done) | (cases c <;> simp [Op.eval] at e))
        | nil =>
          cases a <;> try (simp [Op.eval] at e; done)
          cases b <;> try (simp [Op.eval] at e; done)
          cases c <;> try (simp [Op.eval] at e; done)
          rename_i ds k i
          simp only [Op.eval] at e
          split at e
          · rename_i is z
            split at e
            · rename_i hk
              cases e
              obtain ⟨p, xs, rfl, hx, rx'⟩ := pa'.lst S
              rw [rx'.ints z] at hx
              cases pb'.int
              cases pc'.int
              obtain ⟨i, rfl⟩ := Int.eq_ofNat_of_zero_le hk.2.1
              rw [Int.toNat_natCast] at q hk
              exact mt_ix2 pins s σ H _ _ v us Q I rx rxs ⟨p, is, k, i, rfl, rfl, hx, hk.2.2, kval S q rfl (.int _)⟩
            · cases e
          · cases e
/-- list.count, the list and the other known (taken) -/
def rCt (K : PySem.W.Frag) : V → List V → Hp → VK → Prop := fun x xs H Q => ∃ (F : Hp) (ds : List D) (d : D), Same F H ∧ RlAll K F (x :: xs) ds ∧ Op.eval .count [.tuple ds] = some d ∧
  ∀ (v : V) (F' H' : Hp), Gro F H F' H' → EvR K F' H' H [] v (Op.count.res d) → Q v H'
theorem mt_countD (hu : X.A.units + 65 < cLine) {ds : List D} {d : D} (sl : SeqAt.shaped (.list ds) = true) (sd : SeqAt.shaped d = true) : MtR X "list.count" (fun x xs H Q => ∃ (a : Addr) (y : V), x = V.ref a ∧ xs = [y] ∧ Dp X.K H (V.ref a) (.list ds) ∧ Dp X.K H y d ∧ Q (.int (ds.countP (fun z => PyData.eqv z d) : Nat)) H) := by
  intro pins s σ H x xs v us Q I rx rxs h
  obtain ⟨a, y, rfl, rfl, hl, hy, q⟩ := h
  cases rx
  cases rxs with
  | cons ry rt =>
    rename_i uy ut
    cases rt
    obtain ⟨bs, r1⟩ := Dp.reads I d y uy hy ry
    have hxs : PyData.canLayAll0 ds = true := SeqAt.canLay_of_shaped sl
    have hroom : X.A.units + 1 + min (PyData.depthAll ds) d.depth < cLine := room_in_shaped sd hu
    cases hl with
    | lst hs ha =>
      obtain ⟨its, rv, ⟨⟨cls, dd, data, sls⟩, n, ho, hc, hdn, hdt⟩, hlen⟩ := I.list hs
      simp only at hc hdt
      subst hc hdt
      obtain ⟨as, h4⟩ := Dp.readsAll I ds _ its ha rv
      have hmap : its.map (SeqAt.readOf s.heap) = ds := SeqAt.readsAll_map ds its as hxs h4
      refine call_meets PySem.F.slot_list_count ⟨_, ho, rfl⟩ PySem.F.entry_list_count (PySem.F.args_list_count_2 _ _)
        (SeqAt.list_countAt a its.toArray n dd sls uy (fun u => PyData.eqv (SeqAt.readOf s.heap u) d)) ⟨ho, SeqAt.items_eqAt (vs := its.toArray) (show ReadsAll s.heap its.toArray.toList ds as from h4) r1 hxs (SeqAt.canLay_of_shaped sd) hroom, ?_⟩
      have ec : its.toArray.toList.countP (fun u => PyData.eqv (SeqAt.readOf s.heap u) d) = ds.countP (fun z => PyData.eqv z d) := by
        rw [← hmap, List.countP_map]
        rfl
      refine ⟨.int (ds.countP (fun z => PyData.eqv z d) : Nat), H, I.tok _, ⟨s.toks, ?_⟩, q⟩
      show Value.int ((its.toArray.toList.countP (fun u => PyData.eqv (SeqAt.readOf s.heap u) d) : Nat) : Int) s.toks = _
      rw [ec]
theorem o_count (hu : X.A.units + 65 < cLine) : MtR X "list.count" (rCt X.K) := by
  intro pins s σ H x xs v us Q I rx rxs h
  obtain ⟨F, ds, d, S, p, e, q⟩ := h
  cases p with
  | @cons _ _ a ds pa t =>
    cases t with
    | nil => cases a <;> simp [Op.eval] at e
    | @cons _ _ b ds pb t =>
      cases t with
      | cons => cases a <;> simp [Op.eval] at e
      | nil =>
        cases a <;> try (simp [Op.eval] at e; done)
        rename_i ds
        simp only [Op.eval] at e
        split at e
        · rename_i z
          rw [Bool.and_eq_true] at z
          cases e
          obtain ⟨p, xs, rfl, hx, rx'⟩ := PR.lst S (show PR X.K F H _ _ from .inl pa)
          exact mt_countD hu z.1 z.2 pins s σ H _ _ v us Q I rx rxs ⟨p, _, rfl, rfl, PR.dp S z.1 (.inl pa), PR.dp S z.2 (.inl pb), kval S q rfl (.int _)⟩
        · cases e
end
end Tw

set_option linter.all false
set_option maxRecDepth 100000
set_option maxHeartbeats 8000000
set_option autoImplicit false
/-! dict(pairs). -/
namespace Tw
open PySem PySem.Spec PyProof.Rows L2
section
variable {X : Cx}
theorem pairs_of {K : PySem.W.Frag} {F H : Hp} (S : Same F H) : ∀ {xs : List V} {ds : List D} {kvs : List (D × D)}, RlAll K F xs ds → pairsOf ds = some kvs →
    ∃ (ps : List Addr) (ks : List (Key × V)), xs = ps.map V.ref ∧ Paired (fun p kv => SqT K H p [kV kv.1, kv.2]) ps ks ∧ RlKv K F ks kvs
  | _, [], kvs, .nil, h => by
    cases h
    exact ⟨[], [], rfl, .nil, .nil⟩
  | _, d :: ds, kvs, .cons hv t, h => by
    unfold pairsOf at h
    split at h
    · rename_i e
      cases e
    · rename_i k v r e
      cases e
      split at h
      · rename_i hk
        split at h
        · rename_i q hq
          cases h
          obtain ⟨ps, ks, e1, p1, r1⟩ := pairs_of S t hq
          cases hv with
          | @tup a xs ds hS hr =>
            cases hr with
            | @cons vk vs dk dks hkk hr =>
              cases hr with
              | @cons vv vs2 dv dvs hvv hr2 =>
                cases hr2
                have : ∃ q : Key, kD q = k ∧ vk = kV q := by
                  cases hkk with
                  | int i => exact ⟨.inl i, rfl, rfl⟩
                  | str i => exact ⟨.inr i, rfl, rfl⟩
                  | _ => cases hk
                obtain ⟨q, e2, rfl⟩ := this
                exact ⟨a :: ps, (q, vv) :: ks, by rw [e1]; rfl, .cons (.inl (.inl (S _ _ hS))) p1, .cons e2 hvv r1⟩
        · cases h
      · cases h
    · cases h
theorem RlKv.mergeD {K : PySem.W.Frag} {F : Hp} : ∀ {more : List (Key × V)} {em : List (D × D)} {ks : List (Key × V)} {kvs : List (D × D)}, RlKv K F more em → RlKv K F ks kvs → RlKv K F (mergeK ks more) (mergeUp kvs em)
  | _, _, _, _, .nil, h => h
  | _, _, _, _, .cons q hv t, h => by
    subst q
    show RlKv K F (mergeK (L2.putK _ _ _) _) (mergeUp (Tw.putK _ _ _) _)
    exact RlKv.mergeD t (h.put hv)
theorem o_dpairs (hc : X.calm = true) : CallR X (.type "dict") (rDn X.K .dpairs) := by
  intro pins s σ H xs us Q I r h
  obtain ⟨F, ds, d, S, p, e, q⟩ := h
  cases p with
  | nil => simp [Op.eval] at e
  | @cons v vs a ds pa t =>
    cases t with
    | cons => cases a <;> simp [Op.eval] at e
    | nil =>
      cases a <;> try (simp [Op.eval] at e; done)
      case list ds =>
        simp only [Op.eval] at e
        split at e
        · rename_i kvs z
          split at e
          · cases e
            obtain ⟨p, xs, rfl, hx, rx'⟩ := pa.lst S
            obtain ⟨ps, ks, rfl, pp, rk⟩ := pairs_of S rx' z
            refine call_dictP hc pins s σ H _ us Q I r ⟨p, ps, ks, rfl, hx, pp, fun p2 hp => ?_⟩
            obtain ⟨g, fp⟩ := Gro.own (o := .dK (mergeK [] ks)) S hp
            refine q _ F _ g ?_
            exact ⟨.dic upd_same fp (RlKv.mergeD rk .nil), fun a e => by cases e; exact hp⟩
          · cases e
        · cases e
end
end Tw

set_option linter.all false
set_option maxRecDepth 100000
set_option maxHeartbeats 4000000
set_option autoImplicit false
/-! What is walked; readings of the small language. -/
namespace Tw
open PySem PySem.Spec PyProof.Rows L2

/-- an iterator gives these items, one by one, whatever is done meanwhile to what is not frozen -/
def IterOk (K : PySem.W.Frag) (F : Hp) (ds : List D) (J : It) : Prop := ∃ (G : Hp → Prop) (Y : Nat → Hp → V → Hp → Prop), Walk J ds.length G Y ∧ (∀ H2, Same F H2 → G H2) ∧
  ∀ (i : Nat) (H2 : Hp) (x : V) (H3 F2 : Hp), i < ds.length → Same F F2 → Same F2 H2 → Y i H2 x H3 → ∃ F3, Gro F2 H2 F3 H3 ∧ ∀ d, ds[i]? = some d → Rl K F3 x d
section
variable {K : PySem.W.Frag} {F : Hp}
theorem iter_list {a : Addr} {xs : List V} {ds : List D} (h : SqL K F a xs) (r : RlAll K F xs ds) : IterOk K F ds (Itl K a) := by
  refine ⟨_, _, by rw [← r.length]; exact walk_list (xs := xs), fun H2 S => S.seq h, fun i H2 x H3 F2 hi S1 S2 y => ?_⟩
  obtain ⟨rfl, hx⟩ := y
  refine ⟨F2, .refl S2, fun d hd => ?_⟩
  obtain ⟨v, h1, h2⟩ := r.get hd
  rw [hx] at h1
  cases h1
  exact h2.up S1
theorem iter_tup {a : Addr} {xs : List V} {ds : List D} (h : SqT K F a xs) (r : RlAll K F xs ds) : IterOk K F ds (Itt K a) := by
  refine ⟨_, _, by rw [← r.length]; exact walk_tup (xs := xs), fun H2 S => Same.seqT S h, fun i H2 x H3 F2 hi S1 S2 y => ?_⟩
  obtain ⟨rfl, hx⟩ := y
  refine ⟨F2, .refl S2, fun d hd => ?_⟩
  obtain ⟨v, h1, h2⟩ := r.get hd
  rw [hx] at h1
  cases h1
  exact h2.up S1
theorem RlKv.get {ks : List (Key × V)} {kvs : List (D × D)} (h : RlKv K F ks kvs) : ∀ {i : Nat} {k : Key} {v : V}, ks[i]? = some (k, v) → (kvs.map Prod.fst)[i]? = some (kD k) := by
  induction ks generalizing kvs with
  | nil => intro i k v e; simp at e
  | cons p r ih =>
    cases h with
    | cons q h t =>
      subst q
      intro i k v e
      cases i with
      | zero =>
        simp only [List.getElem?_cons_zero, Option.some.injEq, Prod.mk.injEq] at e
        obtain ⟨rfl, rfl⟩ := e
        rfl
      | succ i =>
        rw [List.getElem?_cons_succ] at e
        rw [List.map_cons, List.getElem?_cons_succ]
        exact ih t e
theorem rl_key {k : Key} : Rl K F (kV k) (kD k) := by
  cases k
  · exact .int _
  · exact .str _
theorem iter_dict {a : Addr} {o : Obj} {ks : List (Key × V)} {kvs : List (D × D)} (h : F a = some (.frz o (.dK ks))) (r : RlKv K F ks kvs) : IterOk K F (kvs.map Prod.fst) (Itk a o ks) := by
  refine ⟨_, _, by rw [List.length_map, ← r.length]; exact walk_keys (kvs := ks), fun H2 S => S _ _ h, fun i H2 x H3 F2 hi S1 S2 y => ?_⟩
  obtain ⟨rfl, k, v, hk, rfl⟩ := y
  refine ⟨F2, .refl S2, fun d hd => ?_⟩
  rw [r.get hk] at hd
  cases hd
  exact rl_key
theorem iter_str {z : Str} : IterOk K F (z.cps.toList.map fun c => .str ⟨#[c]⟩) (Its z) := by
  have e : (z.cps.toList.map fun c => (PyData.str ⟨#[c]⟩ : D)).length = z.cps.size := by simp
  refine ⟨_, _, by rw [e]; exact walk_str, fun _ _ => trivial, fun i H2 x H3 F2 hi S1 S2 y => ?_⟩
  obtain ⟨rfl, c, hc, rfl⟩ := y
  refine ⟨F2, .refl S2, fun d hd => ?_⟩
  rw [List.getElem?_map] at hd
  have : z.cps.toList[i]? = some c := by simpa using hc
  rw [this] at hd
  cases hd
  exact .str _
theorem iter_range {lo : Int} {n : Nat} : IterOk K F ((List.range n).map fun i => .int (lo + (i : Nat))) (Itr lo n) := by
  have e : ((List.range n).map fun i => (PyData.int (lo + (i : Nat)) : D)).length = n := by simp
  refine ⟨_, _, by rw [e]; exact walk_range, fun _ _ => trivial, fun i H2 x H3 F2 hi S1 S2 y => ?_⟩
  obtain ⟨rfl, rfl⟩ := y
  refine ⟨F2, .refl S2, fun d hd => ?_⟩
  rw [e] at hi
  rw [List.getElem?_map, List.getElem?_range hi] at hd
  cases hd
  exact .int _
theorem iter_rangeC {lo c : Int} {n : Nat} : IterOk K F ((List.range n).map fun i => .int (lo + (i : Nat) * c)) (Itc lo c n) := by
  have e : ((List.range n).map fun i => (PyData.int (lo + (i : Nat) * c) : D)).length = n := by simp
  refine ⟨_, _, by rw [e]; exact walk_rangeC, fun _ _ => trivial, fun i H2 x H3 F2 hi S1 S2 y => ?_⟩
  obtain ⟨rfl, rfl⟩ := y
  refine ⟨F2, .refl S2, fun d hd => ?_⟩
  rw [e] at hi
  rw [List.getElem?_map, List.getElem?_range hi] at hd
  cases hd
  exact .int _
end

/-! ### readings -/
section
variable (K : PySem.W.Frag) (T : List Fn)
/-- an expression -/
def tM (m : ME) : TE := fun σ H Q => ∃ (F : Hp) (s : En) (e : EV) (s' : En), ER K F H σ s ∧ evalE T m s = some (e, s') ∧
  ∀ (v : V) (F' H' : Hp), RS K F H σ s F' H' σ s' → EvR K F' H' H σ v e → Q v H'
/-- an expression, taken -/
def tD (m : ME) : TE := fun σ H Q => ∃ (F : Hp) (s : En) (e : EV) (s1 : En) (d : D) (s' : En), ER K F H σ s ∧ evalE T m s = some (e, s1) ∧ e.take s1 = some (d, s') ∧
  ∀ (v : V) (F' H' : Hp), RS K F H σ s F' H' σ s' → Rl K F' v d → Q v H'
/-- a test -/
def tQ (m : ME) : TT := fun σ H Q => ∃ (F : Hp) (s : En) (b : Bool) (s' : En), ER K F H σ s ∧ evalE T m s = some (.sh (.bool b), s') ∧
  ∀ (F' H' : Hp), RS K F H σ s F' H' σ s' → Q b H'
/-- arguments' values -/
inductive EvRs (F H H0 : Hp) (σ : Sl) : List V → List EV → Prop
  | nil : EvRs F H H0 σ [] []
  | cons {v : V} {vs : List V} {e : EV} {es : List EV} (h : EvR K F H H0 σ v e) (t : EvRs F H H0 σ vs es) : EvRs F H H0 σ (v :: vs) (e :: es)
/-- the new things among them are different ones -/
def TmpsOk : List V → List EV → Prop
  | v :: vs, .own _ :: es => v ∉ tmps vs es ∧ TmpsOk vs es
  | _ :: vs, _ :: es => TmpsOk vs es
  | _, _ => True
where tmps : List V → List EV → List V
  | v :: vs, .own _ :: es => v :: tmps vs es
  | _ :: vs, _ :: es => tmps vs es
  | _, _ => []
def tE (as : MEs) : TA := fun σ H Q => ∃ (F : Hp) (s : En) (es : List EV) (s' : En), ER K F H σ s ∧ evalEs T as s = some (es, s') ∧
  ∀ (vs : List V) (F' H' : Hp), RS K F H σ s F' H' σ s' → EvRs K F' H' H σ vs es → TmpsOk vs es → Q vs H'
def tT (as : MEs) : TA := fun σ H Q => ∃ (F : Hp) (s : En) (ds : List D) (s' : En), ER K F H σ s ∧ evalTs T as s = some (ds, s') ∧
  ∀ (vs : List V) (F' H' : Hp), RS K F H σ s F' H' σ s' → RlAll K F' vs ds → Q vs H'
def tI (it : MI) : TI := fun σ H R => ∃ (F : Hp) (s : En) (ds : List D) (s' : En), ER K F H σ s ∧ evalI T it s = some (ds, s') ∧
  ∀ (J : It) (F' H' : Hp), RS K F H σ s F' H' σ s' → IterOk K F' ds J → R J H'
end

section
variable {X : Cx} {T : List Fn}
theorem PE.weak {e : Expr} {t t' : TE} (h : PE X e t) (i : ∀ σ H Q, t' σ H Q → t σ H Q) : PE X e t' := ⟨fun pins s σ H Q I q => h.run pins s σ H Q I (i σ H Q q)⟩
theorem PT.weak {e : Expr} {t t' : TT} (h : PT X e t) (i : ∀ σ H Q, t' σ H Q → t σ H Q) : PT X e t' := ⟨fun pins s σ H Q I q => h.run pins s σ H Q I (i σ H Q q)⟩
theorem PA.weak {e : List Expr} {t t' : TA} (h : PA X e t) (i : ∀ σ H Q, t' σ H Q → t σ H Q) : PA X e t' := ⟨fun pos pins s σ H Q I q => h.run pos pins s σ H Q I (i σ H Q q)⟩
theorem PI.weak {tg e : Expr} {t t' : TI} (h : PI X tg e t) (i : ∀ σ H Q, t' σ H Q → t σ H Q) : PI X tg e t' := ⟨fun pins s σ H Q I q => h.run pins s σ H Q I (i σ H Q q)⟩
theorem PS.weak {e : Stmt} {t t' : TS} (h : PS X e t) (i : ∀ D σ H, t' D σ H → t D σ H) : PS X e t' := ⟨fun pins s σ H D I q => h.run pins s σ H D I (i D σ H q)⟩
theorem PSs.weak {e : List Stmt} {t t' : TS} (h : PSs X e t) (i : ∀ D σ H, t' D σ H → t D σ H) : PSs X e t' := ⟨fun pins s σ H D I q => h.run pins s σ H D I (i D σ H q)⟩
theorem PG.weak {e : Expr} {t t' : TG} (h : PG X e t) (i : ∀ v σ H Q, t' v σ H Q → t v σ H Q) : PG X e t' := ⟨fun pins s σ H v u Q I r q => h.run pins s σ H v u Q I r (i v σ H Q q)⟩
variable {K : PySem.W.Frag}
theorem tD_of {m : ME} {σ : Sl} {H : Hp} {Q : VK} (h : tD K T m σ H Q) : tM K T m σ H Q := by
  obtain ⟨F, s, e, s1, d, s', er, ev, tk, q⟩ := h
  refine ⟨F, s, e, s1, er, ev, fun v F' H' x r => ?_⟩
  obtain ⟨F2, x2, r2⟩ := r.take x tk
  exact q v F2 H' x2 r2
theorem tQ_of {m : ME} {σ : Sl} {H : Hp} {Q : Bool → Hp → Prop} (h : tQ K T m σ H Q) : tB (tM K T m) σ H Q := by
  obtain ⟨F, s, b, s', er, ev, q⟩ := h
  refine ⟨F, s, _, s', er, ev, fun v F' H' x r => ?_⟩
  cases r
  exact ⟨b, rfl, q F' H' x⟩
theorem RS.notOwn {F H F1 H1 : Hp} {σ : Sl} {s s1 : En} (x : RS K F H σ s F1 H1 σ s1) : ∀ a, OwnA σ s1 a → H a ≠ none := fun a ⟨i, h⟩ => x.e0.ownA ⟨i, x.sub i a h⟩
/-- two handles, one behind the other -/
theorem two {a b : ME} {o : Op} {σ : Sl} {H : Hp} {Q : VK} (h : tM K T (.op o (.cons a (.cons b .nil))) σ H Q) : tOp (rD2 K o) (tM K T a) (tM K T b) σ H Q := by
  obtain ⟨F, s, e, s', er, ev, q⟩ := h
  simp only [evalE, evalEs] at ev
  cases ea : evalE T a s with
  | none => rw [ea] at ev; simp at ev
  | some p =>
    obtain ⟨e1, s1⟩ := p
    rw [ea] at ev
    simp only at ev
    cases eb : evalE T b s1 with
    | none => rw [eb] at ev; simp at ev
    | some p =>
      obtain ⟨e2, s2⟩ := p
      rw [eb] at ev
      simp only [lookAll] at ev
      cases l1 : e1.look s2 with
      | none => rw [l1] at ev; simp at ev
      | some d1 =>
        rw [l1] at ev
        simp only at ev
        cases l2 : e2.look s2 with
        | none => rw [l2] at ev; simp at ev
        | some d2 =>
          rw [l2] at ev
          simp only at ev
          cases eo : o.eval [d1, d2] with
          | none => rw [eo] at ev; simp at ev
          | some d =>
            rw [eo] at ev
            simp only [Option.some.injEq, Prod.mk.injEq] at ev
            obtain ⟨rfl, rfl⟩ := ev
            refine ⟨F, s, e1, s1, er, ea, fun x F1 H1 x1 r1 => ⟨F1, s1, e2, s2, x1.er, eb, fun y F2 H2 x2 r2 => ?_⟩⟩
            have r1' := r1.carry x2 x1.notOwn
            refine ⟨F2, [d1, d2], d, x2.er.fh, .cons (r1'.peek x2.er l1) (.cons (r2.peek x2.er l2) .nil), eo, fun v F3 H3 g r3 => ?_⟩
            refine q v F3 H3 ((x1.trans x2).trans (.gro g x2.er)) ?_
            exact EvR.base (by unfold Op.res at r3; split at r3 <;> rename_i z <;> simp only [z, if_true, if_false, Bool.false_eq_true] <;> exact r3) fun b hb => x1.st.dom b (x2.st.dom b hb)
theorem one {a : ME} {o : Op} {σ : Sl} {H : Hp} {Q : VK} (h : tM K T (.op o (.cons a .nil)) σ H Q) : tUn (rD1 K o) (tM K T a) σ H Q := by
  obtain ⟨F, s, e, s', er, ev, q⟩ := h
  simp only [evalE, evalEs] at ev
  cases ea : evalE T a s with
  | none => rw [ea] at ev; simp at ev
  | some p =>
    obtain ⟨e1, s1⟩ := p
    rw [ea] at ev
    simp only [lookAll] at ev
    cases l1 : e1.look s1 with
    | none => rw [l1] at ev; simp at ev
    | some d1 =>
      rw [l1] at ev
      simp only at ev
      cases eo : o.eval [d1] with
      | none => rw [eo] at ev; simp at ev
      | some d =>
        rw [eo] at ev
        simp only [Option.some.injEq, Prod.mk.injEq] at ev
        obtain ⟨rfl, rfl⟩ := ev
        refine ⟨F, s, e1, s1, er, ea, fun x F1 H1 x1 r1 => ?_⟩
        refine ⟨F1, [d1], d, x1.er.fh, .cons (r1.peek x1.er l1) .nil, eo, fun v F3 H3 g r3 => ?_⟩
        refine q v F3 H3 (x1.trans (.gro g x1.er)) ?_
        exact EvR.base (by unfold Op.res at r3; split at r3 <;> rename_i z <;> simp only [z, if_true, if_false, Bool.false_eq_true] <;> exact r3) fun b hb => x1.st.dom b hb
/-- many -/
theorem EvRs.look {F H H0 : Hp} {σ : Sl} {s : En} (r : ER K F H σ s) : ∀ {vs : List V} {es : List EV} {ds : List D}, EvRs K F H H0 σ vs es → lookAll es s = some ds → PRs K F H vs ds
  | _, _, _, .nil, h => by cases h; exact .nil
  | _, _, ds, .cons (e := e) (es := es) h t, l => by
    simp only [lookAll] at l
    cases l1 : e.look s with
    | none => rw [l1] at l; simp at l
    | some d1 =>
      rw [l1] at l
      simp only at l
      cases l2 : lookAll es s with
      | none => rw [l2] at l; simp at l
      | some d2 =>
        rw [l2] at l
        cases l
        exact .cons (h.peek r l1) (EvRs.look r t l2)
theorem many {as : MEs} {o : Op} {σ : Sl} {H : Hp} {Q : VK} (h : tM K T (.op o as) σ H Q) : tE K T as σ H fun vs H1 => rDn K o vs H1 Q := by
  obtain ⟨F, s, e, s', er, ev, q⟩ := h
  simp only [evalE] at ev
  cases ea : evalEs T as s with
  | none => rw [ea] at ev; simp at ev
  | some p =>
    obtain ⟨es, s1⟩ := p
    rw [ea] at ev
    simp only at ev
    cases l1 : lookAll es s1 with
    | none => rw [l1] at ev; simp at ev
    | some ds =>
      rw [l1] at ev
      simp only at ev
      cases eo : o.eval ds with
      | none => rw [eo] at ev; simp at ev
      | some d =>
        rw [eo] at ev
        simp only [Option.some.injEq, Prod.mk.injEq] at ev
        obtain ⟨rfl, rfl⟩ := ev
        refine ⟨F, s, es, s1, er, ea, fun vs F1 H1 x1 r1 _ => ?_⟩
        refine ⟨F1, ds, d, x1.er.fh, r1.look x1.er l1, eo, fun v F3 H3 g r3 => ?_⟩
        refine q v F3 H3 (x1.trans (.gro g x1.er)) ?_
        exact EvR.base (by unfold Op.res at r3; split at r3 <;> rename_i z <;> simp only [z, if_true, if_false, Bool.false_eq_true] <;> exact r3) fun b hb => x1.st.dom b hb
end
end Tw

set_option linter.all false
set_option maxRecDepth 100000
set_option maxHeartbeats 4000000
set_option autoImplicit false
/-! enumerate and zip of lists and tuples. -/
namespace Tw
open PySem PySem.Spec PyProof.Rows L2

/-- a list (true) or a tuple (false) -/
def SqB (b : Bool) (K : PySem.W.Frag) (H : Hp) (a : Addr) (xs : List V) : Prop := if b then SqL K H a xs else SqT K H a xs
def IsB (b : Bool) (h : Heap) (a : Addr) (its : Array Value) : Prop := if b then h.IsList a its else h.IsTuple a its
def ItB (b : Bool) (h : Heap) (it a : Addr) (i : Nat) : Prop := if b then h.IsListIter it a i else h.IsTupleIter it a i
section
variable {X : Cx} {pins : List (Addr × Obj)} {σ : L2.St} {H : Hp} {s : Shared} {a : Addr} {xs ys : List V} {b : Bool}
theorem Inv.sqB (I : Inv X pins σ H s) (h : SqB b X.K H a xs) : ∃ its : List Value, Vals xs its ∧ IsB b s.heap a its.toArray ∧ xs.length ≤ sizeLine := by
  cases b with
  | true =>
    obtain ⟨its, r, p, z⟩ := I.list (show SqL X.K H a xs from h)
    exact ⟨its, r, p.isList, z⟩
  | false =>
    obtain ⟨its, r, p, z⟩ := I.tuple (show SqT X.K H a xs from h)
    exact ⟨its, r, (show s.heap.IsTuple a its.toArray from p), z⟩
theorem Inv.sqB_inj (I : Inv X pins σ H s) (h : SqB b X.K H a xs) (h2 : SqB b X.K H a ys) : xs = ys := by
  cases b with
  | true => exact I.list_inj (show SqL X.K H a xs from h) h2
  | false => exact I.tuple_inj (show SqT X.K H a xs from h) h2
theorem ItB.at {h h' : Heap} {it a : Addr} {i : Nat} (x : ItB b h it a i) (e : ∀ o, h.get? it = some o → h'.get? it = some o) : ItB b h' it a i := by
  cases b with
  | true => exact Heap.IsListIter.at (show h.IsListIter it a i from x) e
  | false => exact Heap.IsTupleIter.at (show h.IsTupleIter it a i from x) e
theorem ItB.obj {h : Heap} {it a : Addr} {i : Nat} (x : ItB b h it a i) : ∃ o, h.get? it = some o ∧ o.cls = .type (if b then "list_iterator" else "tuple_iterator") ∧ ∀ v, o.data ≠ .cell v := by
  cases b with
  | true =>
    obtain ⟨o, h1, h2, h3⟩ := (show h.IsListIter it a i from x)
    exact ⟨o, h1, h2, fun v z => by rw [h3] at z; cases z⟩
  | false =>
    obtain ⟨o, h1, h2, h3⟩ := (show h.IsTupleIter it a i from x)
    exact ⟨o, h1, h2, fun v z => by rw [h3] at z; cases z⟩
theorem IsB.obj {h : Heap} {a : Addr} {its : Array Value} (x : IsB b h a its) : ∃ o, h.get? a = some o ∧ o.cls = .type (if b then "list" else "tuple") := by
  cases b with
  | true =>
    obtain ⟨o, h1, h2, _⟩ := (show h.IsList a its from x)
    exact ⟨o, h1, h2⟩
  | false =>
    obtain ⟨o, h1, h2, _⟩ := (show h.IsTuple a its from x)
    exact ⟨o, h1, h2⟩
theorem IsB.ne_it {h : Heap} {a it c : Addr} {i : Nat} {its : Array Value} {b' : Bool} (x : IsB b h a its) (y : ItB b' h it c i) : a ≠ it := fun z => by
  subst z
  obtain ⟨o, h1, h2⟩ := x.obj
  obtain ⟨o', h3, h4, _⟩ := y.obj
  rw [h1] at h3
  cases h3
  rw [h2] at h4
  cases b <;> cases b' <;> exact absurd h4 (by simp)
theorem IsB.ne_cls {h : Heap} {a e : Addr} {o : Obj} {its : Array Value} (x : IsB b h a its) (y : h.get? e = some o) (hc : o.cls ≠ .type "list" ∧ o.cls ≠ .type "tuple") : e ≠ a := fun z => by
  subst z
  obtain ⟨o', h1, h2⟩ := x.obj
  rw [y] at h1
  cases h1
  cases b
  · exact hc.2 h2
  · exact hc.1 h2
theorem ItB.draws {prog : Program} {w : World} {A : Around} (hh : A.handled = none) (it l : Addr) (hne : l ≠ it) (items : Array Value) :
    Draws prog w A it [it, l] items.size (fun i v => items[i]? = some v) (fun i h => ItB b h it l i ∧ IsB b h l items) := by
  cases b with
  | true => exact Draws.list hh it l hne items
  | false => exact Draws.tuple hh it l hne items
end
/-! ### enumerate -/
def IteB (b : Bool) (K : PySem.W.Frag) (a : Addr) : It :=
  ⟨fun i H => ∃ (xs : List V) (x : V), SqB b K H a xs ∧ xs[i]? = some x, fun i H v H' => ∃ T x, v = .ref T ∧ H T = none ∧ H' = upd H T (.tup [.int (i : Nat), x]) ∧ ∀ xs, SqB b K H a xs → xs[i]? = some x, fun i H => ∃ xs : List V, SqB b K H a xs ∧ xs.length = i⟩
theorem turn_enumB {P : Program} {w : World} {K : PySem.W.Frag} {elts : List Expr} {kk : Nat} {tpos : Pos} (b : Bool) (a e it : Addr) :
    Turn P w K (.Tuple elts kk tpos) (IteB b K a) [e, it] e (fun i h => (∃ old, IsEnum h e it ((i : Nat) : Int) old) ∧ ItB b h it a i ∧ e ≠ it) where
  mem := by simp
  obj := fun i h st c hc => by
    obtain ⟨⟨old, he⟩, hi, _⟩ := st
    have e' : c = e ∨ c = it := by simpa using hc
    rcases e' with z | z
    · rw [z]; exact ⟨_, he, fun v q => nomatch q⟩
    · rw [z]
      obtain ⟨o, h1, _, h2⟩ := hi.obj
      exact ⟨o, h1, h2⟩
  keep := fun i h h' st k => let ⟨⟨old, he⟩, hi, hne⟩ := st; ⟨⟨old, k e (by simp) _ he⟩, hi.at fun o q => k it (by simp) o q, hne⟩
  item := by
    intro X hP hw hK hc i pins s σ H E I hf st hg
    subst hP hw hK
    obtain ⟨⟨old, he⟩, hit, hne⟩ := st
    obtain ⟨xs, x, hq, hx⟩ := hg
    obtain ⟨its, rv, p, hz⟩ := Inv.sqB I hq
    obtain ⟨u, hu, ru⟩ := rv.get hx
    have hel : e < s.heap.objs.size := Heap.lt_size he
    have hil : it < s.heap.objs.size := by obtain ⟨_, q, _⟩ := hit.obj; exact Heap.lt_size q
    have hea : e ≠ a := p.ne_cls he ⟨by simp, by simp⟩
    have hlt : i < its.toArray.size := by
      have := (List.getElem?_eq_some_iff.mp hu).1
      simpa using this
    refine wpAny_pyNext_enum_itemD (ItB.draws (b := b) (A := X.A.in1) (I.ok.hd hc) it a (p.ne_it hit) its.toArray) he ⟨hit, p⟩ hlt hne (by simp [hne, hea]) fun x' h' tk hx' ho hit' hT hsz hk => ?_
    have hux : x' = u := by
      have : its[i]? = some x' := by simpa using hx'
      rw [hu] at this
      exact (Option.some.inj this).symm
    subst hux
    refine ⟨_, rfl, wpAny_letOwnedTupleGo_enum (s := { s with heap := h', toks := tk + 1 }) ho fun h'' he' sb => ?_⟩
    have hT2 : h''.get? s.heap.objs.size = some { cls := .type "tuple", data := .seq #[.int i tk, x'] } := (sb.2 _ (Nat.ne_of_gt hel)).trans hT
    have new : ObjOk X.prog X.w (upd H s.heap.objs.size (.tup [.int (i : Nat), x])) h'' s.heap.objs.size (.tup [.int (i : Nat), x]) :=
      ⟨by show 2 ≤ sizeLine; decide, [.int i tk, x'], .cons ⟨_, rfl⟩ (.cons ru .nil), ⟨_, hT2, rfl, _, rfl⟩⟩
    have I1 : Inv X pins σ (upd H s.heap.objs.size (.tup [.int (i : Nat), x])) { s with heap := h'', toks := tk + 1 } :=
      I.turnedNew (ch := [e, it]) (fun c ob hb q => (sb.2 c (fun z => hb (by simp [z]))).trans (hk c ob (fun z => hb (by simp [z])) (fun z => hb (by simp [z])) q)) hf (Nat.le_refl _) new
    refine ⟨.ref s.heap.objs.size, _, I1, rfl, ⟨_, x, rfl, I.hok.fresh (Nat.le_refl _), rfl, fun ys hy => by rw [Inv.sqB_inj I hy hq]; exact hx⟩, ⟨⟨x', ?_⟩, hit'.1.at fun o q => (sb.2 it (Ne.symm hne)).trans q, hne⟩, fun c hb => ?_⟩
    · have e1 : ((i + 1 : Nat) : Int) = (i : Int) + 1 := by omega
      rw [e1]; exact he'
    · have hb' : c < s.heap.objs.size := by
        have e' : c = e ∨ c = it := by simpa using hb
        rcases e' with z | z
        · rw [z]; exact hel
        · rw [z]; exact hil
      rw [upd_ne (Nat.ne_of_lt hb')]
      exact (hf c hb).1
  done := by
    intro X hP hw hK hc i pins s σ H E I hf st hg
    subst hP hw hK
    obtain ⟨⟨old, he⟩, hit, hne⟩ := st
    obtain ⟨xs, hq, hx⟩ := hg
    obtain ⟨its, rv, p, hz⟩ := Inv.sqB I hq
    obtain ⟨f0, f1, f2, f3, f4, f5⟩ := hf it (by simp)
    have hl := rv.length
    have hn : its.toArray.size = i := by rw [List.size_toArray, ← hl, hx]
    have st : ItB b s.heap it a its.toArray.size ∧ IsB b s.heap a its.toArray := ⟨by rw [hn]; exact hit, p⟩
    exact wpAny_pyNext_enum_endD (ItB.draws (b := b) (A := X.A.in1) (I.ok.hd hc) it a (p.ne_it hit) its.toArray) he st fun h' eb => ⟨rfl, I.turned (t' := s.toks) (fun c o hb q => eb c o hb q) f0 f1 f3 f4 f5⟩
  self := fun A i s Q E st h => let ⟨⟨_, he⟩, _⟩ := st; wpAny_pyIter_enum he h
theorem meets_enumB {v : Value} {o : Obj} {H : Heap → Prop} (B : Begins v o H) :
    Meets (Builtin.«enumerate.__new__» ⟨[.type "enumerate", v], []⟩) (fun _ R s => H s.heap ∧
      R (.ok (.ret (.ref (s.heap.push o).objs.size))) { s with heap := (s.heap.push o).push { cls := .type "enumerate", data := .fields #[.none, .bool false, .ref s.heap.objs.size, rawInt 0, .none, .none] } }) :=
  .of_wp fun prog w A R s h => by
    obtain ⟨hp, g, d, tk, os⟩ := s; obtain ⟨h1, h⟩ := h
    have hsub := sub_enumerate
    have q1 : ∀ {A' : Around} {E : Value → Shared → Prop} {Q : Value → Shared → Prop}, Q (.ref hp.objs.size) ⟨hp.push o, g, d, tk, os⟩ → wpAny (model prog w) A' (pyIter v) Q E ⟨hp, g, d, tk, os⟩ :=
      fun q => B.iter prog w _ _ ⟨hp, g, d, tk, os⟩ _ h1 q
    wp_walk using q1
    refine wpAny_stack_any fun st => wpAny_pure ?_
    split
    · rename_i c _ _ _ _ _
      cases (c == Value.type "enumerate")
      · wp_walk using q1
        exact ⟨_, rfl, h⟩
      · wp_walk using q1
        exact ⟨_, rfl, h⟩
    · wp_walk using q1
      exact ⟨_, rfl, h⟩
section
variable {prog : Program} {w : World} {A : Around} {E : Value → Shared → Prop} {s : Shared}
theorem call_enumB {v : Value} {o : Obj} {H : Heap → Prop} {Q : Value → Shared → Prop} (B : Begins v o H) (h1 : H s.heap)
    (h : ∀ h', IsEnum h' (s.heap.objs.size + 1) s.heap.objs.size 0 .none → h'.get? s.heap.objs.size = some o → h'.objs.size = s.heap.objs.size + 2 →
      (∀ b o, s.heap.get? b = some o → h'.get? b = some o) → Q (.ref (s.heap.objs.size + 1)) { s with heap := h' }) :
    wpAny (model prog w) A (call (.type "enumerate") [v]) Q E s := by
  refine callType_new F.called_enumerate (by decide) (F.typeCall_enumerate_1 _) (F.newCall_enumerate_1 _) (fun obj => F.args_object_init_2 obj _) F.entry_enumerate_new
    (meets_enumB B) ⟨h1, ?_⟩
  have hz : (s.heap.push o).objs.size = s.heap.objs.size + 1 := Heap.size_push ..
  show _ ∧ _
  rw [hz]
  have he : IsEnum ((s.heap.push o).push { cls := .type "enumerate", data := .fields #[.none, .bool false, .ref s.heap.objs.size, rawInt 0, .none, .none] }) (s.heap.objs.size + 1) s.heap.objs.size 0 .none := by
    have := Heap.get?_push_size (s.heap.push o) (o := { cls := .type "enumerate", data := .fields #[.none, .bool false, .ref s.heap.objs.size, rawInt 0, .none, .none] }) rfl
    rw [hz] at this; exact this
  refine ⟨⟨_, he, rfl⟩, h _ he (Heap.get?_push_of_some _ (Heap.get?_push_size _ B.free)) (by rw [Heap.size_push, hz]) fun b o x => Heap.get?_push_of_some _ (Heap.get?_push_of_some _ x)⟩
end
def begO (b : Bool) (a : Addr) : Obj := { cls := .type (if b then "list_iterator" else "tuple_iterator"), data := .fields #[.ref a, .int 0 0] }
theorem beginsB (b : Bool) (a : Addr) (items : Array Value) : Begins (.ref a) (begO b a) fun h => IsB b h a items := by
  cases b with
  | true => exact begins_list a items
  | false => exact begins_tuple a items
theorem begO_it {b : Bool} {h : Heap} {it a : Addr} (e : h.get? it = some (begO b a)) : ItB b h it a 0 := by
  cases b with
  | true => exact (⟨_, e, rfl, rfl⟩ : h.IsListIter it a 0)
  | false => exact (⟨_, e, rfl, rfl⟩ : h.IsTupleIter it a 0)
def iEnumB (K : PySem.W.Frag) (ta : TA) : TI := fun σ H R => ta σ H fun vs H1 => ∃ b a xs, vs = [.ref a] ∧ SqB b K H1 a xs ∧ R (IteB b K a) H1
theorem pi_enumB {X : Cx} {e : Expr} {ta : TA} {p pos tpos : Pos} {elts : List Expr} {kk : Nat} (hg : Gl X "enumerate") (hm : X.mg "enumerate" = none) (ha : PA X [e] ta) (hs : starEach [e] X.env = [(false, eval e X.env)]) :
    PI X (.Tuple elts kk tpos) (.Call (.Name "enumerate" p) [e] [] pos) (iEnumB X.K ta) := by
  refine ⟨fun pins s σ H R I h => ?_⟩
  refine Call_ (ld_blt I hg hm boot_enumerate (PyProof.Rows.callWith_type1 (thn (ha.run pos pins s σ H _ I h) fun us s1 ⟨vs, H1, I1, r1, q1⟩ => ?_) hs rfl))
  obtain ⟨b, a, xs, ex, hq, q⟩ := q1
  subst ex
  cases r1 with
  | cons r rr =>
    cases rr
    cases r
    obtain ⟨its, rv, p', hz⟩ := Inv.sqB I1 hq
    refine call_enumB (beginsB b a its.toArray) p' fun h' he hit hsz hk => wpAny_pyIter_enum he ?_
    have I2 : Inv X pins σ H1 { s1 with heap := h' } := I1.kept (t' := s1.toks) hk
    refine ⟨s1.heap.objs.size + 1, [s1.heap.objs.size + 1, s1.heap.objs.size], _, _, H1, rfl, I2, turn_enumB b a (s1.heap.objs.size + 1) s1.heap.objs.size, ⟨⟨.none, he⟩, begO_it hit, Nat.succ_ne_self _⟩, fun c hb => ?_, q⟩
    have e' : c = s1.heap.objs.size + 1 ∨ c = s1.heap.objs.size := by simpa using hb
    have hle : s1.heap.objs.size ≤ c := by
      rcases e' with z | z
      · rw [z]; exact Nat.le_add_right _ _
      · rw [z]; exact Nat.le_refl _
    exact I1.fpOk hle (I1.hok.fresh hle)
/-! ### zip -/
def ItzB (b1 b2 : Bool) (K : PySem.W.Frag) (a c : Addr) : It :=
  ⟨fun i H => ∃ (xs ys : List V) (x y : V), SqB b1 K H a xs ∧ SqB b2 K H c ys ∧ xs[i]? = some x ∧ ys[i]? = some y,
    fun i H v H' => ∃ T x y, v = .ref T ∧ H T = none ∧ H' = upd H T (.tup [x, y]) ∧ (∀ xs, SqB b1 K H a xs → xs[i]? = some x) ∧ ∀ ys, SqB b2 K H c ys → ys[i]? = some y,
    fun i H => ∃ xs ys : List V, SqB b1 K H a xs ∧ SqB b2 K H c ys ∧ i ≤ xs.length ∧ i ≤ ys.length ∧ (i = xs.length ∨ i = ys.length)⟩
theorem turn_zipB {P : Program} {w : World} {K : PySem.W.Frag} {elts : List Expr} {kk : Nat} {tpos : Pos} {a c z TI TO i1 i2 : Addr} (b1 b2 : Bool) (D : ZipSep2 z TI TO i1 i2 [i1, a] [i2, c]) :
    Turn P w K (.Tuple elts kk tpos) (ItzB b1 b2 K a c) [z, TI, TO, i1, i2] z (fun i h => IsZip h z TI TO .none ∧ IsTupOf2 h TI (.ref i1) (.ref i2) ∧ (∃ x y, IsTupOf2 h TO x y) ∧ ItB b1 h i1 a i ∧ ItB b2 h i2 c i) where
  mem := by simp
  obj := fun i h st q hq => by
    obtain ⟨hz, hTI, ⟨x, y, hTO⟩, h1, h2⟩ := st
    obtain ⟨o1, e1, _, d1⟩ := h1.obj
    obtain ⟨o2, e2, _, d2⟩ := h2.obj
    have e' : q = z ∨ q = TI ∨ q = TO ∨ q = i1 ∨ q = i2 := by simpa using hq
    rcases e' with q | q | q | q | q
    · rw [q]; exact ⟨_, hz, fun v q => nomatch q⟩
    · rw [q]; exact ⟨_, hTI, fun v q => nomatch q⟩
    · rw [q]; exact ⟨_, hTO, fun v q => nomatch q⟩
    · rw [q]; exact ⟨o1, e1, d1⟩
    · rw [q]; exact ⟨o2, e2, d2⟩
  keep := fun i h h' st k => by
    obtain ⟨hz, hTI, ⟨x, y, hTO⟩, h1, h2⟩ := st
    exact ⟨k z (by simp) _ hz, k TI (by simp) _ hTI, ⟨x, y, k TO (by simp) _ hTO⟩, h1.at fun o q => k i1 (by simp) o q, h2.at fun o q => k i2 (by simp) o q⟩
  item := by
    intro X hP hw hK hc i pins s σ H E I hf st hg
    subst hP hw hK
    obtain ⟨hz, hTI, ⟨x0, y0, hTO⟩, h1, h2⟩ := st
    obtain ⟨xs, ys, x, y, hqx, hqy, hx, hy⟩ := hg
    obtain ⟨its, rv, p, _⟩ := Inv.sqB I hqx
    obtain ⟨its2, rv2, p2, _⟩ := Inv.sqB I hqy
    obtain ⟨u, hu, ru⟩ := rv.get hx
    obtain ⟨u2, hu2, ru2⟩ := rv2.get hy
    have hzl : z < s.heap.objs.size := Heap.lt_size hz
    have l1 : i < its.toArray.size := by
      have := (List.getElem?_eq_some_iff.mp hu).1
      simpa using this
    have l2 : i < its2.toArray.size := by
      have := (List.getElem?_eq_some_iff.mp hu2).1
      simpa using this
    refine wpAny_pyNext_zipD2_item D (ItB.draws (b := b1) (A := X.A.in1) (I.ok.hd hc) i1 a (p.ne_it h1) its.toArray) (ItB.draws (b := b2) (A := X.A.in1) (I.ok.hd hc) i2 c (p2.ne_it h2) its2.toArray) hz hTI hTO ⟨h1, p⟩ ⟨h2, p2⟩ l1 l2 fun v1 v2 h' tk g1 g2 z' TO' h1' h2' hT hsz hk => ?_
    have e1 : v1 = u := by
      have : its[i]? = some v1 := by simpa using g1
      rw [hu] at this
      exact (Option.some.inj this).symm
    have e2 : v2 = u2 := by
      have : its2[i]? = some v2 := by simpa using g2
      rw [hu2] at this
      exact (Option.some.inj this).symm
    subst e1 e2
    refine ⟨_, rfl, wpAny_letOwnedTupleGo_zip (s := { s with heap := h', toks := tk }) z' fun h'' z'' sb => ?_⟩
    have hT2 : h''.get? s.heap.objs.size = some { cls := .type "tuple", data := .seq #[v1, v2] } := (sb.2 _ (Nat.ne_of_gt hzl)).trans hT
    have new : ObjOk X.prog X.w (upd H s.heap.objs.size (.tup [x, y])) h'' s.heap.objs.size (.tup [x, y]) :=
      ⟨by show 2 ≤ sizeLine; decide, [v1, v2], .cons ru (.cons ru2 .nil), ⟨_, hT2, rfl, _, rfl⟩⟩
    have I1 : Inv X pins σ (upd H s.heap.objs.size (.tup [x, y])) { s with heap := h'', toks := tk } :=
      I.turnedNew (t' := tk) (ch := [z, TI, TO, i1, i2]) (fun q o hb e => (sb.2 q (fun q' => hb (by simp [q']))).trans (hk q o (fun q' => hb (by simp [q'])) (fun q' => hb (by simp [q'])) (fun q' => hb (by simp [q'])) (fun q' => hb (by simp [q'])) e)) hf (Nat.le_refl _) new
    refine ⟨.ref s.heap.objs.size, _, I1, rfl, ⟨_, x, y, rfl, I.hok.fresh (Nat.le_refl _), rfl, fun l hl => by rw [Inv.sqB_inj I hl hqx]; exact hx, fun l hl => by rw [Inv.sqB_inj I hl hqy]; exact hy⟩, ⟨z'', ?_, ⟨v1, v2, ?_⟩, ?_, ?_⟩, fun q hcm => ?_⟩
    · exact (sb.2 _ D.TIz).trans (hk _ _ D.TIz D.TITO D.TIi1 D.TIi2 hTI)
    · exact (sb.2 _ D.TOz).trans TO'
    · exact h1'.1.at fun o q => (sb.2 _ (Ne.symm D.zi1)).trans q
    · exact h2'.1.at fun o q => (sb.2 _ (Ne.symm D.zi2)).trans q
    · have hlt : q < s.heap.objs.size := by
        obtain ⟨_, e1, _⟩ := h1.obj
        obtain ⟨_, e2, _⟩ := h2.obj
        have e' : q = z ∨ q = TI ∨ q = TO ∨ q = i1 ∨ q = i2 := by simpa using hcm
        rcases e' with q | q | q | q | q
        · rw [q]; exact hzl
        · rw [q]; exact Heap.lt_size hTI
        · rw [q]; exact Heap.lt_size hTO
        · rw [q]; exact Heap.lt_size e1
        · rw [q]; exact Heap.lt_size e2
      rw [upd_ne (Nat.ne_of_lt hlt)]
      exact (hf q hcm).1
  done := by
    intro X hP hw hK hc i pins s σ H E I hf st hg
    subst hP hw hK
    obtain ⟨hz, hTI, ⟨x0, y0, hTO⟩, h1, h2⟩ := st
    obtain ⟨xs, ys, hqx, hqy, hl1, hl2, hend⟩ := hg
    obtain ⟨its, rv, p, _⟩ := Inv.sqB I hqx
    obtain ⟨its2, rv2, p2, _⟩ := Inv.sqB I hqy
    have l1 := rv.length
    have l2 := rv2.length
    exact wpAny_pyNext_zipD2_end D (ItB.draws (b := b1) (A := X.A.in1) (I.ok.hd hc) i1 a (p.ne_it h1) its.toArray) (ItB.draws (b := b2) (A := X.A.in1) (I.ok.hd hc) i2 c (p2.ne_it h2) its2.toArray) hz hTI hTO (i := i) ⟨h1, p⟩ ⟨h2, p2⟩
      (by rw [List.size_toArray]; omega) (by rw [List.size_toArray]; omega) (by rw [List.size_toArray, List.size_toArray]; omega) fun h' tk hk => ⟨rfl, I.turnedL (t' := tk) (ch := [z, TI, TO, i1, i2]) (fun q o hb e =>
      hk q o (fun q' => hb (by simp [q'])) (fun q' => hb (by simp [q'])) (fun q' => hb (by simp [q'])) (fun q' => hb (by simp [q'])) e) hf⟩
  self := fun A i s Q E st h => wpAny_pyIter_zip st.1 h
def iZipB (K : PySem.W.Frag) (ta : TA) : TI := fun σ H R => ta σ H fun vs H1 => ∃ b1 b2 a c xs ys, vs = [.ref a, .ref c] ∧ SqB b1 K H1 a xs ∧ SqB b2 K H1 c ys ∧ R (ItzB b1 b2 K a c) H1
theorem IsB.lt {b : Bool} {h : Heap} {a : Addr} {its : Array Value} (x : IsB b h a its) : a < h.objs.size := by
  obtain ⟨o, h1, _⟩ := x.obj
  exact Heap.lt_size h1
theorem pi_zipB {X : Cx} {e e2 : Expr} {ta : TA} {p pos tpos : Pos} {elts : List Expr} {kk : Nat} (hg : Gl X "zip") (hm : X.mg "zip" = none) (ha : PA X [e, e2] ta)
    (hs : starEach [e, e2] X.env = (false, eval e X.env) :: starEach [e2] X.env) (hpl : (backTo pos (starEach [e2] X.env)).any (·.1) = false) :
    PI X (.Tuple elts kk tpos) (.Call (.Name "zip" p) [e, e2] [] pos) (iZipB X.K ta) := by
  refine ⟨fun pins s σ H R I h => ?_⟩
  refine Call_ (ld_blt I hg hm PyProof.Rows.boot_zip (PyProof.Rows.callWith_type1 (thn (ha.run pos pins s σ H _ I h) fun us s1 ⟨vs, H1, I1, r1, q1⟩ => ?_) hs hpl))
  obtain ⟨b1, b2, a, c, xs, ys, ex, hqx, hqy, q⟩ := q1
  subst ex
  cases r1 with
  | cons r rr =>
    cases rr with
    | cons r' rr =>
      cases rr
      cases r
      cases r'
      obtain ⟨its, rv, p1, _⟩ := Inv.sqB I1 hqx
      obtain ⟨its2, rv2, p2, _⟩ := Inv.sqB I1 hqy
      refine zip_begins2 (beginsB b1 a its.toArray) (beginsB b2 c its2.toArray) p1 p2 fun h' hz hTI hTO h1 h2 hsz hk => wpAny_pyIter_zip hz ?_
      have I2 : Inv X pins σ H1 { s1 with heap := h' } := I1.kept (t' := s1.toks) hk
      refine ⟨s1.heap.objs.size + 4, [s1.heap.objs.size + 4, s1.heap.objs.size + 2, s1.heap.objs.size + 3, s1.heap.objs.size, s1.heap.objs.size + 1], _, _, H1, rfl, I2,
        turn_zipB b1 b2 (zip_sep2 (fp1 := [a]) (fp2 := [c]) (fun q hq => by rw [List.mem_singleton.mp hq]; exact p1.lt) (fun q hq => by rw [List.mem_singleton.mp hq]; exact p2.lt)), ⟨hz, hTI, ⟨_, _, hTO⟩, begO_it h1, begO_it h2⟩, fun q hcm => ?_, q⟩
      have e' : q = s1.heap.objs.size + 4 ∨ q = s1.heap.objs.size + 2 ∨ q = s1.heap.objs.size + 3 ∨ q = s1.heap.objs.size ∨ q = s1.heap.objs.size + 1 := by simpa using hcm
      have hle : s1.heap.objs.size ≤ q := by
        rcases e' with z | z | z | z | z
        · rw [z]; exact Nat.le_add_right _ _
        · rw [z]; exact Nat.le_add_right _ _
        · rw [z]; exact Nat.le_add_right _ _
        · rw [z]; exact Nat.le_refl _
        · rw [z]; exact Nat.le_add_right _ _
      exact I1.fpOk hle (I1.hok.fresh hle)
/-! ### what they give -/
section
variable {K : PySem.W.Frag} {F : Hp}
theorem Same.sqB {b : Bool} {a : Addr} {xs : List V} {F H : Hp} (S : Same F H) (h : SqB b K F a xs) : SqB b K H a xs := by
  cases b with
  | true => exact S.seq (show SqL K F a xs from h)
  | false => exact Same.seqT S (show SqT K F a xs from h)
theorem walk_enumB {b : Bool} {a : Addr} {xs : List V} : Walk (IteB b K a) xs.length (fun H => SqB b K H a xs) (YPair (fun i => some (.int (i : Nat))) (fun i => xs[i]?)) := by
  refine ⟨fun i _ hi q => ⟨xs, xs[i], q, by simp [hi]⟩, fun _ q => ⟨xs, q, rfl⟩, fun i H v H' _ q y => ?_⟩
  obtain ⟨T, x, h1, h2, h3, h4⟩ := y
  exact ⟨T, .int (i : Nat), x, h1, h2, h3, rfl, h4 xs q⟩
theorem walk_zipB {b1 b2 : Bool} {a c : Addr} {xs ys : List V} {n : Nat} (hn : n = min xs.length ys.length) : Walk (ItzB b1 b2 K a c) n (fun H => SqB b1 K H a xs ∧ SqB b2 K H c ys) (YPair (fun i => xs[i]?) (fun i => ys[i]?)) := by
  subst hn
  refine ⟨fun i _ hi q => ?_, fun _ q => ⟨xs, ys, q.1, q.2, by omega⟩, fun i H v H' _ q y => ?_⟩
  · have h1 : i < xs.length := by omega
    have h2 : i < ys.length := by omega
    exact ⟨xs, ys, xs[i], ys[i], q.1, q.2, by simp [h1], by simp [h2]⟩
  · obtain ⟨T, x, y, h1, h2, h3, h4, h5⟩ := y
    exact ⟨T, x, y, h1, h2, h3, h4 xs q.1, h5 ys q.2⟩
/-- pairs given in new tuples -/
theorem iter_pair {J : It} {n : Nat} {G : Hp → Prop} {xs ys : Nat → Option V} {ds es : List D} (w : Walk J n G (YPair xs ys)) (hG : ∀ H, Same F H → G H) (hn : n = min ds.length es.length)
    (hx : ∀ i v d, xs i = some v → ds[i]? = some d → Rl K F v d) (hy : ∀ i v d, ys i = some v → es[i]? = some d → Rl K F v d) : IterOk K F (pairs2 ds es) J := by
  have hl : (pairs2 ds es).length = n := by rw [hn]; unfold pairs2; rw [List.length_zipWith]
  refine ⟨G, YPair xs ys, by rw [hl]; exact w, hG, fun i H2 v H3 F2 hi S1 S2 y => ?_⟩
  obtain ⟨T, x, z, rfl, hT, rfl, e1, e2⟩ := y
  have hF : F2 T = none := by
    cases q : F2 T with
    | none => rfl
    | some u => rw [S2 _ _ q] at hT; cases hT
  refine ⟨upd F2 T (.tup [x, z]), Gro.sh S2 hT, fun d hd => ?_⟩
  unfold pairs2 at hd
  rw [List.getElem?_zipWith] at hd
  cases h1 : ds[i]? with
  | none => rw [h1] at hd; cases h2 : es[i]? <;> rw [h2] at hd <;> cases hd
  | some d1 =>
    cases h2 : es[i]? with
    | none => rw [h1, h2] at hd; cases hd
    | some d2 =>
      rw [h1, h2] at hd
      cases hd
      have up : Same F (upd F2 T (.tup [x, z])) := S1.trans fun b o q => by rw [upd_ne (ne_of_none q hF)]; exact q
      exact .tup (xs := [x, z]) upd_same (.cons ((hx i x d1 e1 h1).up up) (.cons ((hy i z d2 e2 h2).up up) .nil))
theorem iter_enumB {b : Bool} {a : Addr} {xs : List V} {ds : List D} (h : SqB b K F a xs) (r : RlAll K F xs ds) : IterOk K F (enumOf ds) (IteB b K a) := by
  unfold enumOf
  refine iter_pair walk_enumB (fun H S => Same.sqB S h) (by simp [r.length]) (fun i v d e1 e2 => ?_) fun i v d e1 e2 => ?_
  · cases e1
    rw [List.getElem?_map] at e2
    cases q : (List.range ds.length)[i]? with
    | none => rw [q] at e2; cases e2
    | some k =>
      rw [q] at e2
      cases e2
      have hi : i < (List.range ds.length).length := (List.getElem?_eq_some_iff.mp q).1
      rw [List.getElem?_range (by simpa using hi)] at q
      cases q
      exact .int _
  · obtain ⟨v', h1, h2⟩ := r.get e2
    rw [e1] at h1
    cases h1
    exact h2
theorem iter_zipB {b1 b2 : Bool} {a c : Addr} {xs ys : List V} {ds es : List D} (h1 : SqB b1 K F a xs) (r1 : RlAll K F xs ds) (h2 : SqB b2 K F c ys) (r2 : RlAll K F ys es) : IterOk K F (pairs2 ds es) (ItzB b1 b2 K a c) := by
  refine iter_pair (walk_zipB rfl) (fun H S => ⟨Same.sqB S h1, Same.sqB S h2⟩) (by rw [r1.length, r2.length]) (fun i v d e1 e2 => ?_) fun i v d e1 e2 => ?_
  · obtain ⟨v', q1, q2⟩ := r1.get e2
    rw [e1] at q1
    cases q1
    exact q2
  · obtain ⟨v', q1, q2⟩ := r2.get e2
    rw [e1] at q1
    cases q1
    exact q2
/-- a sequence read -/
theorem Rl.sq {v : V} {d : D} {ds : List D} (h : Rl K F v d) (e : seqOf d = some ds) : ∃ b a xs, v = .ref a ∧ SqB b K F a xs ∧ RlAll K F xs ds := by
  cases h with
  | lst h r => cases e; exact ⟨true, _, _, rfl, h, r⟩
  | tup h r => cases e; exact ⟨false, _, _, rfl, (.inl (.inl h) : SqT K F _ _), r⟩
  | _ => cases e
end
end Tw

set_option linter.all false
set_option maxRecDepth 100000
set_option maxHeartbeats 8000000
set_option autoImplicit false
/-! dict(enumerate(a tuple)). -/
namespace Tw
open PySem PySem.Spec PyProof.Rows L2
section
variable {prog : Program} {w : World} {A : Around} {E : Value → Shared → Prop} {s : Shared}
theorem enum_next_heldD {e it T : Addr} {fp : List Addr} {n i : Nat} {P : Nat → Value → Prop} {St : Nat → Heap → Prop} {old : Value} {f : Bool} {oT : Obj} {Q : Value → Shared → Prop}
    (D : Draws prog w A it fp n P St) (he : IsEnumHeld s.heap e it i old T f) (hT : s.heap.get? T = some oT) (hTe : T ≠ e) (hTi : T ≠ it) (hst : St i s.heap) (hlt : i < n) (hne : e ≠ it) (hef : e ∉ fp)
    (hQ : ∀ x h' tk, P i x → IsEnumHeld h' e it ((i : Int) + 1) old T true → St (i + 1) h' →
      h'.get? s.heap.objs.size = some { cls := .type "tuple", data := .seq #[.int i tk, x] } → h'.objs.size = s.heap.objs.size + 1 →
      (∀ b o, b ≠ e → b ≠ it → s.heap.get? b = some o → h'.get? b = some o) → Q (.ref s.heap.objs.size) { s with heap := h', toks := tk + 1 }) :
    wpAny (model prog w) A (Builtin.«enumerate.__next__» ⟨[.ref e], []⟩) (fun fin s' => ∃ v, fin = .done (.ret v) ∧ Q v s') E s := by
  obtain ⟨hp, g, d, tk₀, os⟩ := s
  show wpAny _ _ (field (.ref e) 2 >>= _) _ _ _
  refine wpAny_bind (wpAny_field he rfl (x := .ref it) rfl ?_)
  refine wpAny_bind (D.item i _ _ _ hlt hst fun x h₁ tk hPx hit₁ hs₁ => ?_)
  replace hs₁ : Heap.SameBut it hp h₁ := hs₁
  have he₁ : IsEnumHeld h₁ e it i old T f := (hs₁.2 e hne).trans he
  show wpAny _ _ (field (.ref e) 3 >>= _) _ _ ⟨h₁, g, d, tk, os⟩
  refine wpAny_bind (wpAny_field he₁ rfl (x := rawInt i) rfl ?_)
  show wpAny _ _ (field (.ref e) 4 >>= _) _ _ ⟨h₁, g, d, tk, os⟩
  refine wpAny_bind (wpAny_field he₁ rfl (x := .none) rfl ?_)
  show wpAny _ _ (mkInt i >>= _) _ _ ⟨h₁, g, d, tk, os⟩
  refine wpAny_bind (wpAny_mkInt ?_)
  show wpAny _ _ (setField (.ref e) 3 (rawInt ((i : Int) + 1)) >>= _) _ _ ⟨h₁, g, d, tk + 1, os⟩
  refine wpAny_bind (wpAny_setField_rec he₁ (by simp) fun h₂ he₂ hs₂ => ?_)
  replace hs₂ : Heap.SameBut e h₁ h₂ := hs₂
  replace he₂ : IsEnumHeld h₂ e it ((i : Int) + 1) old T f := he₂
  show wpAny _ _ (setField (.ref e) 4 .none >>= _) _ _ ⟨h₂, g, d, tk + 1, os⟩
  refine wpAny_bind (wpAny_setField_rec he₂ (by simp) fun h₃ he₃ hs₃ => ?_)
  replace hs₃ : Heap.SameBut e h₂ h₃ := hs₃
  replace he₃ : IsEnumHeld h₃ e it ((i : Int) + 1) old T f := he₃
  show wpAny _ _ (newTuple [.int i tk, x] >>= _) _ _ ⟨h₃, g, d, tk + 1, os⟩
  refine wpAny_bind (wpAny_newTuple ?_)
  have he₄ : IsEnumHeld (h₃.push { cls := .type "tuple", data := .seq #[.int i tk, x] }) e it ((i : Int) + 1) old T f := Heap.get?_push_of_some _ he₃
  generalize hh₄ : h₃.push { cls := .type "tuple", data := .seq #[.int i tk, x] } = h₄ at he₄
  have hsz : h₃.objs.size = hp.objs.size := by rw [hs₃.1, hs₂.1, hs₁.1]
  have hel : e < hp.objs.size := Heap.lt_size he
  have ht₄ : h₄.get? hp.objs.size = some { cls := .type "tuple", data := .seq #[.int i tk, x] } := by rw [← hh₄, ← hsz]; exact Heap.get?_push_size _ rfl
  have hz₄ : h₄.objs.size = hp.objs.size + 1 := by rw [← hh₄, Heap.size_push, hsz]
  have hk₄ : ∀ b o, b ≠ e → b ≠ it → hp.get? b = some o → h₄.get? b = some o := fun b o hbe hbi hb => by
    rw [← hh₄]; exact Heap.get?_push_of_some _ (hs₃.extBut b o hbe (hs₂.extBut b o hbe (hs₁.extBut b o hbi hb)))
  have hit₄ : St (i + 1) h₄ := D.frame _ _ _ hit₁ fun b hb o y => by
    have hbe : b ≠ e := fun q => hef (q ▸ hb)
    rw [← hh₄]; exact Heap.get?_push_of_some _ (hs₃.extBut b o hbe (hs₂.extBut b o hbe y))
  show wpAny _ _ (Builtin.SmallTypes.ownedTupleIsFree (.ref e) >>= _) _ _ ⟨h₄, g, d, tk + 1, os⟩
  rw [hsz]
  clear hh₄ he₃ hs₃ he₂ hs₂ he₁ hs₁ hit₁ hsz h₃ h₂ h₁
  refine wpAny_bind (wpAny_tupleHeld_enum (s := ⟨h₄, g, d, tk + 1, os⟩) he₄ (hk₄ T oT hTe hTi hT) fun h₅ he₅ hs₅ => ?_)
  replace hs₅ : Heap.SameBut e h₄ h₅ := hs₅
  simp only [Bool.false_eq_true, if_false]
  refine wpAny_pure ⟨_, rfl, hQ x h₅ tk hPx he₅ (D.frame _ _ _ hit₄ fun b hb o y => hs₅.extBut b o (fun q => hef (q ▸ hb)) y) (hs₅.extBut _ _ (Nat.ne_of_gt hel) ht₄) ?_ fun b o hbe hbi hb => hs₅.extBut b o hbe (hk₄ b o hbe hbi hb)⟩
  show h₅.objs.size = hp.objs.size + 1
  rw [hs₅.1, hz₄]
theorem pyNext_enum_heldD {e it T : Addr} {fp : List Addr} {n i : Nat} {P : Nat → Value → Prop} {St : Nat → Heap → Prop} {old : Value} {f : Bool} {oT : Obj} {Q : Option Value → Shared → Prop}
    (D : Draws prog w A.in1 it fp n P St) (he : IsEnumHeld s.heap e it i old T f) (hT : s.heap.get? T = some oT) (hTe : T ≠ e) (hTi : T ≠ it) (hst : St i s.heap) (hlt : i < n) (hne : e ≠ it) (hef : e ∉ fp)
    (hQ : ∀ x h' tk, P i x → IsEnumHeld h' e it ((i : Int) + 1) old T true → St (i + 1) h' →
      h'.get? s.heap.objs.size = some { cls := .type "tuple", data := .seq #[.int i tk, x] } → h'.objs.size = s.heap.objs.size + 1 →
      (∀ b o, b ≠ e → b ≠ it → s.heap.get? b = some o → h'.get? b = some o) → Q (some (.ref s.heap.objs.size)) { s with heap := h', toks := tk + 1 }) :
    wpAny (model prog w) A (pyNext (.ref e)) Q E s := by
  have hTy : s.TypeIs (.ref e) "enumerate" := ⟨_, he, rfl⟩
  unfold pyNext
  exact wpAny_bind (wpAny_attempt (wpAny_callSpecial?_slot (name := Str.ofString "__next__") hTy F.slot_enumerate_next
    (wpAny_call_entry F.slot_enumerate_next hTy F.entry_enumerate_next
      (enum_next_heldD D he hT hTe hTi hst hlt hne hef fun x h' tk a b c d k q => wpAny_pure (hQ x h' tk a b c d k q)) (F.args_enumerate_next_1 _))))
theorem pyNext_enum_end_heldD {e it T : Addr} {fp : List Addr} {n : Nat} {P : Nat → Value → Prop} {St : Nat → Heap → Prop} {i : Int} {old : Value} {f : Bool} {Q : Option Value → Shared → Prop}
    (D : Draws prog w A.in1 it fp n P St) (he : IsEnumHeld s.heap e it i old T f) (hst : St n s.heap)
    (hQ : ∀ h', Heap.ExtBut it s.heap h' → Q none { s with heap := h' }) : wpAny (model prog w) A (pyNext (.ref e)) Q E s := by
  have hT : s.TypeIs (.ref e) "enumerate" := ⟨_, he, rfl⟩
  unfold pyNext
  refine wpAny_bind (wpAny_attempt (wpAny_callSpecial?_slot (name := Str.ofString "__next__") hT F.slot_enumerate_next
    (wpAny_call_entry F.slot_enumerate_next hT F.entry_enumerate_next ?_ (F.args_enumerate_next_1 _))))
  show wpAny _ _ (field (.ref e) 2 >>= _) _ _ _
  refine wpAny_bind (wpAny_field he rfl (x := .ref it) rfl ?_)
  refine wpAny_bind (D.done _ _ _ hst fun h' x he' hx' => ?_)
  obtain ⟨o, ho, hc⟩ := hx'
  refine wpAny_bind (wpAny_isInstance (T := "StopIteration") (b := true) ⟨o, ho, hc⟩ isSubtype_stop ?_)
  exact wpAny_pure (hQ _ he')
end
theorem pairEnumB {prog : Program} {w : World} (bb : Bool) (e it l : Addr) (hei : e ≠ it) (hle : l ≠ e) (hli : l ≠ it) (items : Array Value) :
    PairArg prog w "enumerate" e [e, it, l] [e, it] items.size (fun i k v => (∃ t, k = .int i t) ∧ items[i]? = some v)
      (fun h => (∃ old, IsEnum h e it 0 old) ∧ ItB bb h it l 0 ∧ IsB bb h l items) where
  type := fun s ok => let ⟨⟨_, he⟩, _⟩ := ok; ⟨_, he, rfl⟩
  notDict := by decide
  keep := fun h h' ok hk => by
    obtain ⟨⟨old, he⟩, hit, hl⟩ := ok
    refine ⟨⟨old, hk _ _ he⟩, hit.at fun o x => hk _ o x, ?_⟩
    cases bb with
    | true => exact Heap.IsList.at (show h.IsList l items from hl) fun o x => hk _ o x
    | false => exact Heap.IsTuple.at (show h.IsTuple l items from hl) fun o x => hk _ o x
  there := fun h ok b hb => by
    obtain ⟨⟨old, he⟩, hit, hl⟩ := ok
    obtain ⟨o1, h1, _⟩ := hit.obj
    obtain ⟨o2, h2, _⟩ := hl.obj
    simp only [List.mem_cons, List.not_mem_nil, or_false] at hb
    rcases hb with rfl | rfl | rfl
    all_goals first | exact ⟨_, he⟩ | exact ⟨_, h1⟩ | exact ⟨_, h2⟩
  sub := fun b hb => by simp at hb ⊢; rcases hb with rfl | rfl <;> simp
  noKeys := fun A s Q E hA ok h => let ⟨⟨_, he⟩, _⟩ := ok; getAttrOr_miss_enumerate he rfl rfl rfl enumerate_no_keys (by decide +kernel) hA h
  iter := fun A s d Q E hA ok hd hdf h => by
    obtain ⟨⟨old, he⟩, hit, hl⟩ := ok
    simp only [List.mem_cons, List.not_mem_nil, or_false, not_or] at hdf
    obtain ⟨de, dit, dl⟩ := hdf
    have DD := ItB.draws (b := bb) (prog := prog) (w := w) (A := A.in1) hA it l hli items
    have hef : e ∉ [it, l] := by simp [hei, Ne.symm hle]
    refine wpAny_pyIter_enum he (h e [e, it] (fun i h => (ItB bb h it l i ∧ IsB bb h l items) ∧ ((∃ old, IsEnum h e it i old) ∨ ∃ old T f oT, IsEnumHeld h e it i old T f ∧ h.get? T = some oT ∧ T ≠ e ∧ T ≠ it ∧ T ≠ d)) s.heap s.toks ?_
      ⟨⟨hit, hl⟩, .inl ⟨old, he⟩⟩ (fun _ _ e => e) fun b hb => .inl hb)
    exact {
      off := fun hm => by
        simp only [List.mem_cons, List.not_mem_nil, or_false] at hm
        rcases hm with x | x
        · exact de x
        · exact dit x
      frame := fun i h₁ h₂ st hk => by
        obtain ⟨hs, he⟩ := st
        refine ⟨DD.frame i h₁ h₂ hs fun b hb o x => hk b o (fun z => ?_) x, ?_⟩
        · subst z
          simp only [List.mem_cons, List.not_mem_nil, or_false] at hb
          rcases hb with z | z
          · exact dit z
          · exact dl z
        rcases he with ⟨old, he⟩ | ⟨old, T, f, oT, he, hT, r1, r2, r3⟩
        · exact .inl ⟨old, hk _ _ (Ne.symm de) he⟩
        · exact .inr ⟨old, T, f, oT, hk _ _ (Ne.symm de) he, hk _ _ r3 hT, r1, r2, r3⟩
      item := fun i s₁ Q₁ E₁ hi st hds hQ => by
        obtain ⟨hs, he⟩ := st
        have ec : ((i + 1 : Nat) : Int) = (i : Int) + 1 := by omega
        have nit : s₁.heap.objs.size ≠ it := let ⟨_, x, _⟩ := hs.1.obj; Nat.ne_of_gt (Heap.lt_size x)
        rcases he with ⟨old, he⟩ | ⟨old, T, f, oT, he, hT, r1, r2, r3⟩
        · refine wpAny_pyNext_enum_itemD DD he hs hi hei hef fun x h' tk ex ho hs' hT hsz hk => ?_
          exact hQ s₁.heap.objs.size _ _ h' (tk + 1) ⟨⟨_, rfl⟩, ex⟩ (.inl ⟨_, hT, rfl, _, rfl⟩)
            ⟨hs', .inr ⟨_, s₁.heap.objs.size, false, _, (by rw [ec]; exact ho), hT, Nat.ne_of_gt (Heap.lt_size he), nit, Nat.ne_of_gt hds⟩⟩
            fun b o hb x => hk b o (fun y => hb (by simp [y])) (fun y => hb (by simp [y])) x
        · refine pyNext_enum_heldD DD he hT r1 r2 hs hi hei hef fun x h' tk ex ho hs' hT' hsz hk => ?_
          exact hQ s₁.heap.objs.size _ _ h' (tk + 1) ⟨⟨_, rfl⟩, ex⟩ (.inl ⟨_, hT', rfl, _, rfl⟩)
            ⟨hs', .inr ⟨old, T, true, oT, (by rw [ec]; exact ho), hk _ _ r1 r2 hT, r1, r2, r3⟩⟩
            fun b o hb x => hk b o (fun y => hb (by simp [y])) (fun y => hb (by simp [y])) x
      done := fun s₁ Q₁ E₁ st hQ => by
        obtain ⟨hs, he⟩ := st
        rcases he with ⟨old, he⟩ | ⟨old, T, f, oT, he, hT, r1, r2, r3⟩
        · exact wpAny_pyNext_enum_endD DD he hs fun h' hk => hQ h' s₁.toks fun b o hb x => hk b o (fun y => hb (by simp [y])) x
        · exact pyNext_enum_end_heldD DD he hs fun h' hk => hQ h' s₁.toks fun b o hb x => hk b o (fun y => hb (by simp [y])) x }

def enK : Nat → List V → List (Key × V)
  | _, [] => []
  | i, x :: r => (.inl (i : Int), x) :: enK (i + 1) r
def enV : Nat → List Value → List (Key × Value)
  | _, [] => []
  | i, x :: r => (.inl (i : Int), x) :: enV (i + 1) r
theorem enV_len : ∀ {xs : List Value} {i : Nat}, (enV i xs).length = xs.length
  | [], _ => rfl
  | x :: r, i => congrArg (· + 1) (enV_len (xs := r) (i := i + 1))
theorem enV_at : ∀ {xs : List Value} {i j : Nat} {v : Value}, xs[j]? = some v → (enV i xs)[j]? = some (.inl ((i + j : Nat) : Int), v)
  | [], _, _, _, h => by simp at h
  | x :: r, i, 0, v, h => by
    simp only [List.getElem?_cons_zero, Option.some.injEq] at h
    subst h
    rfl
  | x :: r, i, j + 1, v, h => by
    rw [List.getElem?_cons_succ] at h
    have := enV_at (i := i + 1) h
    show (enV (i + 1) r)[j]? = _
    rw [this, show i + 1 + j = i + (j + 1) by omega]
theorem enKV : ∀ {xs : List V} {its : List Value} {i : Nat}, Vals xs its → KV (enK i xs) (enV i its)
  | _, _, _, .nil => .nil
  | _, _, i, .cons h t => .cons ⟨rfl, h⟩ (enKV (i := i + 1) t)
theorem enRl {K : PySem.W.Frag} {F : Hp} : ∀ {xs : List V} {ds : List D} {i : Nat}, RlAll K F xs ds → RlKv K F (enK i xs) (enD i ds)
  | _, _, _, .nil => .nil
  | _, _, i, .cons h t => .cons rfl h (enRl (i := i + 1) t)
theorem enK_len : ∀ {xs : List V} {i : Nat}, (enK i xs).length = xs.length
  | [], _ => rfl
  | x :: r, i => congrArg (· + 1) (enK_len (xs := r) (i := i + 1))
section
variable {X : Cx}
theorem pe_denum {e : Expr} {ta : TA} {p p2 pos pos2 : Pos} (hcalm : X.calm = true) (hg : Gl X "dict") (hm : X.mg "dict" = none) (hg2 : Gl X "enumerate") (hm2 : X.mg "enumerate" = none) (ha : PA X [e] ta) (hs : starEach [e] X.env = [(false, eval e X.env)]) :
    PE X (.Call (.Name "dict" p) [.Call (.Name "enumerate" p2) [e] [] pos2] [] pos) (tCB (rDn X.K .denum) ta) := by
  refine ⟨fun pins s σ H Q I h => ?_⟩
  refine wpAny_Call_Name_kw (ld_blt I hg hm boot_dict ?_ (by decide) (by decide))
  refine PyProof.Rows.callWith_type1 ?_ rfl rfl
  show wpAny _ _ (spliced ((false, eval (.Call (.Name "enumerate" p2) [e] [] pos2) X.env) :: backTo pos (starEach [] X.env))) _ _ s
  refine Calls.spliced_cons ?_
  refine Call_ (ld_blt I hg2 hm2 boot_enumerate (PyProof.Rows.callWith_type1 (thn (ha.run pos2 pins s σ H _ I h) fun us s1 ⟨vs, H1, I1, r1, q1⟩ => ?_) hs rfl))
  obtain ⟨F, ds, d, S, pr, ev, q⟩ := q1
  cases pr with
  | nil => simp [Op.eval] at ev
  | @cons v vs a ds pa t =>
    cases t with
    | cons => cases a <;> simp [Op.eval] at ev
    | nil =>
      cases a <;> try (simp [Op.eval] at ev; done)
      case tuple ds =>
        simp only [Op.eval] at ev
        split at ev
        · cases ev
          obtain ⟨a, xs, rfl, hx, rx⟩ := pa.tup S
          cases r1 with
          | cons r rr =>
            cases rr
            cases r
            obtain ⟨its, rv, p', hz⟩ := Inv.sqB (b := false) I1 hx
            have hal := p'.lt
            refine call_enumB (beginsB false a its.toArray) p' fun h' he hit hsz hk => ?_
            refine Calls.spliced_nil ?_
            have pl : IsB false h' a its.toArray := Heap.IsTuple.at (show s1.heap.IsTuple a its.toArray from p') fun o z => hk a o z
            refine PySem.call_dict_pairs (knd := mixKind X.prog X.w) (kvs := enV 0 its) (pairEnumB false (s1.heap.objs.size + 1) s1.heap.objs.size a (Nat.succ_ne_self _) (Nat.ne_of_lt (Nat.lt_succ_of_lt hal)) (Nat.ne_of_lt hal) its.toArray) (I.ok.hd hcalm) ⟨⟨_, he⟩, begO_it hit, pl⟩ ⟨by rw [enV_len, List.size_toArray], ?_⟩ (by rw [List.size_toArray, ← rv.length]; exact hz) fun h2 tk hd' k => ?_
            · rintro i key v ⟨⟨tt, rfl⟩, hv⟩
              have hv' : its[i]? = some v := by simpa using hv
              refine ⟨_, enV_at hv', ?_⟩
              rw [Nat.zero_add]
              exact kV_is (P := X.prog) (w := X.w) (k := .inl (i : Int)) ⟨tt, rfl⟩
            · have kk : ∀ b o, s1.heap.get? b = some o → h2.get? b = some o := fun b o z => by
                have hb := Heap.lt_size z
                refine k b o (fun m => ?_) (hk b o z)
                simp only [List.mem_cons, List.not_mem_nil, or_false] at m
                rcases m with m | m
                · rw [m] at hb
                  exact absurd hb (Nat.not_lt.mpr (Nat.le_succ _))
                · rw [m] at hb
                  exact absurd hb (Nat.lt_irrefl _)
              have hle : s1.heap.objs.size ≤ h'.objs.size := by rw [hsz]; exact Nat.le_add_right _ _
              have hmm : (h'.objs.size == sysModules) = false := beq_eq_false_iff_ne.mpr (Nat.ne_of_gt (Nat.lt_of_lt_of_le I1.big hle))
              have hlen : (mergeK [] (enK 0 xs)).length ≤ sizeLine := by
                refine Nat.le_trans (length_mergeK (enK 0 xs) []) ?_
                rw [List.length_nil, Nat.zero_add, enK_len]
                exact hz
              refine ⟨.ref h'.objs.size, upd H1 h'.objs.size (.dK (mergeK [] (enK 0 xs))), I1.laid (t' := tk) kk hle (show ObjOk X.prog X.w _ _ _ (.dK (mergeK [] (enK 0 xs))) from ⟨hlen, hmm, merged [] (enV 0 its), KV.merge (enKV rv) .nil, hd'⟩), rfl, ?_⟩
              have hp := I1.hok.fresh hle
              obtain ⟨g, fp⟩ := Gro.own (o := .dK (mergeK [] (enK 0 xs))) S hp
              refine q _ F _ g ?_
              exact ⟨.dic upd_same fp (RlKv.mergeD (enRl rx) .nil), fun a e => by cases e; exact hp⟩
        · cases ev
end
end Tw

set_option linter.all false
set_option maxRecDepth 100000
set_option maxHeartbeats 4000000
set_option autoImplicit false
/-! zip(reversed(a), reversed(b)) of two tuples. -/
namespace Tw
open PySem PySem.Spec PyProof.Rows L2
section
variable {prog : Program} {w : World} {A : Around} {E : Value → Shared → Prop} {s : Shared}
theorem nextOf_rt_item {it t : Addr} {i : Nat} {items : Array Value} {x : Value} {Q : Value → Shared → Prop} (hit : RT.IsRt s.heap it t (i : Int)) (ht : IsTup s.heap t items) (hx : items[i]? = some x) (hsz : items.size ≤ sizeLine)
    (hQ : ∀ h', RT.IsRt h' it t ((i : Int) - 1) → Heap.SameBut it s.heap h' → Q x { s with heap := h', toks := s.toks + 1 }) : wpAny (model prog w) A (Builtin.SmallTypes.nextOf (.ref it)) Q E s := by
  obtain ⟨o, ho, hc, hd⟩ := id hit
  have hi : i < items.size := (Array.getElem?_eq_some_iff.mp hx).1
  have hT : s.TypeIs (.ref t) "tuple" := RT.IsTup.typeOf' ht
  rw [sizeLine_eq] at hsz
  unfold Builtin.SmallTypes.nextOf
  refine wpAny_bind (wpAny_callSpecial?_slot (name := Str.ofString "__next__") hit.typeIs RT.slot_rt_next
    (wpAny_call_entry RT.slot_rt_next hit.typeIs RT.entry_rt_next ?_ (RT.args_rt_next _)))
  unfold Builtin.«reversed.__next__»
  refine wpAny_bind (wpAny_of_eq (a := (Value.ref it, [])) rfl ?_)
  try dsimp only
  refine wpAny_bind (wpAny_field ho hd (x := .ref t) rfl ?_)
  try dsimp only
  refine wpAny_bind (wpAny_field ho hd (x := rawInt (i : Int)) rfl ?_)
  show wpAny _ _ (if (i : Int) < 0 then _ else _) _ _ s
  rw [if_neg (by omega)]
  try dsimp only
  refine wpAny_bind (wpAny_specialOf hT RT.get_tuple ?_)
  try dsimp only
  try rw [if_neg (by decide)]
  try dsimp only
  refine wpAny_bind (wpAny_mkInt ?_)
  refine wpAny_bind (wpAny_attempt ?_)
  have fin : seqIndex? (i : Int) items.size = some i := seqIndex_of (by omega) (by omega)
  refine PyProof.Rows.getItem_tuple (s := { s with toks := s.toks + 1 }) ht (by omega) (by omega) fin hx ?_
  try dsimp only
  refine wpAny_bind (wpAny_field (s := { s with toks := s.toks + 1 }) ho hd (x := rawInt (i : Int)) rfl ?_)
  try dsimp only
  refine wpAny_bind (wpAny_setField (s := { s with toks := s.toks + 1 }) ho hd (by simp) ?_)
  first
  | refine wpAny_pure ⟨x, rfl, wpAny_pure (hQ _ ?_ (Heap.SameBut.update ..))⟩
  | refine wpAny_bind (wpAny_pure (wpAny_pure ⟨x, rfl, wpAny_pure (hQ _ ?_ (Heap.SameBut.update ..))⟩))
  exact ⟨_, Heap.get?_update_self _ ho (Obj.isFreed_of_fields (Obj.data_mapFields hd _)), (Obj.cls_mapFields ..).trans hc, by
    rw [Obj.data_mapFields hd]; simp⟩
theorem nextOf_rt_end {it t : Addr} {Q : Value → Shared → Prop} (hh : A.handled = none) (hit : RT.IsRt s.heap it t (-1))
    (hE : ∀ h' e, Heap.ExtBut it s.heap h' → (∃ o, h'.get? e = some o ∧ o.cls = .type "StopIteration") → E (.ref e) { s with heap := h' }) : wpAny (model prog w) A (Builtin.SmallTypes.nextOf (.ref it)) Q E s := by
  obtain ⟨o, ho, hc, hd⟩ := id hit
  unfold Builtin.SmallTypes.nextOf
  refine wpAny_bind (wpAny_callSpecial?_slot (name := Str.ofString "__next__") hit.typeIs RT.slot_rt_next
    (wpAny_call_entry RT.slot_rt_next hit.typeIs RT.entry_rt_next ?_ (RT.args_rt_next _)))
  unfold Builtin.«reversed.__next__»
  refine wpAny_bind (wpAny_of_eq (a := (Value.ref it, [])) rfl ?_)
  try dsimp only
  refine wpAny_bind (wpAny_field ho hd (x := .ref t) rfl ?_)
  try dsimp only
  refine wpAny_bind (wpAny_field ho hd (x := rawInt (-1)) rfl ?_)
  show wpAny _ _ (if (-1 : Int) < 0 then _ else _) _ _ s
  rw [if_pos (by decide)]
  try dsimp only
  refine wpAny_bind (wpAny_rule ?_)
  refine wpAny_bind ?_
  wp_delta
  refine wpAny_bind (wpAny_setField ho hd (by simp) ?_)
  have ho2 := Heap.get?_update_self (Obj.mapFields (·.setIfInBounds 1 (rawInt (-1)))) ho (Obj.isFreed_of_fields (Obj.data_mapFields hd _))
  refine wpAny_setField (s := { s with heap := s.heap.update it (Obj.mapFields (·.setIfInBounds 1 (rawInt (-1)))) }) ho2 (Obj.data_mapFields hd _) (by simp) ?_
  try dsimp only
  first
  | show wpAny _ _ (newExc (.type "StopIteration") [] >>= _) _ _ _
  | (refine wpAny_bind ?_; show wpAny _ _ (newExc (.type "StopIteration") [] >>= _) _ _ _)
  | (refine wpAny_bind ?_; wp_delta; show wpAny _ _ (newExc (.type "StopIteration") [] >>= _) _ _ _)
  refine wpAny_bind ?_
  simp only [newExc, newTuple]
  refine wpAny_bind (wpAny_newObj_type ?_ (by size_fits))
  refine wpAny_bind (m := firstArgMember _ _) (wpAny_of_eq (a := Value.none) (by first | rfl | (simp only [firstArgMember]; rfl)) ?_)
  refine wpAny_newObj_type ?_ (by size_fits)
  simp only [raiseNew]
  refine wpAny_bind (wpAny_handled ?_)
  first | rw [show A.in1.handled = none from hh] | rw [hh]
  refine wpAny_bind (wpAny_pure (wpAny_throw ?_))
  refine hE _ _ ?_ ⟨_, Heap.get?_push_size _ rfl, rfl⟩
  refine ((?_ : Heap.ExtBut it s.heap _).push _).push _
  exact fun b ob hb e => (Heap.get?_update_other _ _ (Ne.symm hb)).trans ((Heap.get?_update_other _ _ (Ne.symm hb)).trans e)
end
theorem drawsRt {prog : Program} {w : World} {A : Around} (hh : A.handled = none) (it t : Addr) (hne : t ≠ it) (items : Array Value) (hsz : items.size ≤ sizeLine) :
    Draws prog w A it [it, t] items.size (fun i v => items[items.size - 1 - i]? = some v) (fun i h => i ≤ items.size ∧ RT.IsRt h it t ((items.size : Int) - 1 - (i : Nat)) ∧ IsTup h t items) where
  live := fun _ _ st => let ⟨o, ho, _⟩ := st.2.1; ⟨o, ho⟩
  frame := fun _ _ _ st hk => ⟨st.1, st.2.1.at fun o e => hk it (by simp) o e, let ⟨o, ho, r⟩ := st.2.2; ⟨o, hk t (by simp) o ho, r⟩⟩
  item := fun i s Q E hi st hQ => by
    obtain ⟨h0, h1, h2⟩ := st
    rw [show (items.size : Int) - 1 - ((i : Nat) : Int) = ((items.size - 1 - i : Nat) : Int) by omega] at h1
    refine nextOf_rt_item h1 h2 (x := items[items.size - 1 - i]'(by omega)) (by simp) hsz fun h' hit' hs' => ?_
    refine hQ _ h' _ (by simp) ⟨by omega, ?_, let ⟨o, ho, r⟩ := h2; ⟨o, (hs'.2 t hne).trans ho, r⟩⟩ hs'
    rw [show ((items.size - 1 - i : Nat) : Int) - 1 = (items.size : Int) - 1 - ((i + 1 : Nat) : Int) by omega] at hit'
    exact hit'
  done := fun s Q E st hE => by
    obtain ⟨h0, h1, h2⟩ := st
    rw [show (items.size : Int) - 1 - ((items.size : Nat) : Int) = -1 by omega] at h1
    exact nextOf_rt_end hh h1 hE
/-! ### zip of two of them begins -/
abbrev zrT (h : Heap) (i1 i2 : Addr) : Heap := h.push { cls := .type "tuple", data := .seq #[.ref i1, .ref i2] }
abbrev zrO (h : Heap) (i1 i2 : Addr) : Heap := (zrT h i1 i2).push { cls := .type "tuple", data := .seq #[.none, .none] }
abbrev zrZ (h : Heap) (i1 i2 : Addr) : Heap := (zrO h i1 i2).push { cls := .type "zip", data := .fields #[.none, .bool false, .bool false, .ref h.objs.size, .ref (zrT h i1 i2).objs.size] }
theorem meets_zip_newR {i1 i2 t1 t2 : Addr} {k1 k2 : Int} :
    Meets (Builtin.«zip.__new__» ⟨[.type "zip", .ref i1, .ref i2], []⟩) (fun _ R s => (RT.IsRt s.heap i1 t1 k1 ∧ RT.IsRt s.heap i2 t2 k2) ∧
      R (.ok (.ret (.ref (zrO s.heap i1 i2).objs.size))) { s with heap := zrZ s.heap i1 i2 }) :=
  .of_wp fun prog w A R s h => by
    obtain ⟨hp, g, d, tk, os⟩ := s; obtain ⟨⟨h1, h2⟩, h⟩ := h
    have hsub := sub_zip
    have q1 : ∀ {A' : Around} {E : Value → Shared → Prop} {Q : Value → Shared → Prop}, Q (.ref i1) ⟨hp, g, d, tk, os⟩ → wpAny (model prog w) A' (pyIter (.ref i1)) Q E ⟨hp, g, d, tk, os⟩ :=
      fun q => RT.iter_rt (s := ⟨hp, g, d, tk, os⟩) h1 q
    have q2 : ∀ {A' : Around} {E : Value → Shared → Prop} {Q : Value → Shared → Prop}, Q (.ref i2) ⟨hp, g, d, tk, os⟩ → wpAny (model prog w) A' (pyIter (.ref i2)) Q E ⟨hp, g, d, tk, os⟩ :=
      fun q => RT.iter_rt (s := ⟨hp, g, d, tk, os⟩) h2 q
    wp_walk using q1, q2
    exact ⟨_, rfl, h⟩
section
variable {prog : Program} {w : World} {A : Around} {E : Value → Shared → Prop} {s : Shared}
theorem zip_beginsR {i1 i2 t1 t2 : Addr} {k1 k2 : Int} {Q : Value → Shared → Prop} (h1 : RT.IsRt s.heap i1 t1 k1) (h2 : RT.IsRt s.heap i2 t2 k2)
    (h : ∀ h', IsZip h' (s.heap.objs.size + 2) s.heap.objs.size (s.heap.objs.size + 1) .none → IsTupOf2 h' s.heap.objs.size (.ref i1) (.ref i2) →
      IsTupOf2 h' (s.heap.objs.size + 1) .none .none → h'.objs.size = s.heap.objs.size + 3 →
      (∀ c o, s.heap.get? c = some o → h'.get? c = some o) → Q (.ref (s.heap.objs.size + 2)) { s with heap := h' }) :
    wpAny (model prog w) A (call (.type "zip") [.ref i1, .ref i2]) Q E s := by
  refine callType_new F.called_zip (by decide) (F.typeCall_zip_2 _ _) (F.newCall_zip_2 _ _) (fun obj => F.args_object_init_3 obj _ _) F.entry_zip_new
    (meets_zip_newR (t1 := t1) (t2 := t2) (k1 := k1) (k2 := k2)) ⟨⟨h1, h2⟩, ?_⟩
  have zT : (zrT s.heap i1 i2).objs.size = s.heap.objs.size + 1 := by rw [Heap.size_push]
  have zO : (zrO s.heap i1 i2).objs.size = s.heap.objs.size + 2 := by rw [Heap.size_push, zT]
  have zZ : (zrZ s.heap i1 i2).objs.size = s.heap.objs.size + 3 := by rw [Heap.size_push, zO]
  have gZ : (zrZ s.heap i1 i2).get? (zrO s.heap i1 i2).objs.size = some { cls := .type "zip", data := .fields #[.none, .bool false, .bool false, .ref s.heap.objs.size, .ref (zrT s.heap i1 i2).objs.size] } := Heap.get?_push_size _ rfl
  have gO : (zrZ s.heap i1 i2).get? (zrT s.heap i1 i2).objs.size = some { cls := .type "tuple", data := .seq #[.none, .none] } := Heap.get?_push_of_some _ (Heap.get?_push_size _ rfl)
  have gT : (zrZ s.heap i1 i2).get? s.heap.objs.size = some { cls := .type "tuple", data := .seq #[.ref i1, .ref i2] } := Heap.get?_push_of_some _ (Heap.get?_push_of_some _ (Heap.get?_push_size _ rfl))
  rw [zO, zT] at gZ
  rw [zT] at gO
  show _ ∧ _
  rw [zO]
  exact ⟨⟨_, gZ, rfl⟩, h _ gZ gT gO zZ fun c o e => Heap.get?_push_of_some _ (Heap.get?_push_of_some _ (Heap.get?_push_of_some _ e))⟩
end
/-! ### the loop -/
def ItzR (K : PySem.W.Frag) (a c : Addr) (n : Nat) : It :=
  ⟨fun i H => i < n ∧ ∃ (xs ys : List V) (x y : V), SqT K H a xs ∧ SqT K H c ys ∧ xs.length = n ∧ ys.length = n ∧ xs[n - 1 - i]? = some x ∧ ys[n - 1 - i]? = some y,
    fun i H v H' => ∃ T x y, v = .ref T ∧ H T = none ∧ H' = upd H T (.tup [x, y]) ∧ (∀ xs, SqT K H a xs → xs[n - 1 - i]? = some x) ∧ ∀ ys, SqT K H c ys → ys[n - 1 - i]? = some y,
    fun i H => ∃ xs ys : List V, SqT K H a xs ∧ SqT K H c ys ∧ xs.length = n ∧ ys.length = n ∧ i = n⟩
theorem rt_ne {h : Heap} {a it t : Addr} {i : Int} {its : Array Value} (x : IsTup h a its) (y : RT.IsRt h it t i) : a ≠ it := fun z => by
  subst z
  obtain ⟨o, h1, h2, _⟩ := x
  obtain ⟨o', h3, h4, _⟩ := y
  rw [h1] at h3
  cases h3
  rw [h2] at h4
  exact absurd h4 (by simp)
theorem turn_zipR {P : Program} {w : World} {K : PySem.W.Frag} {elts : List Expr} {kk : Nat} {tpos : Pos} {a c z TI TO i1 i2 : Addr} (n : Nat) (D : ZipSep2 z TI TO i1 i2 [i1, a] [i2, c]) :
    Turn P w K (.Tuple elts kk tpos) (ItzR K a c n) [z, TI, TO, i1, i2] z (fun i h => IsZip h z TI TO .none ∧ IsTupOf2 h TI (.ref i1) (.ref i2) ∧ (∃ x y, IsTupOf2 h TO x y) ∧ i ≤ n ∧ RT.IsRt h i1 a ((n : Int) - 1 - (i : Nat)) ∧ RT.IsRt h i2 c ((n : Int) - 1 - (i : Nat))) where
  mem := by simp
  obj := fun i h st q hq => by
    obtain ⟨hz, hTI, ⟨x, y, hTO⟩, _, h1, h2⟩ := st
    obtain ⟨o1, e1, _, d1⟩ := h1
    obtain ⟨o2, e2, _, d2⟩ := h2
    have e' : q = z ∨ q = TI ∨ q = TO ∨ q = i1 ∨ q = i2 := by simpa using hq
    rcases e' with q | q | q | q | q
    · rw [q]; exact ⟨_, hz, fun v q => nomatch q⟩
    · rw [q]; exact ⟨_, hTI, fun v q => nomatch q⟩
    · rw [q]; exact ⟨_, hTO, fun v q => nomatch q⟩
    · rw [q]; exact ⟨o1, e1, fun v z => by rw [d1] at z; cases z⟩
    · rw [q]; exact ⟨o2, e2, fun v z => by rw [d2] at z; cases z⟩
  keep := fun i h h' st k => by
    obtain ⟨hz, hTI, ⟨x, y, hTO⟩, hn, h1, h2⟩ := st
    exact ⟨k z (by simp) _ hz, k TI (by simp) _ hTI, ⟨x, y, k TO (by simp) _ hTO⟩, hn, h1.at fun o q => k i1 (by simp) o q, h2.at fun o q => k i2 (by simp) o q⟩
  item := by
    intro X hP hw hK hc i pins s σ H E I hf st hg
    subst hP hw hK
    obtain ⟨hz, hTI, ⟨x0, y0, hTO⟩, hin, h1, h2⟩ := st
    obtain ⟨hlt, xs, ys, x, y, hqx, hqy, hlx, hly, hx, hy⟩ := hg
    obtain ⟨its, rv, p, sz1⟩ := I.tuple hqx
    obtain ⟨its2, rv2, p2, sz2⟩ := I.tuple hqy
    obtain ⟨u, hu, ru⟩ := rv.get hx
    obtain ⟨u2, hu2, ru2⟩ := rv2.get hy
    have hzl : z < s.heap.objs.size := Heap.lt_size hz
    have l1 : its.toArray.size = n := by rw [List.size_toArray, ← rv.length, hlx]
    have l2 : its2.toArray.size = n := by rw [List.size_toArray, ← rv2.length, hly]
    have z1 : its.toArray.size ≤ sizeLine := by rw [l1, ← hlx]; exact sz1
    have z2 : its2.toArray.size ≤ sizeLine := by rw [l2, ← hly]; exact sz2
    have st1 : (i ≤ its.toArray.size ∧ RT.IsRt s.heap i1 a ((its.toArray.size : Int) - 1 - (i : Nat)) ∧ IsTup s.heap a its.toArray) := by rw [l1]; exact ⟨hin, h1, p⟩
    have st2 : (i ≤ its2.toArray.size ∧ RT.IsRt s.heap i2 c ((its2.toArray.size : Int) - 1 - (i : Nat)) ∧ IsTup s.heap c its2.toArray) := by rw [l2]; exact ⟨hin, h2, p2⟩
    refine wpAny_pyNext_zipD2_item D (drawsRt (A := X.A.in1) (I.ok.hd hc) i1 a (rt_ne p h1) its.toArray z1) (drawsRt (A := X.A.in1) (I.ok.hd hc) i2 c (rt_ne p2 h2) its2.toArray z2) hz hTI hTO st1 st2 (by omega) (by omega) fun v1 v2 h' tk g1 g2 z' TO' h1' h2' hT hsz hk => ?_
    have e1 : v1 = u := by
      rw [l1] at g1
      have : its[n - 1 - i]? = some v1 := by simpa using g1
      rw [hu] at this
      exact (Option.some.inj this).symm
    have e2 : v2 = u2 := by
      rw [l2] at g2
      have : its2[n - 1 - i]? = some v2 := by simpa using g2
      rw [hu2] at this
      exact (Option.some.inj this).symm
    subst e1 e2
    refine ⟨_, rfl, wpAny_letOwnedTupleGo_zip (s := { s with heap := h', toks := tk }) z' fun h'' z'' sb => ?_⟩
    have hT2 : h''.get? s.heap.objs.size = some { cls := .type "tuple", data := .seq #[v1, v2] } := (sb.2 _ (Nat.ne_of_gt hzl)).trans hT
    have new : ObjOk X.prog X.w (upd H s.heap.objs.size (.tup [x, y])) h'' s.heap.objs.size (.tup [x, y]) :=
      ⟨by show 2 ≤ sizeLine; decide, [v1, v2], .cons ru (.cons ru2 .nil), ⟨_, hT2, rfl, _, rfl⟩⟩
    have I1 : Inv X pins σ (upd H s.heap.objs.size (.tup [x, y])) { s with heap := h'', toks := tk } :=
      I.turnedNew (t' := tk) (ch := [z, TI, TO, i1, i2]) (fun q o hb e => (sb.2 q (fun q' => hb (by simp [q']))).trans (hk q o (fun q' => hb (by simp [q'])) (fun q' => hb (by simp [q'])) (fun q' => hb (by simp [q'])) (fun q' => hb (by simp [q'])) e)) hf (Nat.le_refl _) new
    refine ⟨.ref s.heap.objs.size, _, I1, rfl, ⟨_, x, y, rfl, I.hok.fresh (Nat.le_refl _), rfl, fun l hl => by rw [I.tuple_inj hl hqx]; exact hx, fun l hl => by rw [I.tuple_inj hl hqy]; exact hy⟩, ⟨z'', ?_, ⟨v1, v2, ?_⟩, by omega, ?_, ?_⟩, fun q hcm => ?_⟩
    · exact (sb.2 _ D.TIz).trans (hk _ _ D.TIz D.TITO D.TIi1 D.TIi2 hTI)
    · exact (sb.2 _ D.TOz).trans TO'
    · have := h1'.2.1
      rw [l1] at this
      exact this.at fun o q => (sb.2 _ (Ne.symm D.zi1)).trans q
    · have := h2'.2.1
      rw [l2] at this
      exact this.at fun o q => (sb.2 _ (Ne.symm D.zi2)).trans q
    · have hlt : q < s.heap.objs.size := by
        obtain ⟨_, e1, _⟩ := h1
        obtain ⟨_, e2, _⟩ := h2
        have e' : q = z ∨ q = TI ∨ q = TO ∨ q = i1 ∨ q = i2 := by simpa using hcm
        rcases e' with q | q | q | q | q
        · rw [q]; exact hzl
        · rw [q]; exact Heap.lt_size hTI
        · rw [q]; exact Heap.lt_size hTO
        · rw [q]; exact Heap.lt_size e1
        · rw [q]; exact Heap.lt_size e2
      rw [upd_ne (Nat.ne_of_lt hlt)]
      exact (hf q hcm).1
  done := by
    intro X hP hw hK hc i pins s σ H E I hf st hg
    subst hP hw hK
    obtain ⟨hz, hTI, ⟨x0, y0, hTO⟩, hin, h1, h2⟩ := st
    obtain ⟨xs, ys, hqx, hqy, hlx, hly, rfl⟩ := hg
    obtain ⟨its, rv, p, sz1⟩ := I.tuple hqx
    obtain ⟨its2, rv2, p2, sz2⟩ := I.tuple hqy
    have l1 : its.toArray.size = i := by rw [List.size_toArray, ← rv.length, hlx]
    have l2 : its2.toArray.size = i := by rw [List.size_toArray, ← rv2.length, hly]
    have z1 : its.toArray.size ≤ sizeLine := by rw [l1, ← hlx]; exact sz1
    have z2 : its2.toArray.size ≤ sizeLine := by rw [l2, ← hly]; exact sz2
    have st1 : (i ≤ its.toArray.size ∧ RT.IsRt s.heap i1 a ((its.toArray.size : Int) - 1 - (i : Nat)) ∧ IsTup s.heap a its.toArray) := by rw [l1]; exact ⟨hin, h1, p⟩
    have st2 : (i ≤ its2.toArray.size ∧ RT.IsRt s.heap i2 c ((its2.toArray.size : Int) - 1 - (i : Nat)) ∧ IsTup s.heap c its2.toArray) := by rw [l2]; exact ⟨hin, h2, p2⟩
    exact wpAny_pyNext_zipD2_end D (drawsRt (A := X.A.in1) (I.ok.hd hc) i1 a (rt_ne p h1) its.toArray z1) (drawsRt (A := X.A.in1) (I.ok.hd hc) i2 c (rt_ne p2 h2) its2.toArray z2) hz hTI hTO (i := i) st1 st2
      (by omega) (by omega) (by omega) fun h' tk hk => ⟨rfl, I.turnedL (t' := tk) (ch := [z, TI, TO, i1, i2]) (fun q o hb e =>
      hk q o (fun q' => hb (by simp [q'])) (fun q' => hb (by simp [q'])) (fun q' => hb (by simp [q'])) (fun q' => hb (by simp [q'])) e) hf⟩
  self := fun A i s Q E st h => wpAny_pyIter_zip st.1 h
theorem notMem2 {x y z : Nat} (h1 : x ≠ y) (h2 : x ≠ z) : x ∉ [y, z] := by simp [h1, h2]
theorem sepR {i1 i2 a c : Nat} (h1 : i1 < i2) (h2 : a < i2) (h3 : c < i2) (na : a ≠ i1) (nc : c ≠ i1) : ZipSep2 (i2 + 1 + 2) (i2 + 1) (i2 + 1 + 1) i1 i2 [i1, a] [i2, c] :=
  { TIz := show (i2 + 1 : Nat) ≠ i2 + 1 + 2 by omega, TOz := show (i2 + 1 + 1 : Nat) ≠ i2 + 1 + 2 by omega, TITO := show (i2 + 1 : Nat) ≠ i2 + 1 + 1 by omega,
    TIi1 := show (i2 + 1 : Nat) ≠ i1 by omega, mem1 := List.mem_cons_self .., zf1 := notMem2 (by omega) (by omega), Tf1 := notMem2 (by omega) (by omega),
    TIi2 := show (i2 + 1 : Nat) ≠ i2 by omega, mem2 := List.mem_cons_self .., zf2 := notMem2 (by omega) (by omega), Tf2 := notMem2 (by omega) (by omega),
    sep1_2 := notMem2 (by omega) (by omega), sep2_1 := notMem2 (by omega) (by omega) }
/-- both evaluated, the one behind the other -/
def iZipR (K : PySem.W.Frag) (t1 t2 : TE) : TI := fun σ H R => t1 σ H fun v H1 => ∃ a xs, v = .ref a ∧ SqT K H1 a xs ∧ t2 σ H1 fun u H2 => ∃ c ys, u = .ref c ∧ SqT K H2 c ys ∧ SqT K H2 a xs ∧ xs.length = ys.length ∧ R (ItzR K a c xs.length) H2
theorem pi_zipR {X : Cx} {e e2 : Expr} {t1 t2 : TE} {p p1 p2 pos pos1 pos2 tpos : Pos} {elts : List Expr} {kk : Nat} (hg : Gl X "zip") (hm : X.mg "zip" = none) (hg2 : Gl X "reversed") (hm2 : X.mg "reversed" = none) (h1 : PE X e t1) (h2 : PE X e2 t2)
    (hs1 : starEach [e] X.env = (false, eval e X.env) :: starEach [] X.env) (hs2 : starEach [e2] X.env = (false, eval e2 X.env) :: starEach [] X.env) :
    PI X (.Tuple elts kk tpos) (.Call (.Name "zip" p) [.Call (.Name "reversed" p1) [e] [] pos1, .Call (.Name "reversed" p2) [e2] [] pos2] [] pos) (iZipR X.K t1 t2) := by
  refine ⟨fun pins s σ H R I h => ?_⟩
  have hsA : starEach [.Call (.Name "reversed" p1) [e] [] pos1, .Call (.Name "reversed" p2) [e2] [] pos2] X.env = (false, eval (.Call (.Name "reversed" p1) [e] [] pos1) X.env) :: starEach [.Call (.Name "reversed" p2) [e2] [] pos2] X.env := rfl
  have hsB : starEach [.Call (.Name "reversed" p2) [e2] [] pos2] X.env = (false, eval (.Call (.Name "reversed" p2) [e2] [] pos2) X.env) :: starEach [] X.env := rfl
  refine Call_ (ld_blt I hg hm PyProof.Rows.boot_zip (PyProof.Rows.callWith_type1 (args_cons (Call_ (ld_blt I hg2 hm2 PyProof.Rows.boot_reversed (PyProof.Rows.callWith_type1 (args_cons (thn (h1.run pins s σ H _ I h) fun u s1 ⟨v, H1, I1, r1, q1⟩ => args_nil ?_) hs1) hs1 rfl))) hsA) hsA rfl))
  have hn := line63
  obtain ⟨a, xs, rfl, hq, q2⟩ := q1
  obtain rfl : u = Value.ref a := r1
  obtain ⟨its, rv, p', hz⟩ := I1.tuple hq
  have hl := rv.length
  refine RT.call_reversed_tup p' (fun A E Q k => len_tuple p' (by simp only [List.size_toArray] <;> omega) k) ?_
  obtain ⟨i1, hi1⟩ : ∃ i1, i1 = s1.heap.objs.size := ⟨_, rfl⟩
  have k0 : ∀ b o, s1.heap.get? b = some o → (s1.heap.push (RT.rtObj a ((its.toArray.size : Int) - 1))).get? b = some o := fun b o e => Heap.get?_push_of_some _ e
  have I2 : Inv X pins σ H1 { s1 with heap := s1.heap.push (RT.rtObj a ((its.toArray.size : Int) - 1)), toks := s1.toks + 1 + 1 } := I1.kept (t' := s1.toks + 1 + 1) k0
  have g1 : (s1.heap.push (RT.rtObj a ((its.toArray.size : Int) - 1))).get? i1 = some (RT.rtObj a ((its.toArray.size : Int) - 1)) := by
    rw [hi1]
    exact Heap.get?_push_size _ rfl
  have f1 : FpOk X pins H1 i1 := I1.fpOk (by omega) (I1.hok.fresh (by omega))
  have I2p := I2.pinned (fp := [i1]) (fun b hb => by rw [List.mem_singleton.mp hb]; exact f1) (fun b hb => by rw [List.mem_singleton.mp hb]; exact ⟨_, g1, fun v z => by cases z⟩)
  rw [← hi1]
  refine args_cons (Call_ (ld_blt I2p hg2 hm2 PyProof.Rows.boot_reversed (PyProof.Rows.callWith_type1 (args_cons (thn (h2.run _ _ σ H1 _ I2p q2) fun u s3 ⟨v, H3, I3, r3, q3⟩ => args_nil ?_) hs2) hs2 rfl))) hsB
  obtain ⟨c, ys, rfl, hq3, hq4, hll, q5⟩ := q3
  obtain rfl : u = Value.ref c := r3
  obtain ⟨its2, rv2, p3, hz3⟩ := I3.tuple hq3
  obtain ⟨its1, rv1, p4, hz4⟩ := I3.tuple hq4
  have hl2 := rv2.length
  have hl1 := rv1.length
  have pin1 := I3.pin (i1, RT.rtObj a ((its.toArray.size : Int) - 1)) (List.mem_append_right _ (List.mem_append_right _ (by
    unfold pinsAt
    exact List.mem_filterMap.mpr ⟨i1, by simp, by simp only; rw [g1]; rfl⟩)))
  simp only at pin1
  obtain ⟨g3, n3, _⟩ := pin1
  refine RT.call_reversed_tup p3 (fun A E Q k => len_tuple p3 (by simp only [List.size_toArray] <;> omega) k) ?_
  obtain ⟨i2, hi2⟩ : ∃ i2, i2 = s3.heap.objs.size := ⟨_, rfl⟩
  have lt1 : i1 < s3.heap.objs.size := Heap.lt_size g3
  have k1 : ∀ b o, s3.heap.get? b = some o → (s3.heap.push (RT.rtObj c ((its2.toArray.size : Int) - 1))).get? b = some o := fun b o e => Heap.get?_push_of_some _ e
  have g2 : (s3.heap.push (RT.rtObj c ((its2.toArray.size : Int) - 1))).get? i2 = some (RT.rtObj c ((its2.toArray.size : Int) - 1)) := by
    rw [hi2]
    exact Heap.get?_push_size _ rfl
  have I4 : Inv X pins σ H3 { s3 with heap := s3.heap.push (RT.rtObj c ((its2.toArray.size : Int) - 1)), toks := s3.toks + 1 + 1 } := I3.unpinned.kept (t' := s3.toks + 1 + 1) k1
  rw [← hi2]
  refine args_nil ?_
  have hsz : (s3.heap.push (RT.rtObj c ((its2.toArray.size : Int) - 1))).objs.size = i2 + 1 := by rw [Heap.size_push, hi2]
  have R1 : RT.IsRt (s3.heap.push (RT.rtObj c ((its2.toArray.size : Int) - 1))) i1 a ((its.toArray.size : Int) - 1) := ⟨_, k1 _ _ g3, rfl, rfl⟩
  have R2 : RT.IsRt (s3.heap.push (RT.rtObj c ((its2.toArray.size : Int) - 1))) i2 c ((its2.toArray.size : Int) - 1) := ⟨_, g2, rfl, rfl⟩
  refine zip_beginsR (s := { s3 with heap := s3.heap.push (RT.rtObj c ((its2.toArray.size : Int) - 1)), toks := s3.toks + 1 + 1 }) R1 R2 fun h' z1 z2 z3 z4 hk => wpAny_pyIter_zip z1 ?_
  simp only [hsz] at z1 z2 z3 z4 ⊢
  have I5 := I4.kept (t' := s3.toks + 1 + 1) hk
  have lt12 : i1 < i2 := by
    rw [hi2]
    exact lt1
  have la : a < i2 := by
    rw [hi2]
    obtain ⟨o, ho, _⟩ := p4
    exact Heap.lt_size ho
  have lc : c < i2 := by
    rw [hi2]
    obtain ⟨o, ho, _⟩ := p3
    exact Heap.lt_size ho
  have na : a ≠ i1 := rt_ne p4 (⟨_, g3, rfl, rfl⟩ : RT.IsRt s3.heap i1 a _)
  have nc : c ≠ i1 := rt_ne p3 (⟨_, g3, rfl, rfl⟩ : RT.IsRt s3.heap i1 a _)
  have D := sepR lt12 la lc na nc
  refine ⟨i2 + 1 + 2, [i2 + 1 + 2, i2 + 1, i2 + 1 + 1, i1, i2], _, _, H3, rfl, I5, turn_zipR xs.length D, ⟨z1, z2, ⟨_, _, z3⟩, Nat.zero_le _, ?_, ?_⟩, fun q hcm => ?_, q5⟩
  · have e : ((its.toArray.size : Nat) : Int) - 1 = (xs.length : Int) - 1 - ((0 : Nat) : Int) := by simp only [List.size_toArray]; omega
    rw [← e]
    exact R1.at fun o q => hk _ _ q
  · have e : ((its2.toArray.size : Nat) : Int) - 1 = (xs.length : Int) - 1 - ((0 : Nat) : Int) := by simp only [List.size_toArray]; omega
    rw [← e]
    exact R2.at fun o q => hk _ _ q
  · by_cases e1 : q = i1
    · subst e1
      exact ⟨n3, f1.2⟩
    · have e' : q = i2 + 1 + 2 ∨ q = i2 + 1 ∨ q = i2 + 1 + 1 ∨ q = i1 ∨ q = i2 := by simpa using hcm
      have hle : s3.heap.objs.size ≤ q := by
        rw [← hi2]
        rcases e' with z | z | z | z | z <;> first
          | exact absurd z e1
          | (rw [z]; first
            | exact Nat.le_refl _
            | exact Nat.le_add_right _ _
            | exact Nat.le_trans (Nat.le_add_right _ _) (Nat.le_add_right _ _))
      exact I3.unpinned.fpOk hle (I3.hok.fresh hle)
/-! ### what it gives -/
section
variable {K : PySem.W.Frag} {F : Hp}
theorem walk_zipR {a c : Addr} {xs ys : List V} (hl : xs.length = ys.length) : Walk (ItzR K a c xs.length) xs.length (fun H => SqT K H a xs ∧ SqT K H c ys) (YPair (fun i => xs[xs.length - 1 - i]?) (fun i => ys[xs.length - 1 - i]?)) := by
  refine ⟨fun i _ hi q => ?_, fun _ q => ⟨xs, ys, q.1, q.2, rfl, hl.symm, rfl⟩, fun i H v H' _ q y => ?_⟩
  · have h1 : xs.length - 1 - i < xs.length := by omega
    have h2 : xs.length - 1 - i < ys.length := by omega
    exact ⟨hi, xs, ys, xs[xs.length - 1 - i], ys[xs.length - 1 - i], q.1, q.2, rfl, hl.symm, by simp [h1], by simp [h2]⟩
  · obtain ⟨T, x, y, h1, h2, h3, h4, h5⟩ := y
    exact ⟨T, x, y, h1, h2, h3, h4 xs q.1, h5 ys q.2⟩
theorem iter_zipR {a c : Addr} {xs ys : List V} {ds es : List D} (h1 : SqT K F a xs) (r1 : RlAll K F xs ds) (h2 : SqT K F c ys) (r2 : RlAll K F ys es) (hl : ds.length = es.length) : IterOk K F (pairs2 ds.reverse es.reverse) (ItzR K a c xs.length) := by
  have l1 := r1.length
  have l2 := r2.length
  have hlx : xs.length = ys.length := by omega
  have rev : ∀ {vs : List V} {gs : List D} {n : Nat}, RlAll K F vs gs → n = vs.length → ∀ i v d, vs[n - 1 - i]? = some v → gs.reverse[i]? = some d → Rl K F v d := by
    intro vs gs n r hn i v d e1 e2
    have l := r.length
    have hi : i < gs.length := by
      have := (List.getElem?_eq_some_iff.mp e2).1
      rwa [List.length_reverse] at this
    rw [List.getElem?_reverse hi] at e2
    obtain ⟨v', q1, q2⟩ := r.get e2
    rw [show gs.length - 1 - i = n - 1 - i by omega, e1] at q1
    cases q1
    exact q2
  exact iter_pair (walk_zipR hlx) (fun H S => ⟨Same.seqT S h1, Same.seqT S h2⟩) (by rw [List.length_reverse, List.length_reverse]; omega) (rev r1 rfl) (rev r2 hlx)
theorem Rl.tupv {v : V} {ds : List D} (h : Rl K F v (.tuple ds)) : ∃ a xs, v = .ref a ∧ SqT K F a xs ∧ RlAll K F xs ds := by
  cases h with
  | tup h r => exact ⟨_, _, rfl, .inl (.inl h), r⟩
end
end Tw

set_option linter.all false
set_option maxRecDepth 100000
set_option maxHeartbeats 4000000
set_option autoImplicit false
/-! t[::-1] of a tuple. -/
namespace Tw
open PySem PySem.Spec PyProof.Rows L2 HT
section
variable {prog : Program} {w : World} {A : Around} {E : Value → Shared → Prop} {s : Shared}
theorem adjust_rev (n : Nat) : Builtin.Slice.sliceAdjust none none (-1) (n : Int) = ((n : Int) - 1, -1) := by
  unfold Builtin.Slice.sliceAdjust
  simp
theorem places_rev (n : Nat) : Builtin.Slice.slicePlaces ((n : Int) - 1) (-1) (-1) = n := by
  unfold Builtin.Slice.slicePlaces
  have h1 : ¬ ((-1 : Int) > 0) := by decide
  simp only [h1, if_false]
  by_cases h : n = 0
  · subst h
    simp
  · have e : ((n : Int) - 1 - -1 - 1) / (- -1) = (n : Int) - 1 := by
      rw [show (- -1 : Int) = 1 by decide, Int.ediv_one]
      omega
    split
    · rw [e]
      omega
    · omega
theorem sliceApplied_rev {sl : Addr} {vl vu vs : Value} {n : Nat} {Q : Int × Int × Nat → Shared → Prop} (hs : s.heap.IsSliceOf sl vl vu vs) (pl : IsPart vl none) (pu : IsPart vu none) (ps : IsPart vs (some (-1)))
    (h : Q ((n : Int) - 1, -1, n) s) : wpAny (model prog w) A (Builtin.Slice.sliceApplied (.ref sl) (pure (n : Int))) Q E s := by
  obtain ⟨os, hos, hcs, hds⟩ := id hs
  unfold Builtin.Slice.sliceApplied Builtin.Slice.sliceFields
  refine wpAny_bind (wpAny_bind (wpAny_field hos hds (x := vl) rfl (wpAny_bind (wpAny_field hos hds (x := vu) rfl (wpAny_bind (wpAny_field hos hds (x := vs) rfl (wpAny_pure ?_)))))))
  refine wpAny_bind (slicePart_ ps ?_)
  show wpAny _ _ (if ((-1 : Int) == 0) = true then _ else _) _ _ s
  rw [if_neg (by decide)]
  refine wpAny_bind (slicePart_ pl (wpAny_bind (slicePart_ pu (wpAny_bind (wpAny_pure ?_)))))
  show wpAny _ _ (match Builtin.Slice.sliceAdjust none none (-1) (n : Int) with | (lo, hi) => pure (lo, (-1 : Int), Builtin.Slice.slicePlaces lo hi (-1))) _ _ s
  rw [adjust_rev n]
  show wpAny _ _ (pure ((n : Int) - 1, (-1 : Int), Builtin.Slice.slicePlaces ((n : Int) - 1) (-1) (-1))) _ _ s
  rw [places_rev]
  exact wpAny_pure h
theorem pick_rev (xs : Array Value) : ((List.range xs.size).filterMap fun (m : Nat) => xs[((xs.size : Int) - 1 + (m : Int) * -1).toNat]?).toArray = xs.toList.reverse.toArray := by
  have e : (List.range xs.size).filterMap (fun (m : Nat) => xs[((xs.size : Int) - 1 + (m : Int) * -1).toNat]?) = ((List.range xs.size).map fun k => xs.size - 1 - k).filterMap fun m => xs[m]? := by
    rw [List.filterMap_map]
    have fc : ∀ l : List Nat, (∀ m ∈ l, m < xs.size) → l.filterMap (fun (m : Nat) => xs[((xs.size : Int) - 1 + (m : Int) * -1).toNat]?) = l.filterMap ((fun m => xs[m]?) ∘ fun k => xs.size - 1 - k) := by
      intro l
      induction l with
      | nil => exact fun _ => rfl
      | cons m r ih =>
        intro h
        have hm := h m (by simp)
        have e : ((xs.size : Int) - 1 + (m : Int) * -1).toNat = xs.size - 1 - m := by omega
        simp only [List.filterMap_cons, Function.comp, e]
        rw [ih fun k hk => h k (by simp [hk])]
    exact fc _ fun m hm => List.mem_range.mp hm
  rw [e, PySem.W.krv_range, List.filterMap_reverse, PySem.W.krv_all]
theorem getItem_tuple_rev {t sl : Addr} {items : Array Value} {vl vu vs : Value} {Q : Value → Shared → Prop} (ht : IsTup s.heap t items) (hs : s.heap.IsSliceOf sl vl vu vs) (pl : IsPart vl none) (pu : IsPart vu none) (ps : IsPart vs (some (-1)))
    (h : Q (.ref s.heap.objs.size) { s with heap := s.heap.push { cls := .type "tuple", data := .seq items.toList.reverse.toArray } })
    (hsz : items.size ≤ sizeLine) : wpAny (model prog w) A (getItem (.ref t) (.ref sl)) Q E s := by
  have htake : sizeOk (.seq items.toList.reverse.toArray) := by
    show items.toList.reverse.toArray.size ≤ sizeLine
    rw [List.size_toArray, List.length_reverse, Array.length_toList]
    exact hsz
  obtain ⟨os, hos, hcs, hds⟩ := id hs
  have hTs : s.TypeIs (.ref sl) "slice" := ⟨os, hos, hcs⟩
  unfold getItem
  try with_reducible refine wpAny_holding ?_
  first | refine wpAny_bind (wpAny_pure ?_) | skip
  refine wpAny_bind (wpAny_sequenceKey ht.typeIs (by decide) ?_)
  refine wpAny_bind (wpAny_callSpecial?_slot (name := Str.ofString "__getitem__") ht.typeIs PyProof.Rows.slot_tuple_getitem
    (wpAny_call_entry PyProof.Rows.slot_tuple_getitem ht.typeIs entry_tuple_getitem ?_ (args_tuple_getitem _ _)))
  show wpAny _ _ (Builtin.Tuple.tupleItemsOf (.ref t) >>= _) _ _ s
  refine wpAny_bind (tupleItemsOf_ ht ?_)
  refine wpAny_bind (wpAny_typeOf hTs ?_)
  rw [if_pos (by decide)]
  refine wpAny_bind (sliceApplied_rev hs pl pu ps ?_)
  have hno : ¬ ((((items.size : Int) - 1) == 0 && (-1 : Int) == 1 && items.size == items.size) = true) := by
    intro q
    rw [Bool.and_eq_true, Bool.and_eq_true] at q
    exact absurd q.1.2 (by decide)
  show wpAny _ _ (if (((items.size : Int) - 1) == 0 && (-1 : Int) == 1 && items.size == items.size) = true then _ else _) _ _ s
  rw [if_neg hno, pick_rev]
  first
    | exact wpAny_bind (m := Builtin.Tuple.tupleExact _) (wpAny_newObj_type (wpAny_pure ⟨_, rfl, wpAny_pure h⟩) htake)
    | exact wpAny_bind (m := Builtin.Tuple.tupleExact _) (wpAny_newObj_type (wpAny_bind (wpAny_pure (wpAny_pure ⟨_, rfl, wpAny_pure h⟩))) htake)
    | exact wpAny_bind (wpAny_bind (m := Builtin.Tuple.tupleExact _) (wpAny_newObj_type (wpAny_pure (wpAny_pure ⟨_, rfl, wpAny_pure h⟩)) htake))
    | exact wpAny_bind (wpAny_bind (m := Builtin.Tuple.tupleExact _) (wpAny_newObj_type (wpAny_pure ⟨_, rfl, wpAny_pure h⟩) htake))
end
def tRevA (K : PySem.W.Frag) (te : TE) : TE := fun σ H Q => te σ H fun x H1 => ∃ a xs, x = .ref a ∧ ((SqL K H1 a xs ∧ ∀ p, H1 p = none → Q (.ref p) (upd H1 p (.lst xs.reverse))) ∨ (SqT K H1 a xs ∧ ∀ p, H1 p = none → Q (.ref p) (upd H1 p (.tup xs.reverse))))
theorem pe_revA {X : Cx} {e : Expr} {te : TE} {k : Nat} {p1 p2 p3 pos : Pos} (he : PE X e te) : PE X (.Subscript e (.Slice none none (some (.UnaryOp .USub (.Constant (.int 1) k p1) p2)) p3) pos) (tRevA X.K te) := by
  refine ⟨fun pins s σ H Q I h => ?_⟩
  refine Subscript_ (thn (he.run pins s σ H _ I h) fun v s1 ⟨x, H1, I1, r1, q1⟩ => ?_)
  obtain ⟨a, xs, ex, q⟩ := q1
  subst ex
  cases r1
  have hst : PO X (some (.UnaryOp .USub (.Constant (.int 1) k p1) p2)) (tPart (tUn (rU fun i => .int (-i)) (tC (.int 1)))) := po_some (pe_un un_neg pe_int)
  refine wpAny_Slice (thn (po_none.run pins s1 σ H1 (fun o H2 => o = none ∧ H2 = H1) I1 ⟨rfl, rfl⟩) fun vl s2 ⟨l, H2, I2, pl, el, e2⟩ => ?_)
  subst el e2
  refine thn (po_none.run pins s2 σ H2 (fun o H3 => o = none ∧ H3 = H2) I2 ⟨rfl, rfl⟩) fun vu s3 ⟨u, H3, I3, pu, eu, e3⟩ => ?_
  subst eu e3
  refine thn (hst.run pins s3 σ H3 (fun o H4 => o = some (-1) ∧ H4 = H3) I3 ⟨1, rfl, -1, rfl, rfl, rfl⟩) fun vs s4 ⟨o, H4, I4, ps, eo, e4⟩ => ?_
  subst eo e4
  have I5 : Inv X pins σ H4 { s4 with heap := s4.heap.push { cls := .type "slice", data := .fields #[vl, vu, vs] } } := I4.kept (t' := s4.toks) fun b ob q => Heap.get?_push_of_some _ q
  show wpAny (model X.prog X.w) X.A (subscriptTail e (.Slice none none (some (.UnaryOp .USub (.Constant (.int 1) k p1) p2)) p3) (.ref a) (.ref s4.heap.objs.size)) (EP X pins σ Q) X.xe { s4 with heap := s4.heap.push { cls := .type "slice", data := .fields #[vl, vu, vs] } }
  rcases q with ⟨hx, q⟩ | ⟨hx, q⟩
  · obtain ⟨its, r, ht, hz⟩ := I5.list hx
    have hlen := r.length
    refine tail_any (ops := [.ref a, .ref s4.heap.objs.size]) ht.isList.typeIs (PySem.slot_list_getitem.lookup) ?_ (by with_unfolding_all rfl)
    refine wpAny_getItem_list_slice ht.isList (Heap.IsSliceOf.new _ vl vu vs) pl pu ps (by decide) ?_ (by rw [List.size_toArray]; omega)
    rw [PySem.W.krv_pick]
    refine ⟨.ref _, _, I5.laid (t' := s4.toks) (o := .lst xs.reverse) (fun b ob q => Heap.get?_push_of_some _ q) (Nat.le_refl _) ?_, rfl, q _ (I5.hok.fresh (Nat.le_refl _))⟩
    exact ⟨by rw [List.length_reverse]; exact hz, _, 0, r.reverse, Heap.get?_push_size _ rfl⟩
  · obtain ⟨its, r, ht, hz⟩ := I5.tuple hx
    have hlen := r.length
    refine tail_any (ops := [.ref a, .ref s4.heap.objs.size]) ht.typeIs (PyProof.Rows.slot_tuple_getitem.lookup) ?_ (by with_unfolding_all rfl)
    refine getItem_tuple_rev ht (Heap.IsSliceOf.new _ vl vu vs) pl pu ps ?_ (by rw [List.size_toArray]; omega)
    refine ⟨.ref _, _, I5.laid (t' := s4.toks) (o := .tup xs.reverse) (fun b ob q => Heap.get?_push_of_some _ q) (Nat.le_refl _) ?_, rfl, q _ (I5.hok.fresh (Nat.le_refl _))⟩
    exact ⟨by rw [List.length_reverse]; exact hz, its.reverse, r.reverse, ⟨_, Heap.get?_push_size _ rfl, rfl, _, rfl⟩⟩
end Tw

set_option linter.all false
set_option maxRecDepth 100000
set_option maxHeartbeats 4000000
set_option autoImplicit false
/-! Calls where no repr runs around; the readings of lists of arguments, displays, calls, comprehensions. -/
namespace Tw
open PySem PySem.Spec PyProof.Rows L2

/-- as a def's promise, where no guard stands around -/
structure FnG (P : Program) (w : World) (K : PySem.W.Frag) (mg : Str → Option Value) (base : Heap) (k : Nat) (f : Addr) (fd : FuncData) (ps : List Str) (sp : Sp) : Prop where
  len : ∀ (vs : List V) (H : Hp) (Q : VK) (E : XK), sp vs H Q E → vs.length = ps.length
  run : ∀ (A : Around) (outer : List Env) (s : Shared) (H : Hp) (args : Args) (us : List Value) (vs : List V) (Q : VK) (E : XK), A.guards = some [] → Room k A → Env0 P w K mg base A outer s H →
    BindsTo s fd args (ps.zip us) → Vals vs us → sp vs H Q E → codeAny (model P w) A (.call (.ref f) args) (CR CX0 outer P w H s Q E) s
section
variable {X : Cx} {k : Nat} {f : Addr} {fd : FuncData} {ps : List Str} {sp : Sp}
theorem FnG.call {pins : List (Addr × Obj)} {σ : Sl} {H : Hp} {s : Shared} {Q : VK} {us : List Value} {vs : List V} (F : FnG X.prog X.w X.K X.mg X.base k f fd ps sp) (hg : X.A.guards = some []) (hr : Room k X.A)
    (hb : Binds X.K fd ps []) (I : L2.Inv X pins σ H s) (r : Vals vs us) (h : sp vs H Q E0) : wpAny (model X.prog X.w) X.A (PySem.call (.ref f) us) (EP X pins σ Q) X.xe s := by
  have hl : us.length = ps.length := r.length.symm.trans (F.len _ _ _ _ h)
  have hb' := hb s us I.kIn (by rw [List.append_nil]; exact hl)
  rw [List.append_nil] at hb'
  refine wpAny_call (codeAny_mono (F.run X.A X.stack s H ⟨us, []⟩ us vs Q E0 hg hr I.env0 hb' r h) ?_)
  rintro (e | fl) s' hq
  · exact False.elim hq
  · cases fl with
    | ret u => exact I.after hq
    | _ => exact False.elim hq
theorem pe_callG {x : Str} {p pos : Pos} {e : Expr} {es : List Expr} {t : TA} (F : FnG X.prog X.w X.K X.mg X.base k f fd ps sp) (hgd : X.A.guards = some []) (hr : Room k X.A) (hg : Gl X x) (hm : X.mg x = some (.ref f))
    (hk : PySem.W.keepIn X.K (.ref f) = true) (hb : Binds X.K fd ps []) (ha : PA X (e :: es) t) (hdb : (x == ("__debug__" : Str)) = false) (he : starEach (e :: es) X.env = (false, eval e X.env) :: starEach es X.env)
    (hpl : (backTo pos (starEach es X.env)).any (·.1) = false) : PE X (.Call (.Name x p) (e :: es) [] pos) (tCall sp [] E0 t) := by
  constructor
  intro pins s σ H Q I h
  refine wpAny_Call_Name_kw (ld_glob I hg hm ?_ hdb)
  refine PySem.W.callWith_K (h₀ := X.base) I.ok.mod.kin hk (thn (ha.run pos pins s σ H _ I h) ?_) he hpl
  rintro us s1 ⟨vs, H1, I1, r, q⟩
  rw [List.append_nil] at q
  exact ⟨I1.kIn, F.call hgd hr hb I1 r q⟩
end

section
variable {X : Cx} {T : List Fn} {K : PySem.W.Frag}
theorem EvRs.base {F H H0 H00 : Hp} {σ : Sl} (d : ∀ b, H0 b = none → H00 b = none) : ∀ {vs : List V} {es : List EV}, EvRs K F H H0 σ vs es → EvRs K F H H00 σ vs es
  | _, _, .nil => .nil
  | _, _, .cons h t => .cons (h.base d) (EvRs.base d t)
theorem EvRs.carry {F H F' H' H0 : Hp} {σ : Sl} {s s1 : En} (x : RS K F H σ s F' H' σ s1) (n : ∀ a, OwnA σ s a → H0 a ≠ none) : ∀ {vs : List V} {es : List EV}, EvRs K F H H0 σ vs es → EvRs K F' H' H0 σ vs es
  | _, _, .nil => .nil
  | _, _, .cons h t => .cons (h.carry x n) (EvRs.carry x n t)
theorem tmps_new {F H H0 : Hp} {σ : Sl} {w : V} : ∀ {vs : List V} {es : List EV}, EvRs K F H H0 σ vs es → w ∈ TmpsOk.tmps vs es → ∃ b, w = .ref b ∧ H0 b = none
  | _, _, .nil, h => by simp [TmpsOk.tmps] at h
  | _, _, .cons (v := v) (e := e) h t, m => by
    cases e with
    | own d =>
      simp only [TmpsOk.tmps, List.mem_cons] at m
      rcases m with rfl | m
      · obtain ⟨a, o, rfl, _⟩ := h.1.at
        exact ⟨a, rfl, h.2 a rfl⟩
      · exact tmps_new t m
    | sh d => exact tmps_new t (by simpa only [TmpsOk.tmps] using m)
    | slot i => exact tmps_new t (by simpa only [TmpsOk.tmps] using m)
theorem tE_nil {σ : Sl} {H : Hp} {Q : List V → Hp → Prop} (h : tE K T .nil σ H Q) : tNil σ H Q := by
  obtain ⟨F, s, es, s', er, ev, q⟩ := h
  simp only [evalEs, Option.some.injEq, Prod.mk.injEq] at ev
  obtain ⟨rfl, rfl⟩ := ev
  exact q [] F H (.refl er) .nil trivial
theorem tE_cons {a : ME} {r : MEs} {σ : Sl} {H : Hp} {Q : List V → Hp → Prop} (h : tE K T (.cons a r) σ H Q) : tCons (tM K T a) (tE K T r) σ H Q := by
  obtain ⟨F, s, es, s', er, ev, q⟩ := h
  simp only [evalEs] at ev
  cases ea : evalE T a s with
  | none => rw [ea] at ev; simp at ev
  | some p =>
    obtain ⟨e1, s1⟩ := p
    rw [ea] at ev
    simp only at ev
    cases eb : evalEs T r s1 with
    | none => rw [eb] at ev; simp at ev
    | some p =>
      obtain ⟨e2, s2⟩ := p
      rw [eb] at ev
      simp only [Option.some.injEq, Prod.mk.injEq] at ev
      obtain ⟨rfl, rfl⟩ := ev
      refine ⟨F, s, e1, s1, er, ea, fun x F1 H1 x1 r1 => ⟨F1, s1, e2, s2, x1.er, eb, fun vs F2 H2 x2 r2 tk => ?_⟩⟩
      refine q (x :: vs) F2 H2 (x1.trans x2) (.cons (r1.carry x2 x1.notOwn) (r2.base x1.st.dom)) ?_
      cases e1 with
      | own d =>
        refine ⟨fun m => ?_, tk⟩
        obtain ⟨b, rfl, hb⟩ := tmps_new r2 m
        obtain ⟨a', o, e, ha, _⟩ := r1.1.at
        cases e
        rw [hb] at ha; cases ha
      | sh d => exact tk
      | slot i => exact tk
theorem tT_nil {σ : Sl} {H : Hp} {Q : List V → Hp → Prop} (h : tT K T .nil σ H Q) : tNil σ H Q := by
  obtain ⟨F, s, es, s', er, ev, q⟩ := h
  simp only [evalTs, Option.some.injEq, Prod.mk.injEq] at ev
  obtain ⟨rfl, rfl⟩ := ev
  exact q [] F H (.refl er) .nil
theorem tT_cons {a : ME} {r : MEs} {σ : Sl} {H : Hp} {Q : List V → Hp → Prop} (h : tT K T (.cons a r) σ H Q) : tCons (tD K T a) (tT K T r) σ H Q := by
  obtain ⟨F, s, es, s', er, ev, q⟩ := h
  simp only [evalTs] at ev
  cases ea : evalE T a s with
  | none => rw [ea] at ev; simp at ev
  | some p =>
    obtain ⟨e1, s1⟩ := p
    rw [ea] at ev
    simp only at ev
    cases et : e1.take s1 with
    | none => rw [et] at ev; simp at ev
    | some p =>
      obtain ⟨d, s2⟩ := p
      rw [et] at ev
      simp only at ev
      cases eb : evalTs T r s2 with
      | none => rw [eb] at ev; simp at ev
      | some p =>
        obtain ⟨ds, s3⟩ := p
        rw [eb] at ev
        simp only [Option.some.injEq, Prod.mk.injEq] at ev
        obtain ⟨rfl, rfl⟩ := ev
        refine ⟨F, s, e1, s1, d, s2, er, ea, et, fun x F1 H1 x1 r1 => ⟨F1, s2, ds, s3, x1.er, eb, fun vs F2 H2 x2 r2 => ?_⟩⟩
        exact q (x :: vs) F2 H2 (x1.trans x2) (.cons (r1.up x2.st.ff) r2)
theorem tM_tup {as : MEs} {σ : Sl} {H : Hp} {Q : VK} (h : tM K T (.tup as) σ H Q) : tTup (tT K T as) σ H Q := by
  obtain ⟨F, s, e, s', er, ev, q⟩ := h
  simp only [evalE] at ev
  cases ea : evalTs T as s with
  | none => rw [ea] at ev; simp at ev
  | some p =>
    obtain ⟨ds, s1⟩ := p
    rw [ea] at ev
    simp only at ev
    split at ev
    · rename_i hz
      simp only [Option.some.injEq, Prod.mk.injEq] at ev
      obtain ⟨rfl, rfl⟩ := ev
      refine ⟨F, s, ds, s1, er, ea, fun vs F1 H1 x1 r1 => ⟨by rw [r1.length]; exact Nat.le_trans hz BIG_le, fun p hp => ?_⟩⟩
      have g := Gro.sh (o := .tup vs) x1.er.fh hp
      exact q _ _ _ (x1.trans (.gro g x1.er)) (.tup upd_same (r1.up g.ff))
    · simp at ev
theorem tM_lst {as : MEs} {σ : Sl} {H : Hp} {Q : VK} (h : tM K T (.lst as) σ H Q) : tLst (tT K T as) σ H Q := by
  obtain ⟨F, s, e, s', er, ev, q⟩ := h
  simp only [evalE] at ev
  cases ea : evalTs T as s with
  | none => rw [ea] at ev; simp at ev
  | some p =>
    obtain ⟨ds, s1⟩ := p
    rw [ea] at ev
    simp only at ev
    split at ev
    · rename_i hz
      simp only [Option.some.injEq, Prod.mk.injEq] at ev
      obtain ⟨rfl, rfl⟩ := ev
      refine ⟨F, s, ds, s1, er, ea, fun vs F1 H1 x1 r1 => ⟨by rw [r1.length]; exact Nat.le_trans hz BIG_le, fun p hp => ?_⟩⟩
      obtain ⟨g, fp⟩ := Gro.own (o := .lst vs) x1.er.fh hp
      exact q _ _ _ (x1.trans (.gro g x1.er)) ⟨.lst upd_same fp r1, fun a e => by cases e; exact x1.st.dom _ hp⟩
    · simp at ev
/-! ### dict displays -/
def tP (as : MEs) : Sl → Hp → (List (V × V) → Hp → Prop) → Prop := fun σ H Q => ∃ (F : Hp) (s : En) (ds : List D) (kvs : List (D × D)) (s' : En), ER K F H σ s ∧ evalTs T as s = some (ds, s') ∧ pairUp ds = some kvs ∧
  ∀ (ks : List (Key × V)) (F' H' : Hp), RS K F H σ s F' H' σ s' → RlKv K F' ks kvs → Q (ks.map fun kv => (kV kv.1, kv.2)) H'
theorem key_of {F : Hp} {v : V} {d : D} (h : Rl K F v d) (k : isKey d = true) : ∃ q : Key, kD q = d ∧ v = kV q := by
  cases h with
  | int i => exact ⟨.inl i, rfl, rfl⟩
  | str i => exact ⟨.inr i, rfl, rfl⟩
  | _ => cases k
theorem tP_nil {σ : Sl} {H : Hp} {Q : List (V × V) → Hp → Prop} (h : tP (K := K) (T := T) .nil σ H Q) : tPairs [] σ H Q := by
  obtain ⟨F, s, ds, kvs, s', er, ev, pu, q⟩ := h
  simp only [evalTs, Option.some.injEq, Prod.mk.injEq] at ev
  obtain ⟨rfl, rfl⟩ := ev
  cases pu
  exact q [] F H (.refl er) .nil
theorem tP_cons {a b : ME} {r : MEs} {trs : List (TE × TE)} (ih : ∀ (σ : Sl) (H : Hp) (Q : List (V × V) → Hp → Prop), tP (K := K) (T := T) r σ H Q → tPairs trs σ H Q) {σ : Sl} {H : Hp} {Q : List (V × V) → Hp → Prop}
    (h : tP (K := K) (T := T) (.cons a (.cons b r)) σ H Q) : tPairs ((tD K T a, tD K T b) :: trs) σ H Q := by
  obtain ⟨F, s, ds, kvs, s', er, ev, pu, q⟩ := h
  simp only [evalTs] at ev
  cases ea : evalE T a s with
  | none => rw [ea] at ev; simp at ev
  | some p =>
    obtain ⟨e1, s1⟩ := p
    rw [ea] at ev
    simp only at ev
    cases et : e1.take s1 with
    | none => rw [et] at ev; simp at ev
    | some p =>
      obtain ⟨d, s2⟩ := p
      rw [et] at ev
      simp only at ev
      cases eb : evalE T b s2 with
      | none => rw [eb] at ev; simp at ev
      | some p =>
        obtain ⟨e2, s3⟩ := p
        rw [eb] at ev
        simp only at ev
        cases eu : e2.take s3 with
        | none => rw [eu] at ev; simp at ev
        | some p =>
          obtain ⟨d2, s4⟩ := p
          rw [eu] at ev
          simp only at ev
          cases ec : evalTs T r s4 with
          | none => rw [ec] at ev; simp at ev
          | some p =>
            obtain ⟨ds', s5⟩ := p
            rw [ec] at ev
            simp only [Option.some.injEq, Prod.mk.injEq] at ev
            obtain ⟨rfl, rfl⟩ := ev
            simp only [pairUp] at pu
            split at pu
            · rename_i hk
              split at pu
              · rename_i kq hq
                cases pu
                refine ⟨F, s, e1, s1, d, s2, er, ea, et, fun x F1 H1 x1 r1 => ⟨F1, s2, e2, s3, d2, s4, x1.er, eb, eu, fun y F2 H2 x2 r2 => ?_⟩⟩
                refine ih σ H2 _ ⟨F2, s4, ds', kq, s5, x2.er, ec, hq, fun ks F3 H3 x3 r3 => ?_⟩
                obtain ⟨k, e, rfl⟩ := key_of r1 hk
                exact q ((k, y) :: ks) F3 H3 ((x1.trans x2).trans x3) (.cons e (r2.up x3.st.ff) r3)
              · cases pu
            · cases pu
theorem RlKv.merge {F : Hp} : ∀ {more : List (Key × V)} {em : List (D × D)} {ks : List (Key × V)} {kvs : List (D × D)}, RlKv K F more em → RlKv K F ks kvs → RlKv K F (mergeK ks more) (mergeUp kvs em)
  | _, _, _, _, .nil, h => h
  | _, _, _, _, .cons q hv t, h => by
    subst q
    show RlKv K F (mergeK (L2.putK _ _ _) _) (mergeUp (Tw.putK _ _ _) _)
    exact RlKv.merge t (h.put hv)
theorem pairUp_length : ∀ {ds : List D} {kvs : List (D × D)}, pairUp ds = some kvs → ds.length = 2 * kvs.length
  | [], _, h => by cases h; rfl
  | [_], _, h => by cases h
  | k :: v :: r, kvs, h => by
    simp only [pairUp] at h
    split at h
    · split at h
      · rename_i q hq
        cases h
        have := pairUp_length hq
        simp only [List.length_cons]
        omega
      · cases h
    · cases h
theorem tM_dic {as : MEs} {trs : List (TE × TE)} (ih : ∀ (σ : Sl) (H : Hp) (Q : List (V × V) → Hp → Prop), tP (K := K) (T := T) as σ H Q → tPairs trs σ H Q) {σ : Sl} {H : Hp} {Q : VK}
    (h : tM K T (.dic as) σ H Q) : tDisp trs σ H Q := by
  obtain ⟨F, s, e, s', er, ev, q⟩ := h
  simp only [evalE] at ev
  cases ea : evalTs T as s with
  | none => rw [ea] at ev; simp at ev
  | some p =>
    obtain ⟨ds, s1⟩ := p
    rw [ea] at ev
    simp only at ev
    cases pu : pairUp ds with
    | none => rw [pu] at ev; simp at ev
    | some kvs =>
      rw [pu] at ev
      simp only at ev
      split at ev
      · rename_i hz
        simp only [Option.some.injEq, Prod.mk.injEq] at ev
        obtain ⟨rfl, rfl⟩ := ev
        intro p hp
        obtain ⟨g, fp⟩ := Gro.own (o := .dK []) er.fh hp
        have er' := er.gro g
        refine ih σ _ _ ⟨F, s, ds, kvs, s1, er', ea, pu, fun ks F1 H1 x1 r1 => ?_⟩
        have np : ¬ OwnA σ s p := fun z => er.ownA z hp
        have hp1 : H1 p = some (.dK []) := x1.st.keep p _ upd_same np
        have fp1 : F1 p = none := x1.st.nf p _ upd_same fp np
        refine ⟨hp1, ks, rfl, ?_, ?_⟩
        · have h1 := pairUp_length pu
          have h2 := r1.length
          omega
        · -- the whole: from the start to the dict that is filled
          have x0 : RS K F H σ s F1 (upd H1 p (.dK (mergeK [] ks))) σ s1 := by
            have notp : ∀ i a, OwnAt σ s1 i a → a ≠ p := fun i a o z => by
              have := x1.sub i a o
              exact np ⟨i, by rw [← z]; exact this⟩
            refine ⟨er, ⟨x1.st.ff, fun b o z => ?_, fun b o z n => ?_, fun b o z f n => x1.st.nf b o (g.hh b o z) f n, fun b z => ?_⟩, ⟨fun b o z => ?_, x1.er.len, fun i x y h1 h2 => ?_, x1.er.ap⟩, x1.sub, x1.kin⟩
            · have : b ≠ p := fun e => by rw [e, fp1] at z; cases z
              rw [upd_ne this]; exact x1.st.fh b o z
            · have : b ≠ p := fun e => by rw [e, hp] at z; cases z
              rw [upd_ne this]; exact x1.st.keep b o (g.hh b o z) n
            · by_cases e : b = p
              · rw [e]; exact hp
              · rw [upd_ne e] at z
                have := x1.st.dom b z
                rw [upd_ne e] at this
                exact this
            · have : b ≠ p := fun e => by rw [e, fp1] at z; cases z
              rw [upd_ne this]; exact x1.st.fh b o z
            · have z := x1.er.at_ i x y h1 h2
              cases y with
              | no => trivial
              | sh d => cases x <;> exact z
              | ins d => cases x <;> exact z
              | own d => cases x with
                | none => exact z
                | some v =>
                  refine (show OR K F1 H1 v d from z).keep (.refl _) fun a o ea ha => ⟨?_, ?_⟩
                  · rw [upd_ne (notp i a ⟨by rw [← ea]; exact h1, _, h2, rfl⟩)]; exact ha
                  · obtain ⟨_, _, e1, _, e3, _⟩ := (show OR K F1 H1 v d from z).at
                    rw [ea] at e1; cases e1; exact e3
              | inp d => cases x with
                | none => exact z
                | some v =>
                  refine (show OR K F1 H1 v d from z).keep (.refl _) fun a o ea ha => ⟨?_, ?_⟩
                  · rw [upd_ne (notp i a ⟨by rw [← ea]; exact h1, _, h2, rfl⟩)]; exact ha
                  · obtain ⟨_, _, e1, _, e3, _⟩ := (show OR K F1 H1 v d from z).at
                    rw [ea] at e1; cases e1; exact e3
          exact q _ _ _ x0 ⟨.dic upd_same fp1 (r1.merge .nil), fun a e => by cases e; exact hp⟩
      · simp at ev
/-! ### and, or -/
theorem tM_and {a b : ME} {σ : Sl} {H : Hp} {Q : VK} (h : tM K T (.and a b) σ H Q) : tAndV (tM K T a) (tM K T b) σ H Q := by
  obtain ⟨F, s, e, s', er, ev, q⟩ := h
  simp only [evalE] at ev
  cases ea : evalE T a s with
  | none => rw [ea] at ev; simp at ev
  | some p =>
    obtain ⟨e1, s1⟩ := p
    rw [ea] at ev
    split at ev
    · rename_i s2 z
      cases z
      refine ⟨F, s, _, s1, er, ea, fun v F1 H1 x1 r1 => ?_⟩
      cases r1
      exact ⟨true, rfl, by rw [if_pos rfl]; exact ⟨F1, s1, e, s', x1.er, ev, fun v F2 H2 x2 r2 => q v F2 H2 (x1.trans x2) (r2.base x1.st.dom)⟩⟩
    · rename_i s2 z
      cases z
      simp only [Option.some.injEq, Prod.mk.injEq] at ev
      obtain ⟨rfl, rfl⟩ := ev
      refine ⟨F, s, _, s1, er, ea, fun v F1 H1 x1 r1 => ?_⟩
      cases r1
      exact ⟨false, rfl, by rw [if_neg Bool.false_ne_true]; exact q _ F1 H1 x1 (.bl false)⟩
    · simp at ev
theorem tM_or {a b : ME} {σ : Sl} {H : Hp} {Q : VK} (h : tM K T (.or a b) σ H Q) : tOrV (tM K T a) (tM K T b) σ H Q := by
  obtain ⟨F, s, e, s', er, ev, q⟩ := h
  simp only [evalE] at ev
  cases ea : evalE T a s with
  | none => rw [ea] at ev; simp at ev
  | some p =>
    obtain ⟨e1, s1⟩ := p
    rw [ea] at ev
    split at ev
    · rename_i s2 z
      cases z
      simp only [Option.some.injEq, Prod.mk.injEq] at ev
      obtain ⟨rfl, rfl⟩ := ev
      refine ⟨F, s, _, s1, er, ea, fun v F1 H1 x1 r1 => ?_⟩
      cases r1
      exact ⟨true, rfl, by rw [if_pos rfl]; exact q _ F1 H1 x1 (.bl true)⟩
    · rename_i s2 z
      cases z
      refine ⟨F, s, _, s1, er, ea, fun v F1 H1 x1 r1 => ?_⟩
      cases r1
      exact ⟨false, rfl, by rw [if_neg Bool.false_ne_true]; exact ⟨F1, s1, e, s', x1.er, ev, fun v F2 H2 x2 r2 => q v F2 H2 (x1.trans x2) (r2.base x1.st.dom)⟩⟩
    · simp at ev
/-- .. as tests -/
theorem tQ_and {a b : ME} {σ : Sl} {H : Hp} {Q : Bool → Hp → Prop} (h : tQ K T (.and a b) σ H Q) : tAnd (tQ K T a) (tQ K T b) σ H Q := by
  obtain ⟨F, s, e, s', er, ev, q⟩ := h
  simp only [evalE] at ev
  cases ea : evalE T a s with
  | none => rw [ea] at ev; simp at ev
  | some p =>
    obtain ⟨e1, s1⟩ := p
    rw [ea] at ev
    split at ev
    · rename_i s2 z
      cases z
      refine ⟨F, s, _, s1, er, ea, fun F1 H1 x1 => ?_⟩
      exact iteT ⟨F1, s1, e, s', x1.er, ev, fun F2 H2 x2 => q F2 H2 (x1.trans x2)⟩
    · rename_i s2 z
      cases z
      simp only [Option.some.injEq, Prod.mk.injEq, EV.sh.injEq, PyData.bool.injEq] at ev
      obtain ⟨rfl, rfl⟩ := ev
      refine ⟨F, s, _, s1, er, ea, fun F1 H1 x1 => ?_⟩
      exact iteF (q F1 H1 x1)
    · simp at ev
theorem tQ_or {a b : ME} {σ : Sl} {H : Hp} {Q : Bool → Hp → Prop} (h : tQ K T (.or a b) σ H Q) : tOr (tQ K T a) (tQ K T b) σ H Q := by
  obtain ⟨F, s, e, s', er, ev, q⟩ := h
  simp only [evalE] at ev
  cases ea : evalE T a s with
  | none => rw [ea] at ev; simp at ev
  | some p =>
    obtain ⟨e1, s1⟩ := p
    rw [ea] at ev
    split at ev
    · rename_i s2 z
      cases z
      simp only [Option.some.injEq, Prod.mk.injEq, EV.sh.injEq, PyData.bool.injEq] at ev
      obtain ⟨rfl, rfl⟩ := ev
      refine ⟨F, s, _, s1, er, ea, fun F1 H1 x1 => ?_⟩
      exact iteT (q F1 H1 x1)
    · rename_i s2 z
      cases z
      refine ⟨F, s, _, s1, er, ea, fun F1 H1 x1 => ?_⟩
      exact iteF ⟨F1, s1, e, s', x1.er, ev, fun F2 H2 x2 => q F2 H2 (x1.trans x2)⟩
    · simp at ev
theorem tM_not {a : ME} {σ : Sl} {H : Hp} {Q : VK} (h : tM K T (.not a) σ H Q) : tNotV (tM K T a) σ H Q := by
  obtain ⟨F, s, e, s', er, ev, q⟩ := h
  simp only [evalE] at ev
  cases ea : evalE T a s with
  | none => rw [ea] at ev; simp at ev
  | some p =>
    obtain ⟨e1, s1⟩ := p
    rw [ea] at ev
    split at ev
    · rename_i b s2 z
      cases z
      simp only [Option.some.injEq, Prod.mk.injEq] at ev
      obtain ⟨rfl, rfl⟩ := ev
      refine ⟨F, s, _, s1, er, ea, fun v F1 H1 x1 r1 => ?_⟩
      cases r1
      exact ⟨b, rfl, q _ F1 H1 x1 (.bl _)⟩
    · simp at ev
theorem tQ_not {a : ME} {σ : Sl} {H : Hp} {Q : Bool → Hp → Prop} (h : tQ K T (.not a) σ H Q) : tNot (tQ K T a) σ H Q := by
  obtain ⟨F, s, b, s', er, ev, q⟩ := h
  simp only [evalE] at ev
  cases ea : evalE T a s with
  | none => rw [ea] at ev; simp at ev
  | some p =>
    obtain ⟨e1, s1⟩ := p
    rw [ea] at ev
    split at ev
    · rename_i c s2 z
      cases z
      simp only [Option.some.injEq, Prod.mk.injEq, EV.sh.injEq, PyData.bool.injEq] at ev
      obtain ⟨rfl, rfl⟩ := ev
      exact ⟨F, s, c, s1, er, ea, fun F1 H1 x1 => q F1 H1 x1⟩
    · simp at ev
theorem tM_chain {o1 o2 : Op} {a b c : ME} {σ : Sl} {H : Hp} {Q : VK} (h : tM K T (.chain o1 o2 a b c) σ H Q) : tChain (rD2 K o1) (rD2 K o2) (tM K T a) (tM K T b) (tM K T c) σ H Q := by
  obtain ⟨F, s, e, s', er, ev, q⟩ := h
  simp only [evalE] at ev
  cases ea : evalE T a s with
  | none => rw [ea] at ev; simp at ev
  | some p =>
    obtain ⟨e1, s1⟩ := p
    rw [ea] at ev
    simp only at ev
    cases eb : evalE T b s1 with
    | none => rw [eb] at ev; simp at ev
    | some p =>
      obtain ⟨e2, s2⟩ := p
      rw [eb] at ev
      simp only at ev
      split at ev
      · rename_i d1 d2 l1 l2
        refine ⟨F, s, e1, s1, er, ea, fun x F1 H1 x1 r1 => ⟨F1, s1, e2, s2, x1.er, eb, fun y F2 H2 x2 r2 => ?_⟩⟩
        have r1' := r1.carry x2 x1.notOwn
        split at ev
        · rename_i eo
          refine ⟨F2, [d1, d2], _, x2.er.fh, .cons (r1'.peek x2.er l1) (.cons (r2.peek x2.er l2) .nil), eo, fun v F3 H3 g r3 => ?_⟩
          have fr : o1.fresh (.bool true) = false := by cases o1 <;> rfl
          unfold Op.res at r3
          rw [fr] at r3
          cases r3
          refine ⟨true, rfl, iteT ?_⟩
          have x3 := x2.trans (.gro g x2.er)
          cases ec : evalE T c s2 with
          | none => rw [ec] at ev; simp at ev
          | some p =>
            obtain ⟨e3, s3⟩ := p
            rw [ec] at ev
            simp only at ev
            refine ⟨F3, s2, e3, s3, x3.er, ec, fun z F4 H4 x4 r4 => ?_⟩
            split at ev
            · rename_i d3 d4 l3 l4
              split at ev
              · rename_i r eo2
                simp only [Option.some.injEq, Prod.mk.injEq] at ev
                obtain ⟨rfl, rfl⟩ := ev
                have r2' := (r2.carry (.gro g x2.er) x2.notOwn).carry x4 x3.notOwn
                refine ⟨F4, [d3, d4], _, x4.er.fh, .cons (r2'.peek x4.er l3) (.cons (r4.peek x4.er l4) .nil), eo2, fun v F5 H5 g5 r5 => ?_⟩
                have fr2 : o2.fresh (.bool r) = false := by cases o2 <;> rfl
                unfold Op.res at r5
                rw [fr2] at r5
                exact q v F5 H5 (((x1.trans x3).trans x4).trans (.gro g5 x4.er)) r5
              · simp at ev
            · simp at ev
        · rename_i eo
          simp only [Option.some.injEq, Prod.mk.injEq] at ev
          obtain ⟨rfl, rfl⟩ := ev
          refine ⟨F2, [d1, d2], _, x2.er.fh, .cons (r1'.peek x2.er l1) (.cons (r2.peek x2.er l2) .nil), eo, fun v F3 H3 g r3 => ?_⟩
          have fr : o1.fresh (.bool false) = false := by cases o1 <;> rfl
          unfold Op.res at r3
          rw [fr] at r3
          cases r3
          exact ⟨false, rfl, iteF (q _ F3 H3 ((x1.trans x2).trans (.gro g x2.er)) (.bl false))⟩
        · simp at ev
      · simp at ev
def tChain3 (r r' r2 : R2) (ta tb tc td : TE) : TE := fun σ H Q => ta σ H fun x H1 => tb σ H1 fun y H2 => r x y H2 fun z H3 => ∃ k, z = .bl k ∧
  (if k = true then tc σ H3 fun w' H4 => r' y w' H4 fun z2 H5 => ∃ k2, z2 = .bl k2 ∧ (if k2 = true then td σ H5 fun u H6 => r2 w' u H6 Q else Q (.bl false) H5) else Q (.bl false) H3)
theorem tM_chain3 {o1 o2 o3 : Op} {a b c d : ME} {σ : Sl} {H : Hp} {Q : VK} (h : tM K T (.chain3 o1 o2 o3 a b c d) σ H Q) : tChain3 (rD2 K o1) (rD2 K o2) (rD2 K o3) (tM K T a) (tM K T b) (tM K T c) (tM K T d) σ H Q := by
  obtain ⟨F, s, e, s', er, ev, q⟩ := h
  simp only [evalE] at ev
  cases ea : evalE T a s with
  | none => rw [ea] at ev; simp at ev
  | some p =>
    obtain ⟨e1, s1⟩ := p
    rw [ea] at ev
    simp only at ev
    cases eb : evalE T b s1 with
    | none => rw [eb] at ev; simp at ev
    | some p =>
      obtain ⟨e2, s2⟩ := p
      rw [eb] at ev
      simp only at ev
      split at ev
      · rename_i d1 d2 l1 l2
        refine ⟨F, s, e1, s1, er, ea, fun x F1 H1 x1 r1 => ⟨F1, s1, e2, s2, x1.er, eb, fun y F2 H2 x2 r2 => ?_⟩⟩
        have r1' := r1.carry x2 x1.notOwn
        split at ev
        · rename_i eo
          refine ⟨F2, [d1, d2], _, x2.er.fh, .cons (r1'.peek x2.er l1) (.cons (r2.peek x2.er l2) .nil), eo, fun v F3 H3 g r3 => ?_⟩
          have fr : o1.fresh (.bool true) = false := by cases o1 <;> rfl
          unfold Op.res at r3
          rw [fr] at r3
          cases r3
          refine ⟨true, rfl, iteT ?_⟩
          have x3 := x2.trans (.gro g x2.er)
          cases ec : evalE T c s2 with
          | none => rw [ec] at ev; simp at ev
          | some p =>
            obtain ⟨e3, s3⟩ := p
            rw [ec] at ev
            simp only at ev
            refine ⟨F3, s2, e3, s3, x3.er, ec, fun z F4 H4 x4 r4 => ?_⟩
            split at ev
            · rename_i d3 d4 l3 l4
              have r2' := (r2.carry (.gro g x2.er) x2.notOwn).carry x4 x3.notOwn
              split at ev
              · rename_i eo2
                refine ⟨F4, [d3, d4], _, x4.er.fh, .cons (r2'.peek x4.er l3) (.cons (r4.peek x4.er l4) .nil), eo2, fun v F5 H5 g5 r5 => ?_⟩
                have fr2 : o2.fresh (.bool true) = false := by cases o2 <;> rfl
                unfold Op.res at r5
                rw [fr2] at r5
                cases r5
                refine ⟨true, rfl, iteT ?_⟩
                have x5 := x4.trans (.gro g5 x4.er)
                cases ed : evalE T d s3 with
                | none => rw [ed] at ev; simp at ev
                | some p =>
                  obtain ⟨e4, s4⟩ := p
                  rw [ed] at ev
                  simp only at ev
                  refine ⟨F5, s3, e4, s4, x5.er, ed, fun u F6 H6 x6 r6 => ?_⟩
                  split at ev
                  · rename_i d5 d6 l5 l6
                    split at ev
                    · rename_i r eo3
                      simp only [Option.some.injEq, Prod.mk.injEq] at ev
                      obtain ⟨rfl, rfl⟩ := ev
                      have r4' := (r4.carry (.gro g5 x4.er) x4.notOwn).carry x6 x5.notOwn
                      refine ⟨F6, [d5, d6], _, x6.er.fh, .cons (r4'.peek x6.er l5) (.cons (r6.peek x6.er l6) .nil), eo3, fun v F7 H7 g7 r7 => ?_⟩
                      have fr3 : o3.fresh (.bool r) = false := by cases o3 <;> rfl
                      unfold Op.res at r7
                      rw [fr3] at r7
                      exact q v F7 H7 ((((x1.trans x3).trans x5).trans x6).trans (.gro g7 x6.er)) r7
                    · simp at ev
                  · simp at ev
              · rename_i eo2
                simp only [Option.some.injEq, Prod.mk.injEq] at ev
                obtain ⟨rfl, rfl⟩ := ev
                refine ⟨F4, [d3, d4], _, x4.er.fh, .cons (r2'.peek x4.er l3) (.cons (r4.peek x4.er l4) .nil), eo2, fun v F5 H5 g5 r5 => ?_⟩
                have fr2 : o2.fresh (.bool false) = false := by cases o2 <;> rfl
                unfold Op.res at r5
                rw [fr2] at r5
                cases r5
                exact ⟨false, rfl, iteF (q _ F5 H5 (((x1.trans x3).trans x4).trans (.gro g5 x4.er)) (.bl false))⟩
              · simp at ev
            · simp at ev
        · rename_i eo
          simp only [Option.some.injEq, Prod.mk.injEq] at ev
          obtain ⟨rfl, rfl⟩ := ev
          refine ⟨F2, [d1, d2], _, x2.er.fh, .cons (r1'.peek x2.er l1) (.cons (r2.peek x2.er l2) .nil), eo, fun v F3 H3 g r3 => ?_⟩
          have fr : o1.fresh (.bool false) = false := by cases o1 <;> rfl
          unfold Op.res at r3
          rw [fr] at r3
          cases r3
          exact ⟨false, rfl, iteF (q _ F3 H3 ((x1.trans x2).trans (.gro g x2.er)) (.bl false))⟩
        · simp at ev
      · simp at ev
theorem pe_chain3 {a b c d : Expr} {ta tb tc td : TE} {pos : Pos} {op op' op2 : CmpOp} {r r' r2 : R2} (ho : OpR X (compareOp op) r) (ho' : OpR X (compareOp op') r') (ho2 : OpR X (compareOp op2) r2) (ha : PE X a ta) (hb : PE X b tb) (hc : PE X c tc) (hd : PE X d td)
    (hm : lastMarks [op, op', op2] [b, c, d] = false) : PE X (.Compare a [op, op', op2] [b, c, d] pos) (tChain3 r r' r2 ta tb tc td) := by
  refine ⟨fun pins s σ H Q I h => ?_⟩
  refine PyProof.Rows.Compare_chain (thn (ha.run pins s σ H _ I h) fun v s1 ⟨x, H1, I1, r1, q1⟩ => PyProof.Rows.chain_link (thn (hb.run pins s1 σ H1 _ I1 q1) fun u s2 ⟨y, H2, I2, rr2, q2⟩ =>
    thn (ho pins s2 σ H2 x y v u _ I2 r1 rr2 q2) fun d s3 ⟨z, H3, I3, r3, k, e, q3⟩ => ?_)) hm
  subst e
  cases r3
  refine wpAny_truthy_bool ?_
  cases k with
  | false => exact ite_ff ⟨.bl false, H3, I3, rfl, q3⟩
  | true =>
    refine ite_tt (PyProof.Rows.chain_link (thn (hc.run pins s3 σ H3 _ I3 q3) fun w' s4 ⟨z', H4, I4, r4, q4⟩ => thn (ho' pins s4 σ H4 y z' u w' _ I4 rr2 r4 q4) fun d' s5 ⟨z2, H5, I5, r5, k2, e2, q5⟩ => ?_))
    subst e2
    cases r5
    refine wpAny_truthy_bool ?_
    cases k2 with
    | false => exact ite_ff ⟨.bl false, H5, I5, rfl, q5⟩
    | true => exact ite_tt (PyProof.Rows.chain_last (thn (hd.run pins s5 σ H5 _ I5 q5) fun w6 s6 ⟨z6, H6, I6, r6, q6⟩ => ho2 pins s6 σ H6 z' z6 w' w6 Q I6 r4 r6 q6))
end
end Tw

set_option linter.all false
set_option maxRecDepth 100000
set_option maxHeartbeats 4000000
set_option autoImplicit false
/-! Calls of defs. -/
namespace Tw
open PySem PySem.Spec PyProof.Rows L2

abbrev argσ (vs : List V) : Sl := vs.map some
/-- what became of the arguments that may be changed -/
def OutR (K : PySem.W.Frag) (F' H' : Hp) (vs : List V) (as os : List SV) : Prop :=
  ∀ (i : Nat) (d : D) (v : V), as[i]? = some (.inp d) → vs[i]? = some v → (∃ d', os[i]? = some (.inp d') ∧ OR K F' H' v d') ∨ (∃ d', os[i]? = some (.ins d') ∧ Rl K F' v d')
def RetR (K : PySem.W.Frag) (F' H' H : Hp) (vs : List V) (as os : List SV) (v : V) : SV → Prop
  | .sh d => Rl K F' v d
  | .own d => OR K F' H' v d ∧ ∀ a, v = .ref a → (H a = none ∨ ∃ (i : Nat) (d : D), as[i]? = some (.own d) ∧ vs[i]? = some v) ∧ ∀ (i : Nat) (d : D), os[i]? = some (.inp d) → (∃ d, as[i]? = some (.inp d)) → vs[i]? ≠ some v
  | _ => False
/-- the promise of a def by its function -/
def spF (K : PySem.W.Frag) (f : Fn) (n : Nat) : Sp := fun vs H Q _ => ∃ (F : Hp) (as : List SV) (r : SV) (os : List SV), vs.length = n ∧ ER K F H (argσ vs) as ∧ (∀ (i : Nat) (x : SV), as[i]? = some x → (∃ d, x = SV.sh d) ∨ (∃ d, x = SV.own d) ∨ ∃ d, x = SV.inp d) ∧ f as = some (r, os) ∧
  ∀ (v : V) (F' H' : Hp), Stp F H (OwnA (argσ vs) as) F' H' → OutR K F' H' vs as os → RetR K F' H' H vs as os v r → Q v H'

section
variable {K : PySem.W.Frag}
theorem argsOf_get {s : En} : ∀ {es : List EV} {as : List SV}, argsOf s es = some as → as.length = es.length ∧ ∀ (i : Nat) (x : SV), as[i]? = some x → ∃ e, es[i]? = some e ∧ argOf s e = some x
  | [], _, h => by cases h; exact ⟨rfl, fun i x h => by simp at h⟩
  | e :: r, as, h => by
    simp only [argsOf] at h
    cases h1 : argOf s e with
    | none => rw [h1] at h; simp at h
    | some v =>
      rw [h1] at h
      simp only at h
      cases h2 : argsOf s r with
      | none => rw [h2] at h; simp at h
      | some vs =>
        rw [h2] at h
        cases h
        obtain ⟨l, g⟩ := argsOf_get h2
        refine ⟨by simp [l], fun i x hx => ?_⟩
        cases i with
        | zero => cases hx; exact ⟨e, rfl, h1⟩
        | succ i => exact g i x hx
theorem EvRs.length {F H H0 : Hp} {σ : Sl} : ∀ {vs : List V} {es : List EV}, EvRs K F H H0 σ vs es → vs.length = es.length
  | _, _, .nil => rfl
  | _, _, .cons _ t => congrArg (· + 1) (EvRs.length t)
theorem EvRs.get {F H H0 : Hp} {σ : Sl} : ∀ {vs : List V} {es : List EV} {i : Nat} {v : V} {e : EV}, EvRs K F H H0 σ vs es → vs[i]? = some v → es[i]? = some e → EvR K F H H0 σ v e
  | _, _, _, _, _, .nil, h, _ => by simp at h
  | _, _, 0, _, _, .cons h _, h1, h2 => by
    cases h1; cases h2; exact h
  | _, _, i + 1, _, _, .cons _ t, h1, h2 => EvRs.get (i := i) t h1 h2
theorem tmps_mem : ∀ {vs : List V} {es : List EV} {i : Nat} {v : V} {d : D}, vs[i]? = some v → es[i]? = some (.own d) → v ∈ TmpsOk.tmps vs es
  | [], _, _, _, _, h, _ => by simp at h
  | _, [], _, _, _, _, h => by simp at h
  | w :: vs, e :: es, 0, v, d, h1, h2 => by
    cases h1; cases h2
    simp [TmpsOk.tmps]
  | w :: vs, e :: es, i + 1, v, d, h1, h2 => by
    have := tmps_mem (i := i) (vs := vs) (es := es) h1 h2
    cases e <;> simp [TmpsOk.tmps, this]
theorem TmpsOk.ne : ∀ {vs : List V} {es : List EV} {i j : Nat} {v : V} {d d' : D}, TmpsOk vs es → i < j → vs[i]? = some v → es[i]? = some (.own d) → vs[j]? = some v → es[j]? = some (.own d') → False
  | [], _, _, _, _, _, _, _, _, h, _, _, _ => by simp at h
  | _, [], _, _, _, _, _, _, _, _, h, _, _ => by simp at h
  | w :: vs, e :: es, 0, j + 1, v, d, d', t, _, h1, h2, h3, h4 => by
    cases h1; cases h2
    exact t.1 (tmps_mem (i := j) h3 h4)
  | w :: vs, e :: es, i + 1, j + 1, v, d, d', t, l, h1, h2, h3, h4 => by
    have t' : TmpsOk vs es := by
      cases e with
      | own d => exact t.2
      | sh d => exact t
      | slot k => exact t
    exact TmpsOk.ne (i := i) (j := j) t' (by omega) h1 h2 h3 h4
theorem slots_mem : ∀ {es : List EV} {j : Nat} {a : Nat}, es[j]? = some (.slot a) → a ∈ slotsIn es
  | [], _, _, h => by simp at h
  | e :: es, 0, a, h => by cases h; simp [slotsIn]
  | e :: es, j + 1, a, h => by
    have := slots_mem (es := es) (j := j) h
    cases e <;> simp [slotsIn, this]
theorem slots_ne : ∀ {es : List EV} {i j : Nat} {a : Nat}, (slotsIn es).Nodup → i < j → es[i]? = some (.slot a) → es[j]? = some (.slot a) → False
  | [], _, _, _, _, _, h, _ => by simp at h
  | e :: es, 0, j + 1, a, n, _, h1, h2 => by
    cases h1
    simp only [slotsIn, List.nodup_cons] at n
    exact n.1 (slots_mem (j := j) h2)
  | e :: es, i + 1, j + 1, a, n, l, h1, h2 => by
    have n' : (slotsIn es).Nodup := by
      cases e with
      | slot k => simp only [slotsIn, List.nodup_cons] at n; exact n.2
      | sh d => simpa only [slotsIn] using n
      | own d => simpa only [slotsIn] using n
    exact slots_ne (i := i) (j := j) n' (by omega) h1 h2
theorem argσ_get {vs : List V} {i : Nat} {v : V} : (argσ vs)[i]? = some (some v) ↔ vs[i]? = some v := by
  unfold argσ
  rw [List.getElem?_map]
  cases vs[i]? <;> simp
/-- the arguments as a def's first slots -/
theorem args_er {F H H0 : Hp} {σ : Sl} {s : En} {vs : List V} {es : List EV} {as : List SV} (er : ER K F H σ s) (n : ∀ a, OwnA σ s a → H0 a ≠ none) (r : EvRs K F H H0 σ vs es) (t : TmpsOk vs es) (nd : (slotsIn es).Nodup) (ha : argsOf s es = some as) :
    ER K F H (argσ vs) as ∧ ∀ i a, OwnAt (argσ vs) as i a → ((∃ j, es[i]? = some (.slot j) ∧ OwnAt σ s j a) ∨ (∃ d, es[i]? = some (.own d) ∧ H0 a = none)) := by
  obtain ⟨l, g⟩ := argsOf_get ha
  have lv := r.length
  have key : ∀ i a, OwnAt (argσ vs) as i a → ((∃ j, es[i]? = some (.slot j) ∧ OwnAt σ s j a) ∨ (∃ d, es[i]? = some (.own d) ∧ H0 a = none)) := by
    intro i a ⟨h1, x, h2, h3⟩
    rw [argσ_get] at h1
    obtain ⟨e, h4, h5⟩ := g i x h2
    have q := r.get h1 h4
    cases e with
    | sh d => cases h5; cases h3
    | own d => exact .inr ⟨d, h4, q.2 a rfl⟩
    | slot j =>
      refine .inl ⟨j, h4, q, ?_⟩
      simp only [argOf] at h5
      split at h5
      · rename_i z; exact ⟨_, z, rfl⟩
      · rename_i z; exact ⟨_, z, rfl⟩
      · cases h5; cases h3
      · cases h5; cases h3
      · cases h5
  refine ⟨⟨er.fh, by simp [l, lv], fun i x y h1 h2 => ?_, fun i j a hij o1 o2 => ?_⟩, key⟩
  · cases x with
    | none =>
      unfold argσ at h1
      rw [List.getElem?_map] at h1
      cases z : vs[i]? with
      | none => rw [z] at h1; simp at h1
      | some v => rw [z] at h1; simp at h1
    | some v =>
      rw [argσ_get] at h1
      obtain ⟨e, h4, h5⟩ := g i y h2
      have q := r.get h1 h4
      cases e with
      | sh d => cases h5; exact q
      | own d => cases h5; exact q.1
      | slot j =>
        have q : σ[j]? = some (some v) := q
        simp only [argOf] at h5
        split at h5
        · rename_i z; cases h5; have w := er.at_ j _ _ q z; exact w
        · rename_i z; cases h5; have w := er.at_ j _ _ q z; exact w
        · rename_i z; cases h5; have w := er.at_ j _ _ q z; exact w
        · rename_i z; cases h5; have w := er.at_ j _ _ q z; exact w
        · cases h5
  · have go : ∀ i j, i < j → OwnAt (argσ vs) as i a → OwnAt (argσ vs) as j a → False := by
      intro i j hij o1 o2
      have g1 := argσ_get.mp o1.1
      have g2 := argσ_get.mp o2.1
      rcases key i a o1 with ⟨k, z1, z2⟩ | ⟨d, z1, z2⟩
      · rcases key j a o2 with ⟨k', w1, w2⟩ | ⟨d', w1, w2⟩
        · by_cases e : k = k'
          · subst e; exact slots_ne nd hij z1 w1
          · exact er.ap k k' a e z2 w2
        · exact n a ⟨k, z2⟩ w2
      · rcases key j a o2 with ⟨k', w1, w2⟩ | ⟨d', w1, w2⟩
        · exact n a ⟨k', w2⟩ z2
        · exact t.ne hij g1 z1 g2 w1
    rcases Nat.lt_or_gt_of_ne hij with z | z
    · exact go i j z o1 o2
    · exact go j i z o2 o1
/-- the slots behind a call -/
def BackAt (s : En) (o : Option SV) (i : Nat) (s' : En) : Prop :=
  match s[i]? with
  | some (.own _) => (∃ d, o = some (.inp d) ∧ s'[i]? = some (.own d)) ∨ (∃ d, o = some (.ins d) ∧ s'[i]? = some (.sh d))
  | some (.inp _) => (∃ d, o = some (.inp d) ∧ s'[i]? = some (.inp d)) ∨ (∃ d, o = some (.ins d) ∧ s'[i]? = some (.ins d))
  | x => s'[i]? = x
theorem putBack_spec : ∀ {es : List EV} {os : List SV} {s s' : En}, putBack es os s = some s' → (slotsIn es).Nodup →
    s'.length = s.length ∧ (∀ i, i ∉ slotsIn es → s'[i]? = s[i]?) ∧ ∀ (j i : Nat), es[j]? = some (.slot i) → BackAt s os[j]? i s'
  | [], os, s, s', h, _ => by
    have : s = s' := by cases os <;> simpa [putBack] using h
    subst this
    exact ⟨rfl, fun _ _ => rfl, fun j i h => by simp at h⟩
  | .sh d :: es, [], s, s', h, _ => by simp [putBack] at h
  | .own d :: es, [], s, s', h, _ => by simp [putBack] at h
  | .slot i :: es, [], s, s', h, _ => by simp [putBack] at h
  | .sh d :: es, o :: os, s, s', h, n => by
    obtain ⟨a, b, c⟩ := putBack_spec (es := es) (os := os) (by simpa [putBack] using h) (by simpa only [slotsIn] using n)
    refine ⟨a, fun i hi => b i (by simpa only [slotsIn] using hi), fun j i hj => ?_⟩
    cases j with
    | zero => cases hj
    | succ j => exact c j i hj
  | .own d :: es, o :: os, s, s', h, n => by
    obtain ⟨a, b, c⟩ := putBack_spec (es := es) (os := os) (by simpa [putBack] using h) (by simpa only [slotsIn] using n)
    refine ⟨a, fun i hi => b i (by simpa only [slotsIn] using hi), fun j i hj => ?_⟩
    cases j with
    | zero => cases hj
    | succ j => exact c j i hj
  | .slot k :: es, o :: os, s, s', h, n => by
    simp only [slotsIn, List.nodup_cons] at n
    have fin : ∀ (s1 : En), s1.length = s.length → (∀ i, i ≠ k → s1[i]? = s[i]?) → BackAt s (some o) k s1 → putBack es os s1 = some s' →
        s'.length = s.length ∧ (∀ i, i ∉ slotsIn (.slot k :: es) → s'[i]? = s[i]?) ∧ ∀ (j i : Nat), (EV.slot k :: es)[j]? = some (.slot i) → BackAt s (o :: os)[j]? i s' := by
      intro s1 l1 g1 bk h1
      obtain ⟨a, b, c⟩ := putBack_spec h1 n.2
      refine ⟨a.trans l1, fun i hi => ?_, fun j i hj => ?_⟩
      · simp only [slotsIn, List.mem_cons, not_or] at hi
        rw [b i hi.2, g1 i hi.1]
      · cases j with
        | zero =>
          cases hj
          have e := b k n.1
          unfold BackAt at bk ⊢
          rw [e]
          exact bk
        | succ j =>
          have hm := slots_mem (es := es) (j := j) hj
          have ne : i ≠ k := fun e => n.1 (e ▸ hm)
          have := c j i hj
          unfold BackAt at this ⊢
          rw [g1 i ne] at this
          exact this
    have setok : ∀ (x : SV) (hk : k < s.length), (s.set k x).length = s.length ∧ (∀ i, i ≠ k → (s.set k x)[i]? = s[i]?) ∧ (s.set k x)[k]? = some x := fun x hk =>
      ⟨by simp, fun i hi => List.getElem?_set_ne (Ne.symm hi), List.getElem?_set_self hk⟩
    have lt : ∀ {x : SV}, s[k]? = some x → k < s.length := fun h => by
      rcases List.getElem?_eq_some_iff.mp h with ⟨h, _⟩
      exact h
    simp only [putBack] at h
    split at h
    · rename_i d z
      split at h
      · rename_i d'
        obtain ⟨q1, q2, q3⟩ := setok (.own d') (lt z)
        refine fin _ q1 q2 ?_ h
        unfold BackAt; rw [z]; exact .inl ⟨d', rfl, q3⟩
      · rename_i d'
        obtain ⟨q1, q2, q3⟩ := setok (.sh d') (lt z)
        refine fin _ q1 q2 ?_ h
        unfold BackAt; rw [z]; exact .inr ⟨d', rfl, q3⟩
      · cases h
    · rename_i d z
      split at h
      · rename_i d'
        obtain ⟨q1, q2, q3⟩ := setok (.inp d') (lt z)
        refine fin _ q1 q2 ?_ h
        unfold BackAt; rw [z]; exact .inl ⟨d', rfl, q3⟩
      · rename_i d'
        obtain ⟨q1, q2, q3⟩ := setok (.ins d') (lt z)
        refine fin _ q1 q2 ?_ h
        unfold BackAt; rw [z]; exact .inr ⟨d', rfl, q3⟩
      · cases h
    · rename_i d z
      exact fin s rfl (fun _ _ => rfl) (by unfold BackAt; rw [z]) h
    · rename_i d z
      exact fin s rfl (fun _ _ => rfl) (by unfold BackAt; rw [z]) h
    · cases h

theorem slot_at : ∀ {es : List EV} {j : Nat}, j ∈ slotsIn es → ∃ i : Nat, es[i]? = some (EV.slot j)
  | [], _, h => by simp [slotsIn] at h
  | .slot k :: r, j, h => by
    simp only [slotsIn, List.mem_cons] at h
    rcases h with rfl | h
    · exact ⟨0, rfl⟩
    · obtain ⟨i, hi⟩ := slot_at h
      exact ⟨i + 1, hi⟩
  | .sh d :: r, j, h => by
    obtain ⟨i, hi⟩ := slot_at (es := r) (by simpa only [slotsIn] using h)
    exact ⟨i + 1, hi⟩
  | .own d :: r, j, h => by
    obtain ⟨i, hi⟩ := slot_at (es := r) (by simpa only [slotsIn] using h)
    exact ⟨i + 1, hi⟩
variable {T : List Fn}
theorem tM_call {k n : Nat} {as : MEs} {f : Fn} (hf : T[k]? = some f) {σ : Sl} {H : Hp} {Q : VK} (hn : ∀ (s : En) (es : List EV) (s' : En), evalEs T as s = some (es, s') → es.length = n) (h : tM K T (.call k as) σ H Q) : tCall (spF K f n) [] E0 (tE K T as) σ H Q := by
  obtain ⟨F, s, e, s', er, ev, q⟩ := h
  simp only [evalE, hf] at ev
  cases ea : evalEs T as s with
  | none => rw [ea] at ev; simp at ev
  | some p =>
    obtain ⟨es, s1⟩ := p
    rw [ea] at ev
    simp only [callFn] at ev
    cases eg : argsOf s1 es with
    | none => rw [eg] at ev; simp at ev
    | some ags =>
      rw [eg] at ev
      simp only at ev
      split at ev
      · rename_i nd
        refine ⟨F, s, es, s1, er, ea, fun vs F1 H1 x1 r1 tk => ?_⟩
        obtain ⟨aer, key⟩ := args_er x1.er x1.notOwn r1 tk nd eg
        obtain ⟨al, ag⟩ := argsOf_get eg
        -- what is common to both ends
        have fin : ∀ (r : SV) (os : List SV), f ags = some (r, os) → (∀ (s2 : En), putBack es os s1 = some s2 → ∀ (v : V) (F' H' : Hp), RS K F H σ s F' H' σ s2 → RetR K F' H' H1 vs ags os v r → (∀ a, (∃ (i : Nat) (d : D), ags[i]? = some (.own d) ∧ vs[i]? = some (.ref a)) → H a = none) →  (∃ s3, putBack es os s1 = some s3) → Q v H') → (∃ s3, putBack es os s1 = some s3) → spF K f n (vs ++ []) H1 Q E0 := by
          intro r os hr go ⟨s3, hs3⟩
          rw [List.append_nil]
          refine ⟨F1, ags, r, os, by rw [r1.length]; exact hn _ _ _ ea, aer, fun i x hx => ?_, hr, fun v F' H' st out ret => ?_⟩
          · obtain ⟨e, h4, h5⟩ := ag i x hx
            cases e with
            | sh d => cases h5; exact .inl ⟨_, rfl⟩
            | own d => cases h5; exact .inr (.inl ⟨_, rfl⟩)
            | slot j =>
              simp only [argOf] at h5
              split at h5 <;> first
                | (cases h5; exact .inr (.inr ⟨_, rfl⟩))
                | (cases h5; exact .inl ⟨_, rfl⟩)
                | cases h5
          · obtain ⟨bl, b0, b1⟩ := putBack_spec hs3 nd
            have own0 : ∀ a, OwnA (argσ vs) ags a → OwnA σ s a ∨ H a = none := fun a ⟨i, o⟩ => by
              rcases key i a o with ⟨j, _, z⟩ | ⟨d, _, z⟩
              · exact .inl ⟨j, x1.sub j a z⟩
              · exact .inr z
            -- which argument a slot was
            have slotArg : ∀ j : Nat, j ∈ slotsIn es → ∃ i : Nat, es[i]? = some (EV.slot j) := fun j hj => slot_at hj
            have argAt : ∀ (i j : Nat) (d : D), es[i]? = some (.slot j) → (s1[j]? = some (.own d) ∨ s1[j]? = some (.inp d)) → ags[i]? = some (.inp d) := fun i j d he hs => by
              have hl : i < ags.length := by
                rw [al]
                rcases List.getElem?_eq_some_iff.mp he with ⟨h, _⟩
                exact h
              obtain ⟨e, h4, h5⟩ := ag i ags[i] (List.getElem?_eq_getElem hl)
              rw [he] at h4
              cases h4
              rw [List.getElem?_eq_getElem hl]
              simp only [argOf] at h5
              rcases hs with hs | hs <;> (rw [hs] at h5; simp only [Option.some.injEq] at h5; rw [h5])
            have valAt : ∀ (i j : Nat) (v : V), es[i]? = some (.slot j) → σ[j]? = some (some v) → vs[i]? = some v := fun i j v he hv => by
              have hl : i < vs.length := by
                rw [r1.length]
                rcases List.getElem?_eq_some_iff.mp he with ⟨h, _⟩
                exact h
              have := r1.get (List.getElem?_eq_getElem hl) he
              have this : σ[j]? = some (some vs[i]) := this
              rw [hv] at this
              rw [List.getElem?_eq_getElem hl]
              cases this
              rfl
            -- a slot that was no argument in its own right
            have other : ∀ (j : Nat) (v : V) (d : D), OR K F1 H1 v d → σ[j]? = some (some v) → (∃ x, s1[j]? = some x ∧ x.owns = true) → (∀ i : Nat, es[i]? ≠ some (EV.slot j)) → OR K F' H' v d := fun j v d z hv hx hno =>
              z.keep st.ff fun a o ea ha => by
                have oj : OwnAt σ s1 j a := ⟨by rw [← ea]; exact hv, hx⟩
                have na : ¬ OwnA (argσ vs) ags a := fun ⟨i, o⟩ => by
                  rcases key i a o with ⟨j', w1, w2⟩ | ⟨d, w1, w2⟩
                  · by_cases e : j' = j
                    · subst e; exact hno i w1
                    · exact x1.er.ap j' j a e w2 oj
                  · exact x1.notOwn a ⟨j, oj⟩ w2
                obtain ⟨_, _, e1, _, e3, _⟩ := z.at
                rw [ea] at e1; cases e1
                exact ⟨st.keep a o ha na, st.nf a o ha e3 na⟩
            -- what stands in slot j now
            have slotNow : ∀ (j : Nat) (y : SV), s3[j]? = some y → (s1[j]? = some y ∧ (y.owns = true → ∀ i : Nat, es[i]? ≠ some (EV.slot j))) ∨ (∃ (i : Nat) (d d' : D), es[i]? = some (.slot j) ∧ ags[i]? = some (.inp d) ∧ (∃ x, s1[j]? = some x ∧ x.owns = true ∧ x.isIn = y.isIn) ∧
                ((os[i]? = some (.inp d') ∧ (y = .own d' ∨ y = .inp d')) ∨ (os[i]? = some (.ins d') ∧ (y = .sh d' ∨ y = .ins d')))) := fun j y hy => by
              by_cases hm : j ∈ slotsIn es
              · obtain ⟨i, hi⟩ := slotArg j hm
                have b := b1 i j hi
                unfold BackAt at b
                split at b
                · rename_i d z
                  right
                  rcases b with ⟨d', h1, h2⟩ | ⟨d', h1, h2⟩
                  · rw [hy] at h2; cases h2
                    exact ⟨i, d, d', hi, argAt i j d hi (.inl z), ⟨_, z, rfl, rfl⟩, .inl ⟨h1, .inl rfl⟩⟩
                  · rw [hy] at h2; cases h2
                    exact ⟨i, d, d', hi, argAt i j d hi (.inl z), ⟨_, z, rfl, rfl⟩, .inr ⟨h1, .inl rfl⟩⟩
                · rename_i d z
                  right
                  rcases b with ⟨d', h1, h2⟩ | ⟨d', h1, h2⟩
                  · rw [hy] at h2; cases h2
                    exact ⟨i, d, d', hi, argAt i j d hi (.inr z), ⟨_, z, rfl, rfl⟩, .inl ⟨h1, .inr rfl⟩⟩
                  · rw [hy] at h2; cases h2
                    exact ⟨i, d, d', hi, argAt i j d hi (.inr z), ⟨_, z, rfl, rfl⟩, .inr ⟨h1, .inr rfl⟩⟩
                · rename_i z1 z2
                  left
                  rw [hy] at b
                  refine ⟨b.symm, fun ow => ?_⟩
                  cases y with
                  | own d => exact absurd b.symm (z1 d)
                  | inp d => exact absurd b.symm (z2 d)
                  | _ => cases ow
              · left
                refine ⟨by rw [← b0 j hm]; exact hy, fun _ i hi => hm (slots_mem hi)⟩
            have sub3 : ∀ j a, OwnAt σ s3 j a → OwnAt σ s1 j a := fun j a ⟨h1, y, h2, h3⟩ => by
              rcases slotNow j y h2 with ⟨w, _⟩ | ⟨i, d, d', w1, w2, ⟨x, w3, w4, _⟩, w5⟩
              · exact ⟨h1, y, w, h3⟩
              · exact ⟨h1, x, w3, w4⟩
            have er3 : ER K F' H' σ s3 := by
              refine ⟨st.fh, by rw [bl]; exact x1.er.len, fun j x y h1 h2 => ?_, fun i j a hij o1 o2 => x1.er.ap i j a hij (sub3 i a o1) (sub3 j a o2)⟩
              rcases slotNow j y h2 with ⟨w, wn⟩ | ⟨i, d, d', w1, w2, ⟨x', w3, w4, _⟩, w5⟩
              · have z := x1.er.at_ j x y h1 w
                cases y with
                | no => trivial
                | sh d => cases x with
                  | none => exact z
                  | some v => exact Rl.up st.ff z
                | ins d => cases x with
                  | none => exact z
                  | some v => exact Rl.up st.ff z
                | own d => cases x with
                  | none => exact z
                  | some v => exact other j v d z h1 ⟨_, w, rfl⟩ (wn rfl)
                | inp d => cases x with
                  | none => exact z
                  | some v => exact other j v d z h1 ⟨_, w, rfl⟩ (wn rfl)
              · cases x with
                | none =>
                  exfalso
                  have z := x1.er.at_ j _ _ h1 w3
                  cases x' <;> first | exact z | cases w4
                | some v =>
                  have hv := valAt i j v w1 h1
                  rcases w5 with ⟨w6, w7⟩ | ⟨w6, w7⟩
                  · rcases out i d v w2 hv with ⟨d2, z1, z2⟩ | ⟨d2, z1, z2⟩
                    · rw [w6] at z1; cases z1
                      rcases w7 with rfl | rfl <;> exact z2
                    · rw [w6] at z1; cases z1
                  · rcases out i d v w2 hv with ⟨d2, z1, z2⟩ | ⟨d2, z1, z2⟩
                    · rw [w6] at z1; cases z1
                    · rw [w6] at z1; cases z1
                      rcases w7 with rfl | rfl <;> exact z2
            refine go s3 hs3 v F' H' ⟨er, x1.st.trans st own0, er3, fun j a o => x1.sub j a (sub3 j a o), fun j => ?_⟩ ret (fun a ⟨i, d, w1, w2⟩ => ?_) ⟨s3, hs3⟩
            · rw [← x1.kin j]
              cases z : s3[j]? with
              | none =>
                have : s1[j]? = none := by
                  rw [List.getElem?_eq_none_iff] at z ⊢
                  omega
                rw [this]
              | some y =>
                rcases slotNow j y z with ⟨w, _⟩ | ⟨i, d, d', w1, w2, ⟨x', w3, w4, w5⟩, _⟩
                · rw [w]
                · rw [w3]
                  simp only [Option.map_some, w5]
            · rcases key i a ⟨argσ_get.mpr w2, _, w1, rfl⟩ with ⟨j, z1, z2⟩ | ⟨d2, z1, z2⟩
              · exfalso
                obtain ⟨e, h4, h5⟩ := ag i _ w1
                rw [z1] at h4; cases h4
                simp only [argOf] at h5
                split at h5 <;> simp at h5
              · exact z2
        split at ev
        · rename_i d os hr
          split at ev
          · rename_i s2 hs2
            simp only [Option.some.injEq, Prod.mk.injEq] at ev
            obtain ⟨rfl, rfl⟩ := ev
            refine fin _ os hr (fun s3 hs3 v F' H' x ret _ _ => ?_) ⟨_, hs2⟩
            rw [hs2] at hs3; cases hs3
            exact q v F' H' x ret
          · simp at ev
        · rename_i d os hr
          split at ev
          · rename_i s2 hs2
            simp only [Option.some.injEq, Prod.mk.injEq] at ev
            obtain ⟨rfl, rfl⟩ := ev
            refine fin _ os hr (fun s3 hs3 v F' H' x ret nw _ => ?_) ⟨_, hs2⟩
            rw [hs2] at hs3; cases hs3
            refine q v F' H' x ⟨ret.1, fun a e => ?_⟩
            rcases (ret.2 a e).1 with z | ⟨i, d2, z1, z2⟩
            · exact x1.st.dom a z
            · exact nw a ⟨i, d2, z1, by rw [← e]; exact z2⟩
          · simp at ev
        · simp at ev
      · simp at ev
end
end Tw

set_option linter.all false
set_option maxRecDepth 100000
set_option maxHeartbeats 4000000
set_option autoImplicit false
/-! Targets and comprehensions. -/
namespace Tw
open PySem PySem.Spec PyProof.Rows L2

section
variable {K : PySem.W.Frag} {T : List Fn}
theorem Stp.more {F H F' H' : Hp} {A B : Addr → Prop} (x : Stp F H A F' H') (h : ∀ a, A a → B a) : Stp F H B F' H' :=
  ⟨x.ff, x.fh, fun b o q n => x.keep b o q fun z => n (h b z), fun b o q f n => x.nf b o q f fun z => n (h b z), x.dom⟩
/-- a thing that is younger than the start is changed -/
theorem RS.young {F0 H0 F H : Hp} {σ0 σ : Sl} {s0 s : En} {p : Addr} {o : HO} (x : RS K F0 H0 σ0 s0 F H σ s) (hp : H0 p = none) (fp : F p = none) : RS K F0 H0 σ0 s0 F (upd H p o) σ s := by
  have np : ¬ OwnA σ0 s0 p := fun z => x.e0.ownA z hp
  have notp : ∀ i a, OwnAt σ s i a → a ≠ p := fun i a ow z => np ⟨i, by rw [← z]; exact x.sub i a ow⟩
  have fh : Same F (upd H p o) := fun b u q => by
    have : b ≠ p := fun e => by rw [e, fp] at q; cases q
    rw [upd_ne this]; exact x.er.fh b u q
  refine ⟨x.e0, ⟨x.st.ff, fh, fun b u q n => ?_, x.st.nf, fun b z => ?_⟩, ⟨fh, x.er.len, fun i y z g1 g2 => ?_, x.er.ap⟩, x.sub, x.kin⟩
  · have : b ≠ p := fun e => by rw [e, hp] at q; cases q
    rw [upd_ne this]; exact x.st.keep b u q n
  · by_cases e : b = p
    · rw [e]; exact hp
    · rw [upd_ne e] at z
      exact x.st.dom b z
  · have q := x.er.at_ i y z g1 g2
    cases z with
    | no => trivial
    | sh d => cases y <;> exact q
    | ins d => cases y <;> exact q
    | own d => cases y with
      | none => exact q
      | some v =>
        refine (show OR K F H v d from q).keep (.refl _) fun a u ea ha => ⟨?_, ?_⟩
        · rw [upd_ne (notp i a ⟨by rw [← ea]; exact g1, _, g2, rfl⟩)]; exact ha
        · obtain ⟨_, _, e1, _, e3, _⟩ := (show OR K F H v d from q).at
          rw [ea] at e1; cases e1; exact e3
    | inp d => cases y with
      | none => exact q
      | some v =>
        refine (show OR K F H v d from q).keep (.refl _) fun a u ea ha => ⟨?_, ?_⟩
        · rw [upd_ne (notp i a ⟨by rw [← ea]; exact g1, _, g2, rfl⟩)]; exact ha
        · obtain ⟨_, _, e1, _, e3, _⟩ := (show OR K F H v d from q).at
          rw [ea] at e1; cases e1; exact e3

/-! ### wiped slots -/
theorem wipe_in {σ : Sl} {i : Nat} : ∀ {vs : List Nat}, i ∈ vs → (wipe σ vs)[i]? = σ[i]?.map fun _ => none
  | [], h => by cases h
  | v :: vs, h => by
    unfold wipe
    by_cases e : v = i
    · subst e
      by_cases hl : v < σ.length
      · rw [List.getElem?_set_self (by rw [wipe_length]; exact hl), List.getElem?_eq_getElem hl]; rfl
      · rw [List.getElem?_eq_none (by rw [List.length_set, wipe_length]; omega), List.getElem?_eq_none (by omega)]; rfl
    · rw [List.getElem?_set_ne e]
      refine wipe_in ?_
      rcases List.mem_cons.mp h with z | z
      · exact absurd z.symm e
      · exact z
theorem wipeE_length (s : En) : ∀ vs : List Nat, (wipeE vs s).length = s.length
  | [] => rfl
  | v :: vs => by unfold wipeE; rw [List.length_set, wipeE_length s vs]
theorem wipeE_in {s : En} {i : Nat} : ∀ {vs : List Nat}, i ∈ vs → (wipeE vs s)[i]? = s[i]?.map fun _ => SV.no
  | [], h => by cases h
  | v :: vs, h => by
    unfold wipeE
    by_cases e : v = i
    · subst e
      by_cases hl : v < s.length
      · rw [List.getElem?_set_self (by rw [wipeE_length]; exact hl), List.getElem?_eq_getElem hl]; rfl
      · rw [List.getElem?_eq_none (by rw [List.length_set, wipeE_length]; omega), List.getElem?_eq_none (by omega)]; rfl
    · rw [List.getElem?_set_ne e]
      refine wipeE_in ?_
      rcases List.mem_cons.mp h with z | z
      · exact absurd z.symm e
      · exact z
theorem wipeE_out {s : En} {i : Nat} : ∀ {vs : List Nat}, i ∉ vs → (wipeE vs s)[i]? = s[i]?
  | [], _ => rfl
  | v :: vs, h => by
    unfold wipeE
    rw [List.getElem?_set_ne (fun e => h (by rw [e]; exact List.mem_cons_self ..))]
    exact wipeE_out fun z => h (List.mem_cons_of_mem _ z)
theorem restore_length (s0 s : En) : ∀ vs : List Nat, (restore vs s0 s).length = s.length
  | [] => rfl
  | v :: vs => by
    unfold restore
    split
    · rw [List.length_set, restore_length s0 s vs]
    · exact restore_length s0 s vs
theorem restore_out {s0 s : En} {i : Nat} : ∀ {vs : List Nat}, i ∉ vs → (restore vs s0 s)[i]? = s[i]?
  | [], _ => rfl
  | v :: vs, h => by
    have h2 : i ∉ vs := fun z => h (List.mem_cons_of_mem _ z)
    unfold restore
    split
    · rw [List.getElem?_set_ne (fun e => h (by rw [e]; exact List.mem_cons_self ..))]
      exact restore_out h2
    · exact restore_out h2
theorem restore_in {s0 s : En} (hl : s0.length = s.length) {i : Nat} : ∀ {vs : List Nat}, i ∈ vs → (restore vs s0 s)[i]? = s0[i]?
  | [], h => by cases h
  | v :: vs, h => by
    unfold restore
    by_cases e : v = i
    · subst e
      by_cases hv : v < s0.length
      · rw [List.getElem?_eq_getElem hv]
        simp only
        rw [List.getElem?_set_self (by rw [restore_length]; omega)]
      · have hn : s0[v]? = none := List.getElem?_eq_none (by omega)
        rw [hn]
        exact List.getElem?_eq_none (by rw [restore_length]; omega)
    · have hi : i ∈ vs := by
        rcases List.mem_cons.mp h with z | z
        · exact absurd z.symm e
        · exact z
      split
      · rw [List.getElem?_set_ne e]; exact restore_in hl hi
      · exact restore_in hl hi
theorem OwnAt.wiped {σ : Sl} {s : En} {own : List Nat} {i : Nat} {a : Addr} (h : OwnAt (wipe σ own) (wipeE own s) i a) : i ∉ own ∧ OwnAt σ s i a := by
  obtain ⟨h1, x, h2, h3⟩ := h
  by_cases e : i ∈ own
  · rw [wipeE_in e] at h2
    cases z : s[i]? with
    | none => rw [z] at h2; cases h2
    | some y => rw [z] at h2; cases h2; cases h3
  · rw [wipe_out e] at h1
    rw [wipeE_out e] at h2
    exact ⟨e, h1, x, h2, h3⟩
theorem ER.wiped {F H : Hp} {σ : Sl} {s : En} (own : List Nat) (e : ER K F H σ s) : ER K F H (wipe σ own) (wipeE own s) := by
  refine ⟨e.fh, by rw [wipe_length, wipeE_length]; exact e.len, fun i x y h1 h2 => ?_, fun i j a hij o1 o2 => e.ap i j a hij o1.wiped.2 o2.wiped.2⟩
  by_cases z : i ∈ own
  · rw [wipeE_in z] at h2
    cases w : s[i]? with
    | none => rw [w] at h2; cases h2
    | some y' => rw [w] at h2; cases h2; trivial
  · rw [wipe_out z] at h1
    rw [wipeE_out z] at h2
    exact e.at_ i x y h1 h2
/-- a turn's end: the block's own names are forgotten -/
theorem RS.wiped {F0 H0 F H : Hp} {σ0 σ : Sl} {s0 s : En} {own : List Nat} (x : RS K F0 H0 σ0 s0 F H σ s) (h : ∀ i ∈ own, s0[i]?.map SV.isIn = (s0[i]?.map fun _ => false)) : RS K F0 H0 σ0 s0 F H (wipe σ own) (wipeE own s) :=
  ⟨x.e0, x.st, x.er.wiped own, fun i a o => x.sub i a o.wiped.2, fun i => by
    by_cases z : i ∈ own
    · have k := x.kin i
      rw [wipeE_in z, h i z]
      rw [h i z] at k
      cases w : s[i]? with
      | none => rw [w] at k; cases q : s0[i]? with
        | none => rfl
        | some y => rw [q] at k; cases k
      | some y => rw [w] at k; cases q : s0[i]? with
        | none => rw [q] at k; cases k
        | some y' => rfl
    · rw [wipeE_out z]; exact x.kin i⟩
/-- behind a comprehension -/
theorem RS.restored {F1 H1 F H : Hp} {σ : Sl} {s1 s : En} {own : List Nat} (e1 : ER K F1 H1 σ s1) (x : RS K F1 H1 (wipe σ own) (wipeE own s1) F H (wipe σ own) s) : RS K F1 H1 σ s1 F H σ (restore own s1 s) := by
  have hl : s1.length = s.length := by
    have a := x.er.len
    have b := e1.len
    rw [wipe_length] at a
    omega
  have sub : ∀ i a, OwnAt σ (restore own s1 s) i a → OwnAt σ s1 i a := fun i a ⟨h1, y, h2, h3⟩ => by
    by_cases z : i ∈ own
    · rw [restore_in hl z] at h2; exact ⟨h1, y, h2, h3⟩
    · rw [restore_out z] at h2
      exact (x.sub i a ⟨by rw [wipe_out z]; exact h1, y, h2, h3⟩).wiped.2
  have st : Stp F1 H1 (OwnA σ s1) F H := x.st.more fun a ⟨i, o⟩ => ⟨i, o.wiped.2⟩
  refine ⟨e1, st, ⟨x.er.fh, by rw [restore_length, ← hl]; exact e1.len, fun i y z h1 h2 => ?_, fun i j a hij o1 o2 => e1.ap i j a hij (sub i a o1) (sub j a o2)⟩, sub, fun i => ?_⟩
  · by_cases m : i ∈ own
    · rw [restore_in hl m] at h2
      have q := e1.at_ i y z h1 h2
      have kp : ∀ v d, OR K F1 H1 v d → y = some v → z.owns = true → OR K F H v d := fun v d o ey ow => o.keep x.st.ff fun a u ea ha => by
        have na : ¬ OwnA (wipe σ own) (wipeE own s1) a := fun ⟨j, oj⟩ => by
          obtain ⟨n, oj⟩ := oj.wiped
          have oi : OwnAt σ s1 i a := ⟨by rw [← ea, ← ey]; exact h1, z, h2, ow⟩
          exact e1.ap i j a (fun e => n (by rw [← e]; exact m)) oi oj
        obtain ⟨_, _, q1, _, q3, _⟩ := o.at
        rw [ea] at q1; cases q1
        exact ⟨x.st.keep a u ha na, x.st.nf a u ha q3 na⟩
      cases z with
      | no => trivial
      | sh d => cases y with
        | none => exact q
        | some v => exact Rl.up x.st.ff q
      | ins d => cases y with
        | none => exact q
        | some v => exact Rl.up x.st.ff q
      | own d => cases y with
        | none => exact q
        | some v => exact kp v d q rfl rfl
      | inp d => cases y with
        | none => exact q
        | some v => exact kp v d q rfl rfl
    · rw [restore_out m] at h2
      exact x.er.at_ i y z (by rw [wipe_out m]; exact h1) h2
  · by_cases m : i ∈ own
    · rw [restore_in hl m]
    · rw [restore_out m, x.kin i, wipeE_out m]

/-! ### targets -/
mutual
def tgs : MT → List Nat
  | .name i => [i]
  | .tup ts => tgss ts
  | .sub _ _ => []
def tgss : MTs → List Nat
  | .nil => []
  | .cons t r => tgs t ++ tgss r
end
def MTs.len : MTs → Nat
  | .nil => 0
  | .cons _ r => r.len + 1
/-- only these slots are others -/
def Chg (l : List Nat) (s : En) (σ σ' : Sl) : Prop := (σ'.length = σ.length ∧ ∀ (i : Nat), s[i]?.map SV.isIn = some true → σ'[i]? = σ[i]?) ∧ ∀ j, j ∉ l → σ'[j]? = σ[j]?
theorem Chg.wipe {l own : List Nat} {s : En} {σ σ' : Sl} (h : Chg l s σ σ') (hs : ∀ i ∈ l, i ∈ own) : wipe σ' own = wipe σ own := by
  apply List.ext_getElem?
  intro i
  by_cases m : i ∈ own
  · rw [wipe_in m, wipe_in m]
    have := h.1.1
    by_cases hi : i < σ.length
    · rw [List.getElem?_eq_getElem hi, List.getElem?_eq_getElem (by omega)]; rfl
    · rw [List.getElem?_eq_none (by omega), List.getElem?_eq_none (by omega)]
  · rw [wipe_out m, wipe_out m]
    exact h.2 i fun z => m (hs i z)
variable (K T) in
def tG (t : MT) : TG := fun v σ H Q => ∃ (F : Hp) (s : En) (d : D) (s' : En), ER K F H σ s ∧ Rl K F v d ∧ assignT T t d s = some s' ∧
  ∀ (σ' : Sl) (F' H' : Hp), RS K F H σ s F' H' σ' s' → Chg (tgs t) s σ σ' → Q σ' H'
variable (K T) in
def tGs (ts : MTs) : TGs := fun vs σ H Q => ∃ (F : Hp) (s : En) (ds : List D) (s' : En), ER K F H σ s ∧ RlAll K F vs ds ∧ assignTs T ts ds s = some s' ∧
  ∀ (σ' : Sl) (F' H' : Hp), RS K F H σ s F' H' σ' s' → Chg (tgss ts) s σ σ' → Q σ' H'
/-- a plain value at a slot -/
theorem RS.bind {F H : Hp} {σ : Sl} {s s' : En} {i : Nat} {v : V} {d : D} (e : ER K F H σ s) (r : Rl K F v d) (b : bindN i (.sh d) s = some s') : RS K F H σ s F H (σ.set i (some v)) s' ∧ Chg [i] s σ (σ.set i (some v)) := by
  have hb : s' = s.set i (.sh d) ∧ (s[i]?.map SV.isIn) = some false := by
    unfold bindN at b
    split at b
    · rename_i z; cases b; exact ⟨rfl, by rw [z]; rfl⟩
    · rename_i z; cases b; exact ⟨rfl, by rw [z]; rfl⟩
    · rename_i z; cases b; exact ⟨rfl, by rw [z]; rfl⟩
    · cases b
  obtain ⟨rfl, nin⟩ := hb
  have sub : ∀ j a, OwnAt (σ.set i (some v)) (s.set i (.sh d)) j a → OwnAt σ s j a := fun j a ⟨h1, x, h2, h3⟩ => by
    rcases get_set h2 with ⟨_, rfl⟩ | ⟨ne, h2⟩
    · cases h3
    · rw [List.getElem?_set_ne (Ne.symm ne)] at h1
      exact ⟨h1, x, h2, h3⟩
  refine ⟨⟨e, .refl e.fh, ⟨e.fh, by simp [e.len], fun j x y h1 h2 => ?_, fun j k a hjk o1 o2 => e.ap j k a hjk (sub j a o1) (sub k a o2)⟩, sub, fun j => ?_⟩, ⟨⟨by simp, fun j hj => ?_⟩, fun j hj => ?_⟩⟩
  · rcases get_set h2 with ⟨rfl, rfl⟩ | ⟨ne, h2⟩
    · rcases get_set h1 with ⟨_, rfl⟩ | ⟨ne, _⟩
      · exact r
      · exact absurd rfl ne
    · rw [List.getElem?_set_ne (Ne.symm ne)] at h1
      exact e.at_ j x y h1 h2
  · by_cases z : i = j
    · subst z
      rw [nin]
      cases w : s[i]? with
      | none => rw [w] at nin; cases nin
      | some y =>
        have hl : i < s.length := (List.getElem?_eq_some_iff.mp w).1
        rw [List.getElem?_set_self hl]; rfl
    · rw [List.getElem?_set_ne z]
  · by_cases z : i = j
    · subst z
      rw [nin] at hj
      cases hj
    · rw [List.getElem?_set_ne z]
  · rw [List.getElem?_set_ne (fun z => hj (by simp [z]))]
theorem tG_name {i : Nat} {v : V} {σ : Sl} {H : Hp} {Q : Sl → Hp → Prop} (h : tG K T (.name i) v σ H Q) : gName i v σ H Q := by
  obtain ⟨F, s, d, s', er, r, a, q⟩ := h
  simp only [assignT] at a
  obtain ⟨x, c⟩ := RS.bind er r a
  exact q _ F H x c
theorem assignTs_len : ∀ {ts : MTs} {ds : List D} {s s' : En}, assignTs T ts ds s = some s' → ds.length = ts.len
  | .nil, [], _, _, _ => rfl
  | .nil, _ :: _, _, _, h => by simp [assignTs] at h
  | .cons _ _, [], _, _, h => by simp [assignTs] at h
  | .cons t r, d :: ds, s, s', h => by
    simp only [assignTs] at h
    split at h
    · have := assignTs_len h
      simp [MTs.len, this]
    · cases h
def gSeq (K : PySem.W.Frag) (n : Nat) (t : TGs) : TG := fun v σ H Q => gTup K n t v σ H Q ∨ gLst K n t v σ H Q
theorem pg_seq {X : Cx} {es : List Expr} {k : Nat} {t : TGs} {n : Nat} {pos : Pos} (hc : X.calm = true) (h : PGs X es t) (hn : (assignEach es X.env).length = n) (hst : (assignEach es X.env).findIdx? (·.1) = none) : PG X (.Tuple es k pos) (gSeq X.K n t) := by
  refine ⟨fun pins s σ H v u Q I r hw => ?_⟩
  rcases hw with hw | hw
  · exact (pg_tup hc h hn hst).run pins s σ H v u Q I r hw
  · exact (pg_lst hc h hn hst).run pins s σ H v u Q I r hw
theorem tG_tup {ts : MTs} {n : Nat} (hn : ts.len = n) {v : V} {σ : Sl} {H : Hp} {Q : Sl → Hp → Prop} (h : tG K T (.tup ts) v σ H Q) : gSeq K n (tGs K T ts) v σ H Q := by
  obtain ⟨F, s, d, s', er, r, a, q⟩ := h
  cases d <;> try (simp [assignT] at a; done)
  case tuple ds =>
    simp only [assignT] at a
    cases r with
    | @tup p xs _ h r =>
      exact .inl ⟨p, xs, rfl, Same.seqT er.fh (.inl (.inl h)), by rw [r.length, assignTs_len a, hn], F, s, ds, s', er, r, a, fun σ' F' H' x c => q σ' F' H' x (by simpa only [tgs] using c)⟩
  case list ds =>
    simp only [assignT] at a
    cases r with
    | @lst p xs _ h r =>
      exact .inr ⟨p, xs, rfl, er.fh.seq h, by rw [r.length, assignTs_len a, hn], F, s, ds, s', er, r, a, fun σ' F' H' x c => q σ' F' H' x (by simpa only [tgs] using c)⟩
theorem tGs_nil {vs : List V} {σ : Sl} {H : Hp} {Q : Sl → Hp → Prop} (h : tGs K T .nil vs σ H Q) : gNil vs σ H Q := by
  obtain ⟨F, s, ds, s', er, r, a, q⟩ := h
  cases r with
  | cons => simp [assignTs] at a
  | nil =>
    simp only [assignTs, Option.some.injEq] at a
    subst a
    exact ⟨rfl, q σ F H (.refl er) ⟨⟨rfl, fun _ _ => rfl⟩, fun _ _ => rfl⟩⟩
theorem tGs_cons {t : MT} {r : MTs} {vs : List V} {σ : Sl} {H : Hp} {Q : Sl → Hp → Prop} (h : tGs K T (.cons t r) vs σ H Q) : gCons (tG K T t) (tGs K T r) vs σ H Q := by
  obtain ⟨F, s, ds, s', er, rl, a, q⟩ := h
  cases rl with
  | nil => simp [assignTs] at a
  | @cons v vs d ds hv tv =>
    simp only [assignTs] at a
    split at a
    · rename_i s1 e1
      refine ⟨v, vs, rfl, F, s, d, s1, er, hv, e1, fun σ1 F1 H1 x1 c1 => ⟨F1, s1, ds, s', x1.er, tv.up x1.st.ff, a, fun σ2 F2 H2 x2 c2 => ?_⟩⟩
      refine q σ2 F2 H2 (x1.trans x2) ⟨⟨c2.1.1.trans c1.1.1, fun j hj => by rw [c2.1.2 j (by rw [x1.kin]; exact hj), c1.1.2 j hj]⟩, fun j hj => ?_⟩
      simp only [tgss, List.mem_append, not_or] at hj
      rw [c2.2 j hj.2, c1.2 j hj.1]
    · cases a

/-! ### comprehensions -/
theorem tM_comp {own : List Nat} {tg : MT} {it : MI} {cnd elt : ME} (ho : ∀ i ∈ tgs tg, i ∈ own) {σ : Sl} {H : Hp} {Q : VK} (h : tM K T (.comp own tg it cnd elt) σ H Q) : tLc (tI K T it) (tG K T tg) (tQ K T cnd) (tD K T elt) own σ H Q := by
  obtain ⟨F, s, e, s', er, ev, q⟩ := h
  simp only [evalE] at ev
  cases ei : evalI T it s with
  | none => rw [ei] at ev; simp at ev
  | some p =>
    obtain ⟨ds, s1⟩ := p
    rw [ei] at ev
    simp only at ev
    split at ev
    · rename_i ys s2 hg
      split at ev
      · rename_i hz
        simp only [Option.some.injEq, Prod.mk.injEq] at ev
        obtain ⟨rfl, rfl⟩ := ev
        refine ⟨F, s, ds, s1, er, ei, fun J F1 H1 x1 io => fun L hD => ?_⟩
        obtain ⟨G, Y, w, hG, hY⟩ := io
        obtain ⟨g0, fD⟩ := Gro.own (o := .lst []) x1.er.fh hD
        have ew := x1.er.wiped own
        generalize hf : (fun (d : D) (s : En) => (match assignT T tg d s with
          | some s1 => match evalE T cnd s1 with
            | some (EV.sh (.bool true), s2) => match evalE T elt s2 with
              | some (e, s3) => match e.take s3 with
                | some (y, s4) => some (some y, wipeE own s4)
                | none => none
              | none => none
            | some (EV.sh (.bool false), s2) => some (none, wipeE own s2)
            | _ => none
          | none => none : Option (Option D × En))) = f at hg
        refine lc_it w (fun i H2 => ∃ (F2 : Hp) (s3 : En) (acc : List V) (ya yb : List D), RS K F1 H1 (wipe σ own) (wipeE own s1) F2 H2 (wipe σ own) s3 ∧ H2 L = some (.lst acc) ∧ F2 L = none ∧ RlAll K F2 acc ya ∧ ya ++ yb = ys ∧
            compGo f (ds.drop i) s3 = some (yb, s2)) ⟨F1, wipeE own s1, [], [], ys, .gro g0 ew, upd_same, fD, .nil, rfl, hg⟩ (fun i H2 _ ⟨F2, s3, acc, ya, yb, x, _⟩ => hG H2 (x.st.ff.trans x.er.fh)) (fun i x H2 H3 hi hp hy => ?_) fun H2 hp => ?_
        · obtain ⟨F2, s3, acc, ya, yb, x2, h1, h2, h3, h4, h5⟩ := hp
          obtain ⟨F3, g3, rx⟩ := hY i H2 x H3 F2 hi x2.st.ff x2.er.fh hy
          rw [List.drop_eq_getElem_cons hi] at h5
          simp only [compGo] at h5
          have hd : ds[i]? = some ds[i] := List.getElem?_eq_getElem hi
          have x3 : RS K F1 H1 (wipe σ own) (wipeE own s1) F3 H3 (wipe σ own) s3 := x2.trans (.gro g3 x2.er)
          have nD : ∀ {σ' : Sl} {s' : En} {F' H' : Hp}, RS K F1 H1 (wipe σ own) (wipeE own s1) F' H' σ' s' → ¬ OwnA σ' s' L := fun x ⟨j, o⟩ => ew.ownA ⟨j, x.sub j L o⟩ hD
          have h1' : H3 L = some (.lst acc) := g3.hh L _ h1
          have h2' : F3 L = none := g3.nf L _ h1 h2
          cases ef : f ds[i] s3 with
          | none => rw [ef] at h5; simp at h5
          | some p =>
            obtain ⟨oy, s4⟩ := p
            rw [ef] at h5
            have ef' := ef
            rw [← hf] at ef
            simp only at ef
            cases ea : assignT T tg ds[i] s3 with
            | none => rw [ea] at ef; simp at ef
            | some s5 =>
              rw [ea] at ef
              simp only at ef
              refine ⟨F3, s3, ds[i], s5, x3.er, rx _ hd, ea, fun σ4 F4 H4 x4 c4 => ⟨?_, ?_⟩⟩
              · rw [c4.wipe ho]
                apply List.ext_getElem?
                intro j
                by_cases m : j ∈ own
                · rw [wipe_in m, wipe_in m]
                  cases σ[j]? <;> rfl
                · rw [wipe_out m]
              · have wσ : wipe σ4 own = wipe σ own := by
                  rw [c4.wipe ho]
                  apply List.ext_getElem?
                  intro j
                  by_cases m : j ∈ own
                  · rw [wipe_in m, wipe_in m]
                    cases σ[j]? <;> rfl
                  · rw [wipe_out m]
                have hin : ∀ j ∈ own, (wipeE own s1)[j]?.map SV.isIn = ((wipeE own s1)[j]?.map fun _ => false) := fun j hj => by
                  rw [wipeE_in hj]
                  cases s1[j]? <;> rfl
                have k4 : H4 L = some (.lst acc) := x4.st.keep L _ h1' (nD x3)
                have n4 : F4 L = none := x4.st.nf L _ h1' h2' (nD x3)
                cases ec : evalE T cnd s5 with
                | none => rw [ec] at ef; simp at ef
                | some p =>
                  obtain ⟨ec1, s6⟩ := p
                  rw [ec] at ef
                  split at ef
                  · rename_i s6' z
                    cases z
                    refine ⟨F4, s5, true, s6, x4.er, ec, fun F5 H5 x5 => iteT ?_⟩
                    have k5 : H5 L = some (.lst acc) := x5.st.keep L _ k4 (nD (x3.trans x4))
                    have n5 : F5 L = none := x5.st.nf L _ k4 n4 (nD (x3.trans x4))
                    cases ee : evalE T elt s6 with
                    | none => rw [ee] at ef; simp at ef
                    | some p =>
                      obtain ⟨e7, s7⟩ := p
                      rw [ee] at ef
                      simp only at ef
                      cases et : e7.take s7 with
                      | none => rw [et] at ef; simp at ef
                      | some p =>
                        obtain ⟨y, s8⟩ := p
                        rw [et] at ef
                        simp only [Option.some.injEq, Prod.mk.injEq] at ef
                        obtain ⟨rfl, rfl⟩ := ef
                        refine ⟨F5, s6, e7, s7, y, s8, x5.er, ee, et, fun v F6 H6 x6 r6 => ?_⟩
                        have x36 := ((x3.trans x4).trans x5).trans x6
                        have k6 : H6 L = some (.lst acc) := x6.st.keep L _ k5 (nD ((x3.trans x4).trans x5))
                        have n6 : F6 L = none := x6.st.nf L _ k5 n5 (nD ((x3.trans x4).trans x5))
                        simp only at h5
                        cases eg : compGo f (ds.drop (i + 1)) (wipeE own s8) with
                        | none => rw [eg] at h5; simp at h5
                        | some p =>
                          obtain ⟨yb', s9⟩ := p
                          rw [eg] at h5
                          simp only [Option.some.injEq, Prod.mk.injEq] at h5
                          obtain ⟨rfl, rfl⟩ := h5
                          have xw := (x36.wiped hin).young (o := .lst (acc ++ [v])) hD n6
                          rw [wσ] at xw
                          refine ⟨acc, k6, ?_, F6, wipeE own s8, acc ++ [v], ya ++ [y], yb', xw, upd_same, n6, ?_, by simpa using h4, eg⟩
                          · have l1 := h3.length
                            have l2 : ys.length = ya.length + (yb'.length + 1) := by rw [← h4]; simp
                            have := BIG_lt
                            omega
                          · exact (h3.up (g3.ff.trans (x4.st.ff.trans (x5.st.ff.trans x6.st.ff)))).append (.cons r6 .nil)
                  · rename_i s6' z
                    cases z
                    simp only [Option.some.injEq, Prod.mk.injEq] at ef
                    obtain ⟨rfl, rfl⟩ := ef
                    refine ⟨F4, s5, false, s6, x4.er, ec, fun F5 H5 x5 => iteF ?_⟩
                    have x35 := (x3.trans x4).trans x5
                    have xw := x35.wiped hin
                    rw [wσ] at xw
                    exact ⟨F5, wipeE own s6, acc, ya, yb, xw, x5.st.keep L _ k4 (nD (x3.trans x4)), x5.st.nf L _ k4 n4 (nD (x3.trans x4)), h3.up (g3.ff.trans (x4.st.ff.trans x5.st.ff)), h4, h5⟩
                  · simp at ef
        · obtain ⟨F2, s3, acc, ya, yb, x2, h1, h2, h3, h4, h5⟩ := hp
          rw [List.drop_of_length_le (Nat.le_refl _)] at h5
          simp only [compGo, Option.some.injEq, Prod.mk.injEq] at h5
          obtain ⟨rfl, rfl⟩ := h5
          rw [List.append_nil] at h4
          subst h4
          refine q (.ref L) F2 H2 (x1.trans (RS.restored x1.er x2)) ⟨.lst h1 h2 h3, fun a e => ?_⟩
          cases e
          exact x1.st.dom _ hD
      · simp at ev
    · simp at ev
end
end Tw

set_option linter.all false
set_option maxRecDepth 100000
set_option maxHeartbeats 4000000
set_option autoImplicit false
/-! Statements. -/
namespace Tw
open PySem PySem.Spec PyProof.Rows L2

/-- from a def's entry to here -/
structure SK (K : PySem.W.Frag) (F0 H0 : Hp) (σ0 : Sl) (s0 : En) (F H : Hp) (σ : Sl) (s : En) : Prop where
  e0 : ER K F0 H0 σ0 s0
  st : Stp F0 H0 (OwnA σ0 s0) F H
  er : ER K F H σ s
  own : ∀ (i : Nat) (a : Addr), OwnAt σ s i a → H0 a = none ∨ OwnA σ0 s0 a
  mv : ∀ (i : Nat) (d : D) (a : Addr), s[i]? = some (.own d) → σ[i]? = some (some (.ref a)) → H0 a = none ∨ ∃ (j : Nat) (d' : D), s0[j]? = some (.own d') ∧ σ0[j]? = some (some (.ref a))
  kin : ∀ i : Nat, (s[i]?.map SV.isIn) = (s0[i]?.map SV.isIn)
  same : ∀ i : Nat, s0[i]?.map SV.isIn = some true → σ[i]? = σ0[i]?
section
variable {K : PySem.W.Frag} {T : List Fn} {F0 H0 F H F' H' : Hp} {σ0 σ σ' : Sl} {s0 s s' : En}
theorem SK.refl (e : ER K F H σ s) : SK K F H σ s F H σ s :=
  ⟨e, .refl e.fh, e, fun i a h => .inr ⟨i, h⟩, fun i d a h1 h2 => .inr ⟨i, d, h1, h2⟩, fun _ => rfl, fun _ _ => rfl⟩
theorem SK.step (k : SK K F0 H0 σ0 s0 F H σ s) (x : RS K F H σ s F' H' σ' s') (c : ∀ i : Nat, s[i]?.map SV.isIn = some true → σ'[i]? = σ[i]?) : SK K F0 H0 σ0 s0 F' H' σ' s' where
  e0 := k.e0
  st := k.st.trans x.st fun a ⟨i, o⟩ => (k.own i a o).symm
  er := x.er
  own := fun i a o => k.own i a (x.sub i a o)
  mv := fun i d a h1 h2 => by
    obtain ⟨q1, y, q2, q3⟩ := x.sub i a ⟨h2, _, h1, rfl⟩
    have ki := x.kin i
    rw [h1, q2] at ki
    cases y with
    | own d' => exact k.mv i d' a q2 q1
    | inp d' => cases ki
    | _ => cases q3
  kin := fun i => (x.kin i).trans (k.kin i)
  same := fun i h => by
    rw [c i (by rw [k.kin]; exact h)]
    exact k.same i h
/-- a new thing goes to a slot -/
theorem SK.bindOwn (k : SK K F0 H0 σ0 s0 F H σ s) {i : Nat} {v : V} {d : D} (o : OR K F H v d) (n : ∀ a, v = .ref a → H0 a = none ∨ ∃ (j : Nat) (d' : D), s0[j]? = some (.own d') ∧ σ0[j]? = some (some (.ref a))) (no : ∀ a, v = .ref a → ¬ OwnA σ s a) (b : bindN i (.own d) s = some s') :
    SK K F0 H0 σ0 s0 F H (σ.set i (some v)) s' := by
  have hb : s' = s.set i (.own d) ∧ (s[i]?.map SV.isIn) = some false := by
    unfold bindN at b
    split at b
    · rename_i z; cases b; exact ⟨rfl, by rw [z]; rfl⟩
    · rename_i z; cases b; exact ⟨rfl, by rw [z]; rfl⟩
    · rename_i z; cases b; exact ⟨rfl, by rw [z]; rfl⟩
    · cases b
  obtain ⟨rfl, nin⟩ := hb
  have cas : ∀ j a, OwnAt (σ.set i (some v)) (s.set i (.own d)) j a → (j = i ∧ v = .ref a) ∨ (j ≠ i ∧ OwnAt σ s j a) := fun j a ⟨h1, x, h2, h3⟩ => by
    rcases get_set h2 with ⟨rfl, rfl⟩ | ⟨ne, h2⟩
    · rcases get_set h1 with ⟨_, e⟩ | ⟨ne, _⟩
      · exact .inl ⟨rfl, (Option.some.inj e).symm⟩
      · exact absurd rfl ne
    · rw [List.getElem?_set_ne (Ne.symm ne)] at h1
      exact .inr ⟨ne, h1, x, h2, h3⟩
  refine ⟨k.e0, k.st, ⟨k.er.fh, by simp [k.er.len], fun j x y h1 h2 => ?_, fun j l a hjl o1 o2 => ?_⟩, fun j a o => ?_, fun j d' a h1 h2 => ?_, fun j => ?_, fun j hj => ?_⟩
  · rcases get_set h2 with ⟨rfl, rfl⟩ | ⟨ne, h2⟩
    · rcases get_set h1 with ⟨_, rfl⟩ | ⟨ne, _⟩
      · exact o
      · exact absurd rfl ne
    · rw [List.getElem?_set_ne (Ne.symm ne)] at h1
      exact k.er.at_ j x y h1 h2
  · rcases cas j a o1 with ⟨rfl, e1⟩ | ⟨n1, q1⟩
    · rcases cas l a o2 with ⟨rfl, _⟩ | ⟨n2, q2⟩
      · exact hjl rfl
      · exact no a e1 ⟨l, q2⟩
    · rcases cas l a o2 with ⟨rfl, e2⟩ | ⟨n2, q2⟩
      · exact no a e2 ⟨j, q1⟩
      · exact k.er.ap j l a hjl q1 q2
  · rcases cas j a o with ⟨_, e⟩ | ⟨_, q⟩
    · rcases n a e with h | ⟨j, d', h1, h2⟩
      · exact .inl h
      · exact .inr ⟨j, h2, _, h1, rfl⟩
    · exact k.own j a q
  · rcases get_set h1 with ⟨rfl, _⟩ | ⟨ne, h1⟩
    · rcases get_set h2 with ⟨_, e⟩ | ⟨ne, _⟩
      · exact n a (Option.some.inj e).symm
      · exact absurd rfl ne
    · rw [List.getElem?_set_ne (Ne.symm ne)] at h2
      exact k.mv j d' a h1 h2
  · rw [← k.kin j]
    by_cases z : i = j
    · subst z
      rw [nin]
      cases w : s[i]? with
      | none => rw [w] at nin; cases nin
      | some y =>
        have hl : i < s.length := (List.getElem?_eq_some_iff.mp w).1
        rw [List.getElem?_set_self hl]; rfl
    · rw [List.getElem?_set_ne z]
  · have z : i ≠ j := fun e => by
      subst e
      rw [k.kin] at nin
      rw [nin] at hj
      cases hj
    rw [List.getElem?_set_ne z]
    exact k.same j hj

/-- what a return gives -/
def RetOk (K : PySem.W.Frag) (H0 : Hp) (σ0 : Sl) (s0 : En) (F' H' : Hp) (σ' : Sl) (s' : En) (v : V) : SV → Prop
  | .sh d => Rl K F' v d
  | .own d => OR K F' H' v d ∧ ∀ a, v = .ref a → (H0 a = none ∨ ∃ (j : Nat) (d' : D), s0[j]? = some (.own d') ∧ σ0[j]? = some (some (.ref a))) ∧ ¬ OwnA σ' s' a
  | _ => False
def Beh (K : PySem.W.Frag) (F0 H0 : Hp) (σ0 : Sl) (s0 : En) (Fc : Hp) (D : Ends) : Out → Prop
  | .nx s' => ∀ (F' H' : Hp) (σ' : Sl), SK K F0 H0 σ0 s0 F' H' σ' s' → Same Fc F' → D.nx σ' H'
  | .brk s' => ∀ (F' H' : Hp) (σ' : Sl), SK K F0 H0 σ0 s0 F' H' σ' s' → Same Fc F' → D.bk σ' H'
  | .cont s' => ∀ (F' H' : Hp) (σ' : Sl), SK K F0 H0 σ0 s0 F' H' σ' s' → Same Fc F' → D.ct σ' H'
  | .ret r s' => ∀ (v : V) (F' H' : Hp) (σ' : Sl), SK K F0 H0 σ0 s0 F' H' σ' s' → Same Fc F' → RetOk K H0 σ0 s0 F' H' σ' s' v r → D.rt v H'
variable (K T) in
def tS (c : MS) : TS := fun D σ H => ∃ (F0 H0 : Hp) (σ0 : Sl) (s0 : En) (Fc F : Hp) (s : En) (o : Out), SK K F0 H0 σ0 s0 F H σ s ∧ Same Fc F ∧ evalS T c s = some o ∧ Beh K F0 H0 σ0 s0 Fc D o
variable (K T) in
def tSs (c : MSs) : TS := fun D σ H => ∃ (F0 H0 : Hp) (σ0 : Sl) (s0 : En) (Fc F : Hp) (s : En) (o : Out), SK K F0 H0 σ0 s0 F H σ s ∧ Same Fc F ∧ evalB T c s = some o ∧ Beh K F0 H0 σ0 s0 Fc D o

variable {D : Ends}
theorem tSs_nil (h : tSs K T .nil D σ H) : tNext D σ H := by
  obtain ⟨F0, H0, σ0, s0, Fc, F, s, o, k, S, ev, b⟩ := h
  simp only [evalB, Option.some.injEq] at ev
  subst ev
  exact b F H σ k S
theorem tSs_cons {a : MS} {r : MSs} (h : tSs K T (.cons a r) D σ H) : tSeq (tS K T a) (tSs K T r) D σ H := by
  obtain ⟨F0, H0, σ0, s0, Fc, F, s, o, k, S, ev, b⟩ := h
  simp only [evalB] at ev
  cases ea : evalS T a s with
  | none => rw [ea] at ev; simp at ev
  | some o1 =>
    rw [ea] at ev
    refine ⟨F0, H0, σ0, s0, Fc, F, s, o1, k, S, ea, ?_⟩
    cases o1 with
    | nx s1 => exact fun F' H' σ' k' S' => ⟨F0, H0, σ0, s0, Fc, F', s1, o, k', S', ev, b⟩
    | ret v s1 => simp only [Option.some.injEq] at ev; subst ev; exact b
    | brk s1 => simp only [Option.some.injEq] at ev; subst ev; exact b
    | cont s1 => simp only [Option.some.injEq] at ev; subst ev; exact b
theorem tS_expr {e : ME} (h : tS K T (.expr e) D σ H) : tDrop (tM K T e) D σ H := by
  obtain ⟨F0, H0, σ0, s0, Fc, F, s, o, k, S, ev, b⟩ := h
  simp only [evalS] at ev
  cases ea : evalE T e s with
  | none => rw [ea] at ev; simp at ev
  | some p =>
    obtain ⟨e1, s1⟩ := p
    rw [ea] at ev
    simp only [Option.some.injEq] at ev
    subst ev
    exact ⟨F, s, e1, s1, k.er, ea, fun v F' H' x _ => b F' H' σ (k.step x fun _ _ => rfl) (S.trans x.st.ff)⟩
theorem tS_asg {i : Nat} {e : ME} (h : tS K T (.asg i e) D σ H) : tAsg (tM K T e) (gName i) D σ H := by
  obtain ⟨F0, H0, σ0, s0, Fc, F, s, o, k, S, ev, b⟩ := h
  simp only [evalS] at ev
  cases ea : evalE T e s with
  | none => rw [ea] at ev; simp at ev
  | some p =>
    obtain ⟨e1, s1⟩ := p
    rw [ea] at ev
    refine ⟨F, s, e1, s1, k.er, ea, fun v F' H' x r => ?_⟩
    have k1 := k.step x fun _ _ => rfl
    cases e1 with
    | sh d =>
      simp only at ev
      split at ev
      · rename_i s2 hb
        simp only [Option.some.injEq] at ev
        subst ev
        obtain ⟨x2, c2⟩ := RS.bind x.er r hb
        exact b F' H' _ (k1.step x2 c2.1.2) (S.trans x.st.ff)
      · cases ev
    | own d =>
      simp only at ev
      split at ev
      · rename_i s2 hb
        simp only [Option.some.injEq] at ev
        subst ev
        refine b F' H' _ (k1.bindOwn r.1 (fun a e => .inl (k.st.dom a (r.2 a e))) (fun a e ow => x.notOwn a ow (r.2 a e)) hb) (S.trans x.st.ff)
      · cases ev
    | slot j =>
      simp only at ev
      cases mv : moveD i j s1 with
      | some s3 =>
        rw [mv] at ev
        simp only [Option.some.injEq] at ev
        subst ev
        unfold moveD at mv
        split at mv
        · rename_i kvs z
          have r : σ[j]? = some (some v) := r
          have q : OR K F' H' v (.dict kvs) := x.er.at_ j _ _ r z
          have sub : ∀ i a, OwnAt σ (s1.set j .no) i a → i ≠ j ∧ OwnAt σ s1 i a := fun i a ⟨h1, y, h2, h3⟩ => by
            rcases get_set h2 with ⟨_, rfl⟩ | ⟨ne, h2⟩
            · cases h3
            · exact ⟨ne, h1, y, h2, h3⟩
          have xs : RS K F' H' σ s1 F' H' σ (s1.set j .no) := by
            refine ⟨x.er, .refl x.er.fh, ⟨x.er.fh, by simp [x.er.len], fun i y w g1 g2 => ?_, fun i l a hil o1 o2 => x.er.ap i l a hil (sub i a o1).2 (sub l a o2).2⟩, fun i a o => (sub i a o).2, fun i => ?_⟩
            · rcases get_set g2 with ⟨_, rfl⟩ | ⟨_, g2⟩
              · trivial
              · exact x.er.at_ i y w g1 g2
            · by_cases e : j = i
              · subst e
                have hl : j < s1.length := (List.getElem?_eq_some_iff.mp z).1
                rw [List.getElem?_set_self hl, z]; rfl
              · rw [List.getElem?_set_ne e]
          refine b F' H' _ ((k1.step xs fun _ _ => rfl).bindOwn q (fun a e => k1.mv j _ a z (by rw [← e]; exact r)) (fun a e ⟨i, o⟩ => ?_) mv) (S.trans x.st.ff)
          obtain ⟨ne, o⟩ := sub i a o
          exact x.er.ap i j a ne o ⟨by rw [← e]; exact r, _, z, rfl⟩
        · cases mv
      | none =>
      rw [mv] at ev
      simp only at ev
      split at ev
      · rename_i d s2 ht
        split at ev
        · rename_i s3 hb
          simp only [Option.some.injEq] at ev
          subst ev
          obtain ⟨F2, x2, r2⟩ := r.take x ht
          have k2 := k.step x2 fun _ _ => rfl
          obtain ⟨x3, c3⟩ := RS.bind x2.er r2 hb
          exact b F2 H' _ (k2.step x3 c3.1.2) (S.trans x2.st.ff)
        · cases ev
      · cases ev
theorem tS_asgT {t : MT} {e : ME} (h : tS K T (.asgT t e) D σ H) : tAsg (tD K T e) (tG K T t) D σ H := by
  obtain ⟨F0, H0, σ0, s0, Fc, F, s, o, k, S, ev, b⟩ := h
  simp only [evalS] at ev
  cases ea : evalE T e s with
  | none => rw [ea] at ev; simp at ev
  | some p =>
    obtain ⟨e1, s1⟩ := p
    rw [ea] at ev
    simp only at ev
    cases et : e1.take s1 with
    | none => rw [et] at ev; simp at ev
    | some p =>
      obtain ⟨d, s2⟩ := p
      rw [et] at ev
      simp only at ev
      cases eg : assignT T t d s2 with
      | none => rw [eg] at ev; simp at ev
      | some s3 =>
        rw [eg] at ev
        simp only [Option.some.injEq] at ev
        subst ev
        refine ⟨F, s, e1, s1, d, s2, k.er, ea, et, fun v F' H' x r => ⟨F', s2, d, s3, x.er, r, eg, fun σ' F2 H2 x2 c => ?_⟩⟩
        exact b F2 H2 σ' ((k.step x fun _ _ => rfl).step x2 c.1.2) (S.trans (x.st.ff.trans x2.st.ff))
/-- a, b = x, y: two plain names -/
theorem tS_par {i j : Nat} {a c : ME} (hij : i ≠ j) (h : tS K T (.asgT (.tup (.cons (.name i) (.cons (.name j) .nil))) (.tup (.cons a (.cons c .nil)))) D σ H) : tPar i j (tT K T (.cons a (.cons c .nil))) D σ H := by
  obtain ⟨F0, H0, σ0, s0, Fc, F, s, o, k, S, ev, b⟩ := h
  simp only [evalS, evalE] at ev
  cases ea : evalTs T (.cons a (.cons c .nil)) s with
  | none => rw [ea] at ev; simp at ev
  | some p =>
    obtain ⟨ds, s1⟩ := p
    rw [ea] at ev
    simp only at ev
    split at ev
    · rename_i ev1 d1 s2 he
      split at he
      · simp only [Option.some.injEq, Prod.mk.injEq] at he
        obtain ⟨rfl, rfl⟩ := he
        refine ⟨F, s, ds, s1, k.er, ea, fun vs F' H' x r => ?_⟩
        simp only [EV.take] at ev
        split at ev
        · rename_i s3 hg
          simp only [Option.some.injEq] at ev
          subst ev
          simp only [assignT] at hg
          cases r with
          | nil => simp [assignTs] at hg
          | @cons v vs d ds r1 r =>
            simp only [assignTs, assignT] at hg
            split at hg
            · rename_i s4 hb
              cases r with
              | nil => simp [assignTs] at hg
              | @cons v2 vs d2 ds r2 r =>
                simp only [assignTs, assignT] at hg
                split at hg
                · rename_i s5 hb2
                  cases r with
                  | cons => simp [assignTs] at hg
                  | nil =>
                    simp only [assignTs, Option.some.injEq] at hg
                    subst hg
                    obtain ⟨x3, c3⟩ := RS.bind x.er r1 hb
                    obtain ⟨x4, c4⟩ := RS.bind x3.er r2 hb2
                    exact ⟨v, v2, rfl, b F' H' _ (((k.step x fun _ _ => rfl).step x3 c3.1.2).step x4 c4.1.2) (S.trans x.st.ff)⟩
                · cases hg
            · cases hg
        · cases ev
      · cases he
    · cases ev
theorem tS_ret {e : ME} (h : tS K T (.ret e) D σ H) : tRet (tM K T e) D σ H := by
  obtain ⟨F0, H0, σ0, s0, Fc, F, s, o, k, S, ev, b⟩ := h
  simp only [evalS] at ev
  cases ea : evalE T e s with
  | none => rw [ea] at ev; simp at ev
  | some p =>
    obtain ⟨e1, s1⟩ := p
    rw [ea] at ev
    refine ⟨F, s, e1, s1, k.er, ea, fun v F' H' x r => ?_⟩
    have k1 := k.step x fun _ _ => rfl
    cases e1 with
    | sh d =>
      simp only [Option.some.injEq] at ev
      subst ev
      exact b v F' H' σ k1 (S.trans x.st.ff) r
    | own d =>
      simp only [Option.some.injEq] at ev
      subst ev
      exact b v F' H' σ k1 (S.trans x.st.ff) ⟨r.1, fun a e => ⟨.inl (k.st.dom a (r.2 a e)), fun ow => x.notOwn a ow (r.2 a e)⟩⟩
    | slot j =>
      have r : σ[j]? = some (some v) := r
      simp only at ev
      split at ev
      · rename_i d z
        simp only [Option.some.injEq] at ev
        subst ev
        have q : OR K F' H' v d := x.er.at_ j _ _ r z
        have sub : ∀ i a, OwnAt σ (s1.set j .no) i a → i ≠ j ∧ OwnAt σ s1 i a := fun i a ⟨h1, y, h2, h3⟩ => by
          rcases get_set h2 with ⟨_, rfl⟩ | ⟨ne, h2⟩
          · cases h3
          · exact ⟨ne, h1, y, h2, h3⟩
        have xs : RS K F' H' σ s1 F' H' σ (s1.set j .no) := by
          refine ⟨x.er, .refl x.er.fh, ⟨x.er.fh, by simp [x.er.len], fun i y w g1 g2 => ?_, fun i l a hil o1 o2 => x.er.ap i l a hil (sub i a o1).2 (sub l a o2).2⟩, fun i a o => (sub i a o).2, fun i => ?_⟩
          · rcases get_set g2 with ⟨_, rfl⟩ | ⟨_, g2⟩
            · trivial
            · exact x.er.at_ i y w g1 g2
          · by_cases e : j = i
            · subst e
              have hl : j < s1.length := (List.getElem?_eq_some_iff.mp z).1
              rw [List.getElem?_set_self hl, z]; rfl
            · rw [List.getElem?_set_ne e]
        refine b v F' H' σ (k1.step xs fun _ _ => rfl) (S.trans x.st.ff) ⟨q, fun a e => ⟨k1.mv j d a z (by rw [← e]; exact r), fun ⟨i, o⟩ => ?_⟩⟩
        obtain ⟨ne, o⟩ := sub i a o
        exact x.er.ap i j a ne o ⟨by rw [← e]; exact r, _, z, rfl⟩
      · rename_i d z
        simp only [Option.some.injEq] at ev
        subst ev
        obtain ⟨F2, x2, r2⟩ := RS.freeze x.er r z (.inr ⟨rfl, rfl⟩)
        exact b v F2 H' σ (k1.step x2 fun _ _ => rfl) (S.trans (x.st.ff.trans x2.st.ff)) r2
      · cases ev
theorem tS_retN (h : tS K T .retN D σ H) : tRetN D σ H := by
  obtain ⟨F0, H0, σ0, s0, Fc, F, s, o, k, S, ev, b⟩ := h
  simp only [evalS, Option.some.injEq] at ev
  subst ev
  exact b .non F H σ k S .non
theorem tS_ite {c : ME} {a d : MSs} (h : tS K T (.ite c a d) D σ H) : tIfS (tQ K T c) (tSs K T a) (tSs K T d) D σ H := by
  obtain ⟨F0, H0, σ0, s0, Fc, F, s, o, k, S, ev, b⟩ := h
  simp only [evalS] at ev
  cases ea : evalE T c s with
  | none => rw [ea] at ev; simp at ev
  | some p =>
    obtain ⟨e1, s1⟩ := p
    rw [ea] at ev
    split at ev
    · rename_i s2 z
      cases z
      exact ⟨F, s, true, s1, k.er, ea, fun F' H' x => iteT ⟨F0, H0, σ0, s0, Fc, F', s1, o, k.step x fun _ _ => rfl, S.trans x.st.ff, ev, b⟩⟩
    · rename_i s2 z
      cases z
      exact ⟨F, s, false, s1, k.er, ea, fun F' H' x => iteF ⟨F0, H0, σ0, s0, Fc, F', s1, o, k.step x fun _ _ => rfl, S.trans x.st.ff, ev, b⟩⟩
    · cases ev
theorem tS_pass (h : tS K T .pass D σ H) : tNext D σ H := by
  obtain ⟨F0, H0, σ0, s0, Fc, F, s, o, k, S, ev, b⟩ := h
  simp only [evalS, Option.some.injEq] at ev
  subst ev
  exact b F H σ k S
theorem tS_brk (h : tS K T .brk D σ H) : tBreak D σ H := by
  obtain ⟨F0, H0, σ0, s0, Fc, F, s, o, k, S, ev, b⟩ := h
  simp only [evalS, Option.some.injEq] at ev
  subst ev
  exact b F H σ k S
theorem tS_cont (h : tS K T .cont D σ H) : tCont D σ H := by
  obtain ⟨F0, H0, σ0, s0, Fc, F, s, o, k, S, ev, b⟩ := h
  simp only [evalS, Option.some.injEq] at ev
  subst ev
  exact b F H σ k S
theorem tS_while {c : ME} {body : MSs} (h : tS K T (.while c body) D σ H) : tWhile (tQ K T c) (tSs K T body) D σ H := by
  obtain ⟨F0, H0, σ0, s0, Fc, F, s, o, k, S, ev, b⟩ := h
  simp only [evalS] at ev
  unfold whileDen at ev
  split at ev
  · rename_i hn
    generalize hn.choose = n at ev
    refine ⟨fun m σ H => ∃ (F : Hp) (s : En), SK K F0 H0 σ0 s0 F H σ s ∧ Same Fc F ∧ whileGo (evalE T c) (evalB T body) m s = some o, ⟨n, F, s, k, S, ev⟩, fun m σ H ⟨F, s, k, S, ev⟩ => ?_⟩
    cases m with
    | zero => simp [whileGo] at ev
    | succ m =>
      simp only [whileGo] at ev
      cases ea : evalE T c s with
      | none => rw [ea] at ev; simp at ev
      | some p =>
        obtain ⟨e1, s1⟩ := p
        rw [ea] at ev
        split at ev
        · rename_i s2 z
          cases z
          simp only [Option.some.injEq] at ev
          subst ev
          exact ⟨F, s, false, s1, k.er, ea, fun F' H' x => iteF (b F' H' σ (k.step x fun _ _ => rfl) (S.trans x.st.ff))⟩
        · rename_i s2 z
          cases z
          refine ⟨F, s, true, s1, k.er, ea, fun F' H' x => iteT ⟨fun σ H => ∃ (F : Hp) (s : En), SK K F0 H0 σ0 s0 F H σ s ∧ Same Fc F ∧ whileGo (evalE T c) (evalB T body) m s = some o, fun σ' H' h => ⟨m, by omega, h⟩, ?_⟩⟩
          cases eb : evalB T body s1 with
          | none => rw [eb] at ev; simp at ev
          | some o1 =>
            rw [eb] at ev
            refine ⟨F0, H0, σ0, s0, Fc, F', s1, o1, k.step x fun _ _ => rfl, S.trans x.st.ff, eb, ?_⟩
            cases o1 with
            | nx s3 => exact fun F2 H2 σ2 k2 S2 => ⟨F2, s3, k2, S2, ev⟩
            | cont s3 => exact fun F2 H2 σ2 k2 S2 => ⟨F2, s3, k2, S2, ev⟩
            | brk s3 =>
              simp only [Option.some.injEq] at ev
              subst ev
              exact b
            | ret r s3 =>
              simp only [Option.some.injEq] at ev
              subst ev
              exact b
        · cases ev
  · cases ev
theorem tS_for {t : MT} {it : MI} {body : MSs} (h : tS K T (.for t it body) D σ H) : tFor (tI K T it) (tG K T t) (tSs K T body) D σ H := by
  obtain ⟨F0, H0, σ0, s0, Fc, F, s, o, k, S, ev, b⟩ := h
  simp only [evalS] at ev
  cases ei : evalI T it s with
  | none => rw [ei] at ev; simp at ev
  | some p =>
    obtain ⟨ds, s1⟩ := p
    rw [ei] at ev
    simp only at ev
    refine ⟨F, s, ds, s1, k.er, ei, fun J F1 H1 x1 io => ?_⟩
    obtain ⟨G, Y, w, hG, hY⟩ := io
    generalize hf : (fun (d : Tw.D) (s : En) => (match assignT T t d s with
      | some s1 => evalB T body s1
      | none => none : Option Out)) = f at ev
    refine for_it w (fun i σ H => ∃ (F2 : Hp) (s : En), SK K F0 H0 σ0 s0 F2 H σ s ∧ Same F1 F2 ∧ forGo f (ds.drop i) s = some o) ⟨F1, s1, k.step x1 fun _ _ => rfl, .refl _, ev⟩ (fun i σ H _ ⟨F2, s, k2, S1, _⟩ => hG H (S1.trans k2.er.fh)) (fun i x σ H H2 hi hp hy => ?_) fun σ H hp => ?_
    · obtain ⟨F2, s2, k2, S1, e2⟩ := hp
      obtain ⟨F3, g3, rx⟩ := hY i H x H2 F2 hi S1 k2.er.fh hy
      rw [List.drop_eq_getElem_cons hi] at e2
      simp only [forGo] at e2
      have hd : ds[i]? = some ds[i] := List.getElem?_eq_getElem hi
      have k3 := k2.step (.gro g3 k2.er) fun _ _ => rfl
      cases ef : f ds[i] s2 with
      | none => rw [ef] at e2; simp at e2
      | some o1 =>
        rw [ef] at e2
        rw [← hf] at ef
        simp only at ef
        cases ea : assignT T t ds[i] s2 with
        | none => rw [ea] at ef; simp at ef
        | some s4 =>
          rw [ea] at ef
          simp only at ef
          refine ⟨F3, s2, ds[i], s4, k3.er, rx _ hd, ea, fun σ4 F4 H4 x4 c4 => ?_⟩
          have k4 := k3.step x4 c4.1.2
          have S4 : Same F1 F4 := S1.trans (g3.ff.trans x4.st.ff)
          -- the body from here; what was frozen ahead stays so
          refine ⟨F0, H0, σ0, s0, F1, F4, s4, o1, k4, S4, ef, ?_⟩
          have Sc : Same Fc F1 := S.trans x1.st.ff
          cases o1 with
          | nx s5 => exact fun F5 H5 σ5 k5 S5 => ⟨F5, s5, k5, S5, e2⟩
          | cont s5 => exact fun F5 H5 σ5 k5 S5 => ⟨F5, s5, k5, S5, e2⟩
          | brk s5 =>
            simp only [Option.some.injEq] at e2
            subst e2
            exact fun F5 H5 σ5 k5 S5 => b F5 H5 σ5 k5 (Sc.trans S5)
          | ret r s5 =>
            simp only [Option.some.injEq] at e2
            subst e2
            exact fun v F5 H5 σ5 k5 S5 r5 => b v F5 H5 σ5 k5 (Sc.trans S5) r5
    · obtain ⟨F2, s2, k2, S1, e2⟩ := hp
      rw [List.drop_of_length_le (Nat.le_refl _)] at e2
      simp only [forGo, Option.some.injEq] at e2
      subst e2
      exact b F2 H σ k2 (S.trans (x1.st.ff.trans S1))
end
end Tw

set_option linter.all false
set_option maxRecDepth 100000
set_option maxHeartbeats 4000000
set_option autoImplicit false
/-! Things that are changed; what is walked. -/
namespace Tw
open PySem PySem.Spec PyProof.Rows L2
section
variable {K : PySem.W.Frag} {T : List Fn}
theorem RS.write {F H : Hp} {σ : Sl} {s : En} (e : ER K F H σ s) {i : Nat} {p : Addr} {x y : SV} {d d' : D} {o' : HO} (h1 : σ[i]? = some (some (.ref p))) (h2 : s[i]? = some x) (hx : (x = .own d ∧ y = .own d') ∨ (x = .inp d ∧ y = .inp d'))
    (o : OR K F (upd H p o') (.ref p) d') : RS K F H σ s F (upd H p o') σ (s.set i y) := by
  have ow : x.owns = true := by rcases hx with ⟨rfl, _⟩ | ⟨rfl, _⟩ <;> rfl
  have yow : y.owns = true := by rcases hx with ⟨_, rfl⟩ | ⟨_, rfl⟩ <;> rfl
  have xin : x.isIn = y.isIn := by rcases hx with ⟨rfl, rfl⟩ | ⟨rfl, rfl⟩ <;> rfl
  have me : OwnAt σ s i p := ⟨h1, x, h2, ow⟩
  obtain ⟨u0, hp, fp⟩ := e.own me
  have fh : Same F (upd H p o') := fun b u q => by
    have : b ≠ p := fun z => by rw [z, fp] at q; cases q
    rw [upd_ne this]; exact e.fh b u q
  have sub : ∀ j a, OwnAt σ (s.set i y) j a → OwnAt σ s j a := fun j a ⟨g1, z, g2, g3⟩ => by
    rcases get_set g2 with ⟨rfl, rfl⟩ | ⟨ne, g2⟩
    · exact ⟨g1, x, h2, ow⟩
    · exact ⟨g1, z, g2, g3⟩
  refine ⟨e, ⟨.refl _, fh, fun b u q n => ?_, fun b u q f _ => f, fun b z => ?_⟩, ⟨fh, by simp [e.len], fun j v z g1 g2 => ?_, fun j k a hjk o1 o2 => e.ap j k a hjk (sub j a o1) (sub k a o2)⟩, sub, fun j => ?_⟩
  · have : b ≠ p := fun z => n ⟨i, by rw [z]; exact me⟩
    rw [upd_ne this]; exact q
  · by_cases z' : b = p
    · rw [z', upd_same] at z; cases z
    · rw [upd_ne z'] at z; exact z
  · rcases get_set g2 with ⟨rfl, rfl⟩ | ⟨ne, g2⟩
    · rw [h1] at g1; cases g1
      rcases hx with ⟨_, rfl⟩ | ⟨_, rfl⟩ <;> exact o
    · have q := e.at_ j v z g1 g2
      have ne' : z.owns = true → ∀ a, v = some (.ref a) → a ≠ p := fun zo a ea za => e.ap j i a ne ⟨by rw [← ea]; exact g1, z, g2, zo⟩ (by rw [za]; exact me)
      cases z with
      | no => trivial
      | sh d => cases v <;> exact q
      | ins d => cases v <;> exact q
      | own d => cases v with
        | none => exact q
        | some v =>
          refine (show OR K F H v d from q).keep (.refl _) fun a u ea ha => ⟨?_, ?_⟩
          · rw [upd_ne (ne' rfl a (by rw [ea]))]; exact ha
          · obtain ⟨_, _, e1, _, e3, _⟩ := (show OR K F H v d from q).at
            rw [ea] at e1; cases e1; exact e3
      | inp d => cases v with
        | none => exact q
        | some v =>
          refine (show OR K F H v d from q).keep (.refl _) fun a u ea ha => ⟨?_, ?_⟩
          · rw [upd_ne (ne' rfl a (by rw [ea]))]; exact ha
          · obtain ⟨_, _, e1, _, e3, _⟩ := (show OR K F H v d from q).at
            rw [ea] at e1; cases e1; exact e3
  · by_cases z : i = j
    · subst z
      have hl : i < s.length := (List.getElem?_eq_some_iff.mp h2).1
      rw [List.getElem?_set_self hl, h2]
      simp only [Option.map_some, xin]
    · rw [List.getElem?_set_ne z]
theorem RlAll.snoc {F : Hp} {xs : List V} {ds : List D} {v : V} {d : D} (r : RlAll K F xs ds) (h : Rl K F v d) : RlAll K F (xs ++ [v]) (ds ++ [d]) := r.append (.cons h .nil)
/-- what a slot that owns a list holds -/
theorem ER.lst {F H : Hp} {σ : Sl} {s : En} (e : ER K F H σ s) {i : Nat} {ds : List D} {x : SV} (h : s[i]? = some x) (hx : x = .own (.list ds) ∨ x = .inp (.list ds)) : ∃ p xs, σ[i]? = some (some (.ref p)) ∧ H p = some (.lst xs) ∧ F p = none ∧ RlAll K F xs ds := by
  have hl : i < σ.length := by
    rw [e.len]
    exact (List.getElem?_eq_some_iff.mp h).1
  have q := e.at_ i σ[i] x (List.getElem?_eq_getElem hl) h
  cases w : σ[i] with
  | none => rw [w] at q; rcases hx with rfl | rfl <;> exact q.elim
  | some v =>
    rw [w] at q
    have q : OR K F H v (.list ds) := by rcases hx with rfl | rfl <;> exact q
    cases q with
    | lst h1 h2 h3 => exact ⟨_, _, by rw [List.getElem?_eq_getElem hl, w], h1, h2, h3⟩
theorem ER.dic {F H : Hp} {σ : Sl} {s : En} (e : ER K F H σ s) {i : Nat} {ds : List (D × D)} {x : SV} (h : s[i]? = some x) (hx : x = .own (.dict ds) ∨ x = .inp (.dict ds)) : ∃ p, σ[i]? = some (some (.ref p)) ∧ F p = none ∧ IsDo K F H p ds := by
  have hl : i < σ.length := by
    rw [e.len]
    exact (List.getElem?_eq_some_iff.mp h).1
  have q := e.at_ i σ[i] x (List.getElem?_eq_getElem hl) h
  cases w : σ[i] with
  | none => rw [w] at q; rcases hx with rfl | rfl <;> exact q.elim
  | some v =>
    rw [w] at q
    have q : OR K F H v (.dict ds) := by rcases hx with rfl | rfl <;> exact q
    cases q with
    | dic h1 h2 h3 => exact ⟨_, by rw [List.getElem?_eq_getElem hl, w], h2, .inl ⟨_, h1, h3⟩⟩
    | dicT h1 h2 h3 h4 => exact ⟨_, by rw [List.getElem?_eq_getElem hl, w], h2, .inr ⟨h3, _, h1, h4⟩⟩

/-! ### x.append(e), x[k] = e -/
theorem lstAt_spec {s : En} {i : Nat} {xs : List Tw.D} (h : lstAt s i = some xs) : ∃ x, s[i]? = some x ∧ (x = .own (.list xs) ∨ x = .inp (.list xs)) ∧ ∀ d', ∃ y, setAt s i d' = s.set i y ∧ ((x = .own (.list xs) ∧ y = .own d') ∨ (x = .inp (.list xs) ∧ y = .inp d')) := by
  unfold lstAt at h
  split at h
  · rename_i z; cases h; exact ⟨_, z, .inl rfl, fun d' => ⟨_, by unfold setAt; rw [z], .inl ⟨rfl, rfl⟩⟩⟩
  · rename_i z; cases h; exact ⟨_, z, .inr rfl, fun d' => ⟨_, by unfold setAt; rw [z], .inr ⟨rfl, rfl⟩⟩⟩
  · cases h
theorem dicAt_spec {s : En} {i : Nat} {xs : List (Tw.D × Tw.D)} (h : dicAt s i = some xs) : ∃ x, s[i]? = some x ∧ (x = .own (.dict xs) ∨ x = .inp (.dict xs)) ∧ ∀ d', ∃ y, setAt s i d' = s.set i y ∧ ((x = .own (.dict xs) ∧ y = .own d') ∨ (x = .inp (.dict xs) ∧ y = .inp d')) := by
  unfold dicAt at h
  split at h
  · rename_i z; cases h; exact ⟨_, z, .inl rfl, fun d' => ⟨_, by unfold setAt; rw [z], .inl ⟨rfl, rfl⟩⟩⟩
  · rename_i z; cases h; exact ⟨_, z, .inr rfl, fun d' => ⟨_, by unfold setAt; rw [z], .inr ⟨rfl, rfl⟩⟩⟩
  · cases h
variable {D : Ends}
theorem tS_append {i : Nat} {e : ME} {σ : Sl} {H : Hp} (h : tS K T (.mut .append i (.cons e .nil)) D σ H) : tDrop (tBM K "list" rAppend (tVar i) (tT K T (.cons e .nil))) D σ H := by
  obtain ⟨F0, H0, σ0, s0, Fc, F, s, o, k, S, ev, b⟩ := h
  simp only [evalS] at ev
  cases l0 : lstAt s i with
  | none => rw [l0] at ev; simp at ev
  | some xs0 =>
    rw [l0] at ev
    simp only at ev
    cases ea : evalTs T (.cons e .nil) s with
    | none => rw [ea] at ev; simp at ev
    | some p =>
      obtain ⟨ds, s1⟩ := p
      rw [ea] at ev
      simp only at ev
      cases l1 : lstAt s1 i with
      | none => rw [l1] at ev; simp at ev
      | some xs =>
        rw [l1] at ev
        simp only at ev
        obtain ⟨x0, q1, q2, _⟩ := lstAt_spec l0
        obtain ⟨p, vs0, r1, r2, r3, r4⟩ := k.er.lst q1 q2
        refine ⟨.ref p, r1, .inl ⟨rfl, vs0, .inl (.inl r2)⟩, F, s, ds, s1, k.er, ea, fun vs F' H' x r => ?_⟩
        obtain ⟨x1, w1, w2, w3⟩ := lstAt_spec l1
        obtain ⟨p', vs1, g1, g2, g3, g4⟩ := x.er.lst w1 w2
        rw [r1] at g1
        cases g1
        cases r with
        | nil => simp [Mu.run] at ev
        | @cons v vs d ds rv r =>
          cases r with
          | cons => simp [Mu.run] at ev
          | nil =>
            simp only [Mu.run] at ev
            split at ev
            · rename_i ys hz
              split at hz
              · rename_i hb
                cases hz
                simp only [Option.some.injEq] at ev
                subst ev
                refine ⟨p, vs1, v, rfl, rfl, g2, by rw [g4.length]; exact Nat.lt_trans hb BIG_lt, ?_⟩
                obtain ⟨y, e1, e2⟩ := w3 (.list (xs ++ [d]))
                rw [e1] at b
                have xw : RS K F' H' σ s1 F' (upd H' p (.lst (vs1 ++ [v]))) σ (s1.set i y) := RS.write x.er r1 w1 e2 (.lst upd_same g3 (g4.snoc rv))
                exact b F' _ σ ((k.step x fun _ _ => rfl).step xw fun _ _ => rfl) (S.trans x.st.ff)
              · cases hz
            · cases ev
theorem tS_insert {i : Nat} {e1 e2 : ME} {σ : Sl} {H : Hp} (h : tS K T (.mut .insert i (.cons e1 (.cons e2 .nil))) D σ H) : tDrop (tBM K "list" (fun x vs H Q => ∃ (l : Addr) (xs : List V) (i : Int) (y : V), x = .ref l ∧ vs = [.int i, y] ∧ H l = some (.lst xs) ∧ xs.length < sizeLine ∧ 0 ≤ i ∧ i < 2 ^ 63 ∧
    Q .non (upd H l (.lst (xs.take i.toNat ++ [y] ++ xs.drop i.toNat)))) (tVar i) (tT K T (.cons e1 (.cons e2 .nil)))) D σ H := by
  obtain ⟨F0, H0, σ0, s0, Fc, F, s, o, k, S, ev, b⟩ := h
  simp only [evalS] at ev
  cases l0 : lstAt s i with
  | none => rw [l0] at ev; simp at ev
  | some xs0 =>
    rw [l0] at ev
    simp only at ev
    cases ea : evalTs T (.cons e1 (.cons e2 .nil)) s with
    | none => rw [ea] at ev; simp at ev
    | some p =>
      obtain ⟨ds, s1⟩ := p
      rw [ea] at ev
      simp only at ev
      cases l1 : lstAt s1 i with
      | none => rw [l1] at ev; simp at ev
      | some xs =>
        rw [l1] at ev
        simp only at ev
        obtain ⟨x0, q1, q2, _⟩ := lstAt_spec l0
        obtain ⟨p, vs0, r1, r2, r3, r4⟩ := k.er.lst q1 q2
        refine ⟨.ref p, r1, .inl ⟨rfl, vs0, .inl (.inl r2)⟩, F, s, ds, s1, k.er, ea, fun vs F' H' x r => ?_⟩
        obtain ⟨x1, w1, w2, w3⟩ := lstAt_spec l1
        obtain ⟨p', vs1, g1, g2, g3, g4⟩ := x.er.lst w1 w2
        rw [r1] at g1
        cases g1
        cases r with
        | nil => simp [Mu.run] at ev
        | @cons v vs d ds rv r =>
          cases r with
          | nil => cases d <;> simp [Mu.run] at ev
          | @cons v2 vs d2 ds rv2 r =>
            cases r with
            | cons => cases d <;> simp [Mu.run] at ev
            | nil =>
              cases rv <;> try (simp [Mu.run] at ev; done)
              case int n =>
                split at ev
                · rename_i ys hz
                  simp only [Mu.run] at hz
                  split at hz
                  · rename_i hb
                    cases hz
                    simp only [Option.some.injEq] at ev
                    subst ev
                    refine ⟨p, vs1, n, v2, rfl, rfl, g2, by rw [g4.length]; exact Nat.lt_trans hb.2.2 BIG_lt, hb.1, Int.lt_trans hb.2.1 (by decide), ?_⟩
                    obtain ⟨y, e1, e2⟩ := w3 (.list (xs.take n.toNat ++ d2 :: xs.drop n.toNat))
                    rw [e1] at b
                    have rl : RlAll K F' (vs1.take n.toNat ++ [v2] ++ vs1.drop n.toNat) (xs.take n.toNat ++ d2 :: xs.drop n.toNat) := by
                      rw [List.append_assoc]
                      exact (g4.take _).append (.cons rv2 (g4.drop _))
                    have xw : RS K F' H' σ s1 F' (upd H' p (.lst (vs1.take n.toNat ++ [v2] ++ vs1.drop n.toNat))) σ (s1.set i y) := RS.write x.er r1 w1 e2 (.lst upd_same g3 rl)
                    exact b F' _ σ ((k.step x fun _ _ => rfl).step xw fun _ _ => rfl) (S.trans x.st.ff)
                  · cases hz
                · cases ev
theorem tS_reverse {i : Nat} {σ : Sl} {H : Hp} (h : tS K T (.mut .reverse i .nil) D σ H) : tDrop (tBM0 K "list" rReverse (tVar i)) D σ H := by
  obtain ⟨F0, H0, σ0, s0, Fc, F, s, o, k, S, ev, b⟩ := h
  simp only [evalS, evalTs] at ev
  cases l0 : lstAt s i with
  | none => rw [l0] at ev; simp at ev
  | some xs =>
    rw [l0] at ev
    simp only [Mu.run, Option.some.injEq] at ev
    subst ev
    obtain ⟨x0, q1, q2, w3⟩ := lstAt_spec l0
    obtain ⟨p, vs0, r1, r2, r3, r4⟩ := k.er.lst q1 q2
    refine ⟨.ref p, r1, .inl ⟨rfl, vs0, .inl (.inl r2)⟩, p, vs0, rfl, rfl, r2, ?_⟩
    obtain ⟨y, e1, e2⟩ := w3 (.list xs.reverse)
    rw [e1] at b
    have xw : RS K F H σ s F (upd H p (.lst vs0.reverse)) σ (s.set i y) := RS.write k.er r1 q1 e2 (.lst upd_same r3 r4.reverse)
    exact b F _ σ (k.step xw fun _ _ => rfl) S
theorem tS_ext {i : Nat} {e : ME} {σ : Sl} {H : Hp} (h : tS K T (.ext i e) D σ H) : tDrop (tBM K "list" rExtend (tVar i) (tE K T (.cons e .nil))) D σ H := by
  obtain ⟨F0, H0, σ0, s0, Fc, F, s, o, k, S, ev, b⟩ := h
  simp only [evalS] at ev
  cases l0 : lstAt s i with
  | none => rw [l0] at ev; simp at ev
  | some xs0 =>
    rw [l0] at ev
    simp only at ev
    split at ev
    · rename_i ys s1 ea
      cases l1 : lstAt s1 i with
      | none => rw [l1] at ev; simp at ev
      | some xs =>
        rw [l1] at ev
        simp only at ev
        split at ev
        · rename_i hb
          simp only [Option.some.injEq] at ev
          subst ev
          obtain ⟨x0, q1, q2, _⟩ := lstAt_spec l0
          obtain ⟨p, vs0, r1, r2, r3, r4⟩ := k.er.lst q1 q2
          refine ⟨.ref p, r1, .inl ⟨rfl, vs0, .inl (.inl r2)⟩, F, s, [.own (.list ys)], s1, k.er, by simp only [evalEs, ea], fun vs F' H' x r _ => ?_⟩
          obtain ⟨x1, w1, w2, w3⟩ := lstAt_spec l1
          obtain ⟨p', vs1, g1, g2, g3, g4⟩ := x.er.lst w1 w2
          rw [r1] at g1
          cases g1
          cases r with
          | cons r rr =>
            cases rr
            obtain ⟨ro, _⟩ := r
            cases ro with
            | lst h1 h2 h3 =>
              refine ⟨p, _, vs1, _, rfl, rfl, g2, h1, by rw [g4.length, h3.length]; exact Nat.le_trans hb (Nat.le_of_lt BIG_lt), ?_⟩
              obtain ⟨y, e1, e2⟩ := w3 (.list (xs ++ ys))
              rw [e1] at b
              have xw : RS K F' H' σ s1 F' (upd H' p (.lst _)) σ (s1.set i y) := RS.write x.er r1 w1 e2 (.lst upd_same g3 (g4.append h3))
              exact b F' _ σ ((k.step x fun _ _ => rfl).step xw fun _ _ => rfl) (S.trans x.st.ff)
        · cases ev
    · cases ev
/-- x[k] = v by values -/
def rSetN : TSet := fun o i v H Q => ∃ (a b : Addr) (k : List Key), o = .ref a ∧ i = .ref b ∧ H a = some (.dK []) ∧ H b = some (.tup (k.map kV)) ∧ Q (upd H a (.dT [(k, v)]))
def rPut : TSet := fun o i v H Q => rSetL o i v H Q ∨ rSetD o i v H Q ∨ rSetN o i v H Q
theorem put_ok {X : Cx} (hu : X.A.units + 1 < cLine) : PSet X rPut := by
  intro pins s σ H o i v ov iv u Q I ro ri rv h
  rcases h with h | h | h
  · exact set_list pins s σ H o i v ov iv u Q I ro ri rv h
  · exact set_dict hu pins s σ H o i v ov iv u Q I ro ri rv h
  · obtain ⟨a, b, k, rfl, rfl, h1, h2, q⟩ := h
    cases (show ov = Value.ref a from ro)
    cases (show iv = Value.ref b from ri)
    exact set_none hu I h1 h2 rv fun s' I' => ⟨_, I', q⟩
theorem tG_sub {i : Nat} {m : ME} {v : V} {σ : Sl} {H : Hp} {Q : Sl → Hp → Prop} (h : tG K T (.sub i m) v σ H Q) : gSub (tVar i) (tM K T m) rPut v σ H Q := by
  obtain ⟨F, s, d, s', er, r, a, q⟩ := h
  simp only [assignT] at a
  split at a
  case isFalse => cases a
  rename_i ow
  obtain ⟨o, ho⟩ : ∃ o, σ[i]? = some (some o) := by
    unfold ownsAt at ow
    have go : ∀ (x : SV) (d : Tw.D), s[i]? = some x → (x = .own d ∨ x = .inp d) → ∃ o, σ[i]? = some (some o) := fun x d h hx => by
      have hl : i < σ.length := by
        rw [er.len]
        exact (List.getElem?_eq_some_iff.mp h).1
      have q := er.at_ i σ[i] x (List.getElem?_eq_getElem hl) h
      cases w : σ[i] with
      | none => rw [w] at q; rcases hx with rfl | rfl <;> exact q.elim
      | some v => exact ⟨v, by rw [List.getElem?_eq_getElem hl, w]⟩
    split at ow
    · rename_i z; exact go _ _ z (.inl rfl)
    · rename_i z; exact go _ _ z (.inr rfl)
    · cases ow
  cases ea : evalE T m s with
  | none => rw [ea] at a; simp at a
  | some p =>
    obtain ⟨e1, s1⟩ := p
    rw [ea] at a
    simp only at a
    cases l1 : e1.look s1 with
    | none => rw [l1] at a; simp at a
    | some dk =>
      rw [l1] at a
      simp only at a
      refine ⟨o, ho, F, s, e1, s1, er, ea, fun w F1 H1 x1 r1 => ?_⟩
      have pk := r1.peek x1.er l1
      have r' := r.up x1.st.ff
      unfold subPut at a
      cases l2 : lstAt s1 i with
      | some xs =>
        rw [l2] at a
        simp only at a
        cases dk <;> try (cases a; done)
        case int j =>
          simp only at a
          split at a
          · rename_i n hn
            simp only [Option.some.injEq] at a
            subst a
            obtain ⟨x, w1, w2, w3⟩ := lstAt_spec l2
            obtain ⟨p, vs, g1, g2, g3, g4⟩ := x1.er.lst w1 w2
            rw [ho] at g1
            cases g1
            cases pk.int
            obtain ⟨y, e1, e2⟩ := w3 (.list (xs.set n d))
            rw [e1] at q
            refine .inl ⟨p, vs, j, n, rfl, rfl, g2, by rw [g4.length]; exact hn, ?_⟩
            exact q σ F1 _ (x1.trans (RS.write x1.er ho w1 e2 (.lst upd_same g3 (g4.set r' n)))) ⟨⟨rfl, fun _ _ => rfl⟩, fun _ _ => rfl⟩
          · cases a
      | none =>
        rw [l2] at a
        simp only at a
        cases l3 : dicAt s1 i with
        | none => rw [l3] at a; cases a
        | some kvs =>
          rw [l3] at a
          simp only at a
          split at a
          · rename_i hk
            simp only [Bool.and_eq_true, decide_eq_true_eq] at hk
            simp only [Option.some.injEq] at a
            subst a
            obtain ⟨x, w1, w2, w3⟩ := dicAt_spec l3
            obtain ⟨p, g1, g3, dc⟩ := x1.er.dic w1 w2
            rw [ho] at g1
            cases g1
            rcases okKey_cases hk.1 with ⟨k1, k2⟩ | ⟨k1, k2⟩
            · obtain ⟨ks, g2, g4⟩ := dc.keyI k2
              obtain ⟨kq, rfl⟩ := isKey_kD k1
              cases pk.key
              obtain ⟨y, e1, e2⟩ := w3 (.dict (Tw.putK kvs (kD kq) d))
              rw [e1] at q
              refine .inr (.inl ⟨p, _, rfl, DPut.k g2 (by rw [g4.length]; exact Nat.lt_trans hk.2 BIG_lt), ?_⟩)
              exact q σ F1 _ (x1.trans (RS.write x1.er ho w1 e2 (.dic upd_same g3 (g4.put r')))) ⟨⟨rfl, fun _ _ => rfl⟩, fun _ _ => rfl⟩
            · obtain ⟨b, kq, rfl, rfl, hb⟩ := pk.keyT x1.er.fh k1
              obtain ⟨y, e1, e2⟩ := w3 (.dict (Tw.putK kvs (.tuple (kq.map kD)) d))
              rw [e1] at q
              rcases k2 with rfl | k2
              · refine .inr (.inr ⟨p, b, kq, rfl, rfl, dc.no, hb, ?_⟩)
                exact q σ F1 _ (x1.trans (RS.write x1.er ho w1 e2 (.dicT upd_same g3 putK_ne (RlKvT.cons rfl r' .nil)))) ⟨⟨rfl, fun _ _ => rfl⟩, fun _ _ => rfl⟩
              · obtain ⟨ks, g2, g4⟩ := dc.keyT k2
                refine .inr (.inl ⟨p, _, rfl, DPut.t g2 hb (by rw [g4.length]; exact Nat.lt_trans hk.2 BIG_lt), ?_⟩)
                exact q σ F1 _ (x1.trans (RS.write x1.er ho w1 e2 (.dicT upd_same g3 putK_ne (g4.put r')))) ⟨⟨rfl, fun _ _ => rfl⟩, fun _ _ => rfl⟩
          · cases a

/-! ### a list walked while it stays its owner's -/
theorem walk_live {K : PySem.W.Frag} {a : Addr} {n : Nat} : Walk (Itl K a) n (fun H => ∃ xs : List V, SqL K H a xs ∧ xs.length = n) (fun i H x H' => H' = H ∧ ∀ xs : List V, SqL K H a xs → xs[i]? = some x) :=
  ⟨fun i _ hi ⟨xs, q, e⟩ => ⟨xs, xs[i]'(by omega), q, by simp [show i < xs.length by omega]⟩, fun _ ⟨xs, q, e⟩ => ⟨xs, q, by omega⟩, fun _ _ _ _ _ _ y => ⟨y.1, y.2⟩⟩
theorem for_tail {F0 H0 F H F1 H1 : Hp} {σ0 σ : Sl} {s0 s s1 : En} {Fc : Hp} {D : Ends} {o : Out} {t : MT} {body : MSs} {ds : List Tw.D} {J : It} (k : SK K F0 H0 σ0 s0 F H σ s) (S : Same Fc F) (x1 : RS K F H σ s F1 H1 σ s1) (io : IterOk K F1 ds J)
    (ev : forGo (fun d s => match assignT T t d s with
      | some s1 => evalB T body s1
      | none => none) ds s1 = some o) (b : Beh K F0 H0 σ0 s0 Fc D o) : tFor (fun _ _ R => R J H1) (tG K T t) (tSs K T body) D σ H := by
  obtain ⟨G, Y, w, hG, hY⟩ := io
  generalize hf : (fun (d : Tw.D) (s : En) => (match assignT T t d s with
    | some s1 => evalB T body s1
    | none => none : Option Out)) = f at ev
  refine for_it w (fun i σ H => ∃ (F2 : Hp) (s : En), SK K F0 H0 σ0 s0 F2 H σ s ∧ Same F1 F2 ∧ forGo f (ds.drop i) s = some o) ⟨F1, s1, k.step x1 fun _ _ => rfl, .refl _, ev⟩ (fun i σ H _ ⟨F2, s, k2, S1, _⟩ => hG H (S1.trans k2.er.fh)) (fun i x σ H H2 hi hp hy => ?_) fun σ H hp => ?_
  · obtain ⟨F2, s2, k2, S1, e2⟩ := hp
    obtain ⟨F3, g3, rx⟩ := hY i H x H2 F2 hi S1 k2.er.fh hy
    rw [List.drop_eq_getElem_cons hi] at e2
    simp only [forGo] at e2
    have hd : ds[i]? = some ds[i] := List.getElem?_eq_getElem hi
    have k3 := k2.step (.gro g3 k2.er) fun _ _ => rfl
    cases ef : f ds[i] s2 with
    | none => rw [ef] at e2; simp at e2
    | some o1 =>
      rw [ef] at e2
      rw [← hf] at ef
      simp only at ef
      cases ea : assignT T t ds[i] s2 with
      | none => rw [ea] at ef; simp at ef
      | some s4 =>
        rw [ea] at ef
        simp only at ef
        refine ⟨F3, s2, ds[i], s4, k3.er, rx _ hd, ea, fun σ4 F4 H4 x4 c4 => ?_⟩
        have k4 := k3.step x4 c4.1.2
        have S4 : Same F1 F4 := S1.trans (g3.ff.trans x4.st.ff)
        -- the body from here; what was frozen ahead stays so
        refine ⟨F0, H0, σ0, s0, F1, F4, s4, o1, k4, S4, ef, ?_⟩
        have Sc : Same Fc F1 := S.trans x1.st.ff
        cases o1 with
        | nx s5 => exact fun F5 H5 σ5 k5 S5 => ⟨F5, s5, k5, S5, e2⟩
        | cont s5 => exact fun F5 H5 σ5 k5 S5 => ⟨F5, s5, k5, S5, e2⟩
        | brk s5 =>
          simp only [Option.some.injEq] at e2
          subst e2
          exact fun F5 H5 σ5 k5 S5 => b F5 H5 σ5 k5 (Sc.trans S5)
        | ret r s5 =>
          simp only [Option.some.injEq] at e2
          subst e2
          exact fun v F5 H5 σ5 k5 S5 r5 => b v F5 H5 σ5 k5 (Sc.trans S5) r5
  · obtain ⟨F2, s2, k2, S1, e2⟩ := hp
    rw [List.drop_of_length_le (Nat.le_refl _)] at e2
    simp only [forGo, Option.some.injEq] at e2
    subst e2
    exact b F2 H σ k2 (S.trans (x1.st.ff.trans S1))
theorem tS_forL {D : Ends} {σ : Sl} {H : Hp} {t : MT} {i0 : Nat} {body : MSs} (h : tS K T (.forL t i0 body) D σ H) : tFor (iList K (tM K T (.var i0))) (tG K T t) (tSs K T body) D σ H := by
  obtain ⟨F0, H0, σ0, s0, Fc, F, s, o, k, S, ev, b⟩ := h
  simp only [evalS] at ev
  split at ev
  · rename_i ds hs
    refine ⟨F, s, .slot i0, s, k.er, by simp only [evalE, hs], fun v F1 H1 x1 r1 => ?_⟩
    have r1 : σ[i0]? = some (some v) := r1
    have kin : s0[i0]?.map SV.isIn = some true := by rw [← k.kin, hs]; rfl
    obtain ⟨a, xs, g1, g2, g3, g4⟩ := x1.er.lst hs (.inr rfl)
    rw [r1] at g1
    cases g1
    have sa : ∀ {F2 H2 : Hp} {σ2 : Sl} {s2 : En}, SK K F0 H0 σ0 s0 F2 H2 σ2 s2 → σ2[i0]? = some (some (.ref a)) := fun k2 => by
      rw [k2.same i0 kin, ← k.same i0 kin]
      exact r1
    refine ⟨a, rfl, ⟨xs, .inl (.inl g2)⟩, ?_⟩
    generalize hf : (fun (d : Tw.D) (s : En) => (match assignT T t d s with
      | some s1 => keepL i0 ds (evalB T body s1)
      | none => none : Option Out)) = f at ev
    refine for_it (walk_live (n := ds.length)) (fun i σ H => ∃ (F2 : Hp) (s : En), SK K F0 H0 σ0 s0 F2 H σ s ∧ Same F1 F2 ∧ s[i0]? = some (.inp (.list ds)) ∧ forGo f (ds.drop i) s = some o) ⟨F1, s, k.step x1 fun _ _ => rfl, .refl _, hs, ev⟩ (fun i σ H _ ⟨F2, s, k2, S1, h2, _⟩ => ?_) (fun i x σ H H2 hi hp hy => ?_) fun σ H hp => ?_
    · obtain ⟨p, xs, q1, q2, q3, q4⟩ := k2.er.lst h2 (.inr rfl)
      rw [sa k2] at q1
      cases q1
      exact ⟨xs, .inl (.inl q2), q4.length⟩
    · obtain ⟨F2, s2, k2, S1, h2, e2⟩ := hp
      obtain ⟨rfl, hy⟩ := hy
      obtain ⟨p, xs, q1, q2, q3, q4⟩ := k2.er.lst h2 (.inr rfl)
      rw [sa k2] at q1
      cases q1
      have hx := hy xs (.inl (.inl q2))
      rw [List.drop_eq_getElem_cons hi] at e2
      simp only [forGo] at e2
      have hd : ds[i]? = some ds[i] := List.getElem?_eq_getElem hi
      obtain ⟨w, hw1, hw2⟩ := q4.get hd
      rw [hx] at hw1
      cases hw1
      cases ef : f ds[i] s2 with
      | none => rw [ef] at e2; simp at e2
      | some o1 =>
        rw [ef] at e2
        rw [← hf] at ef
        simp only at ef
        cases ea : assignT T t ds[i] s2 with
        | none => rw [ea] at ef; simp at ef
        | some s4 =>
          rw [ea] at ef
          simp only at ef
          refine ⟨F2, s2, ds[i], s4, k2.er, hw2, ea, fun σ4 F4 H4 x4 c4 => ?_⟩
          have k4 := k2.step x4 c4.1.2
          have S4 : Same F1 F4 := S1.trans x4.st.ff
          have Sc : Same Fc F1 := S.trans x1.st.ff
          cases eb : evalB T body s4 with
          | none => rw [eb] at ef; simp [keepL] at ef
          | some o2 =>
            rw [eb] at ef
            refine ⟨F0, H0, σ0, s0, F1, F4, s4, o2, k4, S4, eb, ?_⟩
            cases o2 with
            | nx s5 =>
              simp only [keepL] at ef
              split at ef
              · rename_i z
                simp only [Option.some.injEq] at ef
                subst ef
                exact fun F5 H5 σ5 k5 S5 => ⟨F5, s5, k5, S5, z, e2⟩
              · cases ef
            | cont s5 =>
              simp only [keepL] at ef
              split at ef
              · rename_i z
                simp only [Option.some.injEq] at ef
                subst ef
                exact fun F5 H5 σ5 k5 S5 => ⟨F5, s5, k5, S5, z, e2⟩
              · cases ef
            | brk s5 =>
              simp only [keepL, Option.some.injEq] at ef
              subst ef
              simp only [Option.some.injEq] at e2
              subst e2
              exact fun F5 H5 σ5 k5 S5 => b F5 H5 σ5 k5 (Sc.trans S5)
            | ret r s5 =>
              simp only [keepL, Option.some.injEq] at ef
              subst ef
              simp only [Option.some.injEq] at e2
              subst e2
              exact fun v F5 H5 σ5 k5 S5 r5 => b v F5 H5 σ5 k5 (Sc.trans S5) r5
    · obtain ⟨F2, s2, k2, S1, h2, e2⟩ := hp
      rw [List.drop_of_length_le (Nat.le_refl _)] at e2
      simp only [forGo, Option.some.injEq] at e2
      subst e2
      exact b F2 H σ k2 (S.trans (x1.st.ff.trans S1))
  · rename_i ds hs
    refine ⟨F, s, .slot i0, s, k.er, by simp only [evalE, hs], fun v F1 H1 x1 r1 => ?_⟩
    obtain ⟨F2, x2, rl⟩ := EvR.take (d := .list ds) (s1 := s.set i0 (.sh (.list ds))) r1 x1 (by simp only [EV.take, hs])
    cases rl with
    | @lst a vs _ h r => exact ⟨a, rfl, ⟨vs, x2.er.fh.seq h⟩, for_tail k S x2 (iter_list h r) ev b⟩
  · cases ev
/-! ### what is walked -/
variable {X : Cx} {tg : Expr}
theorem pe_frz {e : Expr} {td : TE} (h : PE X e td) : PE X e (fun σ H Q => td σ H fun v H1 => ∃ (a : Addr) (ks : List (Key × V)), v = .ref a ∧ H1 a = some (.dK ks) ∧ ∀ o, Q v (upd H1 a (.frz o (.dK ks)))) := ⟨fun pins s σ H Q I q =>
  thn (h.run pins s σ H _ I q) fun u s1 ⟨x, H1, I1, rx, a, ks, ex, hd, q⟩ => by
    obtain ⟨o, I2⟩ := I1.lock hd True.intro
    exact ⟨x, _, I2, rx, q o⟩⟩
theorem noKeyT {F : Hp} {ks : List (List Key × V)} {kvs : List (Tw.D × Tw.D)} (r : RlKvT K F ks kvs) (n : kvs ≠ []) (h : (kvs.all fun p => isKey p.1) = true) : False := by
  cases r with
  | nil => exact n rfl
  | cons q _ _ =>
    subst q
    simp [isKey] at h
theorem dkeys_some {m : ME} {s : En} {kvs : List (Tw.D × Tw.D)} (h : dkeys m s = some kvs) : ∃ i, m = .var i ∧ s[i]? = some (.own (.dict kvs)) ∧ (kvs.all fun p => isKey p.1) = true := by
  unfold dkeys at h
  split at h
  · split at h
    · rename_i e
      split at h
      · rename_i z
        cases h
        exact ⟨_, rfl, e, z⟩
      · cases h
    · cases h
  · cases h
theorem pi_seq {e : Expr} {m : ME} (h : PE X e (tM X.K T m)) : PI X tg e (tI X.K T (.seq m)) := by
  refine ⟨fun pins s σ H R I q => ?_⟩
  obtain ⟨F, s0, ds, s', er, ev, q⟩ := q
  simp only [evalI] at ev
  cases ea : evalE T m s0 with
  | none => rw [ea] at ev; simp at ev
  | some p =>
    obtain ⟨e1, s1⟩ := p
    rw [ea] at ev
    simp only at ev
    cases et : e1.take s1 with
    | none => rw [et] at ev; simp at ev
    | some p =>
      obtain ⟨d, s2⟩ := p
      rw [et] at ev
      simp only at ev
      cases dq : itemsOf d with
      | none =>
        rw [dq] at ev
        simp only at ev
        cases dk : dkeys m s0 with
        | none => rw [dk] at ev; simp at ev
        | some kvs =>
          rw [dk] at ev
          simp only [Option.some.injEq, Prod.mk.injEq] at ev
          obtain ⟨rfl, rfl⟩ := ev
          obtain ⟨i, rfl, hi, hk⟩ := dkeys_some dk
          simp only [evalE, hi, Option.some.injEq, Prod.mk.injEq] at ea
          obtain ⟨rfl, rfl⟩ := ea
          simp only [EV.take, hi, Option.some.injEq, Prod.mk.injEq] at et
          obtain ⟨rfl, rfl⟩ := et
          refine (pi_keys (pe_frz h)).run pins s σ H R I ⟨F, s0, .slot i, s0, er, by simp only [evalE, hi], fun v F1 H1 x1 r1 => ?_⟩
          have r1 : σ[i]? = some (some v) := r1
          obtain ⟨p, g1, fp, dc⟩ := x1.er.dic hi (.inl rfl)
          rw [r1] at g1
          cases g1
          rcases dc with ⟨ks, hd, rk⟩ | ⟨n, ks, hd, rk⟩
          · refine ⟨p, ks, rfl, hd, fun o => ⟨p, o, rfl, .inl ⟨ks, upd_same, ?_⟩⟩⟩
            exact q _ _ _ (x1.trans (RS.lock x1.er r1 hi hd fp rk)) (iter_dict upd_same (rk.up fun b u q => by rw [upd_ne (ne_of_none q fp)]; exact q))
          · exact (noKeyT rk n hk).elim
      | some ds0 =>
      rw [dq] at ev
      simp only [Option.some.injEq, Prod.mk.injEq] at ev
      obtain ⟨rfl, rfl⟩ := ev
      cases d <;> try (simp [itemsOf] at dq; done)
      case list xs =>
        simp only [itemsOf, Option.some.injEq] at dq
        subst dq
        refine (pi_list (PE.weak h fun σ H Q => tD_of)).run pins s σ H R I ⟨F, s0, e1, s1, _, s2, er, ea, et, fun v F' H' x r => ?_⟩
        cases r with
        | @lst a vs _ hs rl => exact ⟨a, rfl, ⟨vs, x.er.fh.seq hs⟩, q _ F' H' x (iter_list hs rl)⟩
      case tuple xs =>
        simp only [itemsOf, Option.some.injEq] at dq
        subst dq
        refine (pi_tup (PE.weak h fun σ H Q => tD_of)).run pins s σ H R I ⟨F, s0, e1, s1, _, s2, er, ea, et, fun v F' H' x r => ?_⟩
        cases r with
        | @tup a vs _ hs rl => exact ⟨a, rfl, ⟨vs, Same.seqT x.er.fh (.inl (.inl hs))⟩, q _ F' H' x (iter_tup (.inl (.inl hs)) rl)⟩
      case str z =>
        simp only [itemsOf] at dq
        split at dq
        · cases dq
          · refine (pi_str (PE.weak h fun σ H Q => tD_of)).run pins s σ H R I ⟨F, s0, e1, s1, _, s2, er, ea, et, fun v F' H' x r => ?_⟩
            cases r
            exact ⟨z, rfl, q _ F' H' x iter_str⟩
        · cases dq
theorem tI_range {as : MEs} {σ : Sl} {H : Hp} {R : It → Hp → Prop} (h : tI K T (.range as) σ H R) : tE K T as σ H fun vs H1 => ∃ ds r, rangeOf ds = some r ∧ (∃ F s, ER K F H1 σ s ∧ PRs K F H1 vs ds) ∧ ∀ J, (∀ F, IterOk K F r J) → R J H1 := by
  obtain ⟨F, s0, ds, s', er, ev, q⟩ := h
  simp only [evalI] at ev
  cases ea : evalEs T as s0 with
  | none => rw [ea] at ev; simp at ev
  | some p =>
    obtain ⟨es, s1⟩ := p
    rw [ea] at ev
    simp only at ev
    cases l1 : lookAll es s1 with
    | none => rw [l1] at ev; simp at ev
    | some dd =>
      rw [l1] at ev
      simp only at ev
      cases hr : rangeOf dd with
      | none => rw [hr] at ev; simp at ev
      | some r =>
        rw [hr] at ev
        simp only [Option.some.injEq, Prod.mk.injEq] at ev
        obtain ⟨rfl, rfl⟩ := ev
        exact ⟨F, s0, es, s1, er, ea, fun vs F1 H1 x1 r1 _ => ⟨dd, r, hr, ⟨F1, s1, x1.er, r1.look x1.er l1⟩, fun J hJ => q J F1 H1 x1 (hJ F1)⟩⟩
theorem PRs.one {F H : Hp} {vs : List V} {d : Tw.D} (h : PRs K F H vs [d]) : ∃ v, vs = [v] ∧ PR K F H v d := by
  cases h with
  | cons h t => cases t; exact ⟨_, rfl, h⟩
theorem PRs.two {F H : Hp} {vs : List V} {d e : Tw.D} (h : PRs K F H vs [d, e]) : ∃ v w, vs = [v, w] ∧ PR K F H v d ∧ PR K F H w e := by
  cases h with
  | cons h t => obtain ⟨w, rfl, hw⟩ := t.one; exact ⟨_, _, rfl, h, hw⟩
theorem PRs.three {F H : Hp} {vs : List V} {d e f : Tw.D} (h : PRs K F H vs [d, e, f]) : ∃ v w z, vs = [v, w, z] ∧ PR K F H v d ∧ PR K F H w e ∧ PR K F H z f := by
  cases h with
  | cons h t => obtain ⟨w, z, rfl, hw⟩ := t.two; exact ⟨_, _, _, rfl, h, hw⟩
theorem PRs.len {F H : Hp} : ∀ {vs : List V} {ds : List Tw.D}, PRs K F H vs ds → vs.length = ds.length
  | _, _, .nil => rfl
  | _, _, .cons _ t => congrArg (· + 1) (PRs.len t)
end
end Tw

set_option linter.all false
set_option maxRecDepth 100000
set_option maxHeartbeats 8000000
set_option autoImplicit false
/-! From the program's syntax to the small language. -/
namespace Tw
open PySem PySem.Spec PyProof.Rows L2

/-- what a text's defs are: names, numbers of parameters, functions -/
structure Defs where
  T : List Fn
  ns : List (Str × Nat × Nat)
  /-- constants of the text, by name -/
  gl : List (Str × D)
structure XA (C : Defs) (N : List Str) (raw : Scope) (X : Cx) : Prop where
  hN : X.N = N
  nd : X.N.Nodup
  hc : X.calm = true
  bi : ∀ x ∈ (["len", "abs", "int", "str", "repr", "sum", "max", "min", "all", "any", "tuple", "list", "isinstance", "range", "bool", "dict", "enumerate", "zip", "reversed", "sorted", "set", "type"] : List Str), X.mg x = none
  hu : X.A.units + 65 < cLine
  hg : X.A.guards = some []
  fn : ∀ x, raw.names.lookup x = some .cell → X.fn x = true
  con : ∀ (x : Str) (d : D), C.gl.lookup x = some d → ∃ v u, X.mg x = some u ∧ RelV v u ∧ ∀ F, Rl X.K F v d
  tab : ∀ (x : Str) (k ar : Nat), C.ns.lookup x = some (k, ar) → ∃ (f : Addr) (fd : FuncData) (ps : List Str) (fn : Fn) (L : Nat), C.T[k]? = some fn ∧ FnG X.prog X.w X.K X.mg X.base L f fd ps (spF X.K fn ar) ∧ Room L X.A ∧
    X.mg x = some (.ref f) ∧ PySem.W.keepIn X.K (.ref f) = true ∧ Binds X.K fd ps []
  dg : KDig X.K
/-- the expression is that of the small language -/
def OkE (C : Defs) (N : List Str) (raw sc : Scope) (e : Expr) (m : ME) : Prop := ∀ X : Cx, XA C N raw X → X.env.scope = sc → PE X e (tM X.K C.T m) ∧ PT X e (tQ X.K C.T m)
def OkEs (C : Defs) (N : List Str) (raw sc : Scope) (es : List Expr) (ms : MEs) : Prop := ∀ X : Cx, XA C N raw X → X.env.scope = sc → PA X es (tE X.K C.T ms) ∧ PA X es (tT X.K C.T ms)
def OkI (C : Defs) (N : List Str) (raw sc : Scope) (tg e : Expr) (m : MI) : Prop := ∀ (X : Cx), XA C N raw X → X.env.scope = sc → PI X tg e (tI X.K C.T m)
def OkT (C : Defs) (N : List Str) (raw sc : Scope) (e : Expr) (m : MT) : Prop := ∀ X : Cx, XA C N raw X → X.env.scope = sc → PG X e (tG X.K C.T m)

def notStar : Expr → Bool
  | .Starred _ _ => false
  | _ => true
def notSlice : Expr → Bool
  | .Slice _ _ _ _ => false
  | _ => true
theorem star_cons {e : Expr} {es : List Expr} {env : Env} (h : notStar e = true) : starEach (e :: es) env = (false, eval e env) :: starEach es env := by
  cases e <;> first
    | rfl
    | cases h
theorem star_none {pos : Pos} {env : Env} : ∀ {es : List Expr}, es.all notStar = true → (backTo pos (starEach es env)).any (·.1) = false
  | [], _ => rfl
  | e :: es, h => by
    rw [List.all_cons, Bool.and_eq_true] at h
    rw [star_cons h.1]
    show (false || (backTo pos (starEach es env)).any (·.1)) = false
    rw [star_none h.2]
    rfl
theorem plain_ix {e : Expr} (h : notSlice e = true) : PlainIx e := by
  intro o i
  cases e <;> first
    | rfl
    | cases h

section
variable {C : Defs} {N : List Str} {raw sc : Scope}
theorem pt_of {X : Cx} {e : Expr} {m : ME} (h : PE X e (tM X.K C.T m)) (he : ∀ whole, isTrue e X.env whole = (do let v ← whole; standAt e.pos; holding [v] (truthy v))) : PT X e (tQ X.K C.T m) := PT.weak (pt_val h he) fun _ _ _ => tQ_of
def visB (sc : Scope) (x : Str) : Bool := match sc.names.lookup x with
  | some .local => true
  | some .cell => true
  | some .free => true
  | _ => false
theorem vis_of {sc : Scope} {x : Str} (h : visB sc x = true) : Vis sc x := by
  unfold visB at h
  split at h
  · rename_i z; exact .inl z
  · rename_i z; exact .inr (.inl z)
  · rename_i z; exact .inr (.inr z)
  · cases h
def okN (x : Str) : Bool := !(x == ("__debug__" : Str)) && !(x == ("__classdict__" : Str))
theorem okN_of {x : Str} (h : okN x = true) : (x == ("__debug__" : Str)) = false ∧ (x == ("__classdict__" : Str)) = false := by
  unfold okN at h
  simp only [Bool.and_eq_true, Bool.not_eq_true'] at h
  exact h
def glB (sc : Scope) (x : Str) : Bool := match sc.names.lookup x with
  | some .globalImplicit => true
  | _ => false
theorem gl_of {X : Cx} {x : Str} (hs : X.env.scope = sc) (h : glB sc x = true) : Gl X x := by
  unfold glB at h
  split at h
  · rename_i z
    show X.env.scope.names.lookup x = _
    rw [hs]; exact z
  · cases h

/-! ### rules for expressions -/
theorem ok_name {x : Str} {p : Pos} {i : Nat} (hi : N[i]? = some x) (hv : visB sc x = true) (hn : okN x = true) : OkE C N raw sc (.Name x p) (.var i) := fun X a hs => by
  have h : PE X (.Name x p) (tM X.K C.T (.var i)) := by
    refine PE.weak (pe_var (i := i) (by rw [a.hN]; exact hi) (by rw [hs]; exact vis_of hv) (okN_of hn).1 (okN_of hn).2) fun σ H Q h => ?_
    obtain ⟨F, s, e, s', er, ev, q⟩ := h
    simp only [evalE] at ev
    have go : ∀ (y : SV), s[i]? = some y → y ≠ .no → ∃ v, σ[i]? = some (some v) ∧ SR X.K F H (some v) y := fun y hy hn => by
      have hl : i < σ.length := by
        rw [er.len]
        exact (List.getElem?_eq_some_iff.mp hy).1
      have q := er.at_ i σ[i] y (List.getElem?_eq_getElem hl) hy
      cases w : σ[i] with
      | none => rw [w] at q; cases y <;> first | exact q.elim | exact absurd rfl hn
      | some v => rw [w] at q; exact ⟨v, by rw [List.getElem?_eq_getElem hl, w], q⟩
    split at ev
    · rename_i d z
      simp only [Option.some.injEq, Prod.mk.injEq] at ev
      obtain ⟨rfl, rfl⟩ := ev
      obtain ⟨v, h1, h2⟩ := go _ z (fun e => nomatch e)
      exact ⟨v, h1, q v F H (.refl er) h2⟩
    · rename_i d z
      simp only [Option.some.injEq, Prod.mk.injEq] at ev
      obtain ⟨rfl, rfl⟩ := ev
      obtain ⟨v, h1, h2⟩ := go _ z (fun e => nomatch e)
      exact ⟨v, h1, q v F H (.refl er) h2⟩
    · rename_i d z
      simp only [Option.some.injEq, Prod.mk.injEq] at ev
      obtain ⟨rfl, rfl⟩ := ev
      obtain ⟨v, h1, h2⟩ := go _ z (fun e => nomatch e)
      exact ⟨v, h1, q v F H (.refl er) h1⟩
    · rename_i d z
      simp only [Option.some.injEq, Prod.mk.injEq] at ev
      obtain ⟨rfl, rfl⟩ := ev
      obtain ⟨v, h1, h2⟩ := go _ z (fun e => nomatch e)
      exact ⟨v, h1, q v F H (.refl er) h1⟩
    · cases ev
  exact ⟨h, pt_of h fun _ => rfl⟩
def cC : Const → Option D
  | .none => some .none
  | .bool b => some (.bool b)
  | .int i => some (.int i)
  | .str x => some (.str x)
  | _ => none
theorem ok_const {c : Const} {k : Nat} {p : Pos} {d : D} (h : cC c = some d) : OkE C N raw sc (.Constant c k p) (.cst d) := fun X a hs => by
  have key : ∀ (v : V), PE X (.Constant c k p) (tC v) → (∀ F, Rl X.K F v d) → PE X (.Constant c k p) (tM X.K C.T (.cst d)) := fun v he hr => PE.weak he fun σ H Q h => by
    obtain ⟨F, s, e, s', er, ev, q⟩ := h
    simp only [evalE, Option.some.injEq, Prod.mk.injEq] at ev
    obtain ⟨rfl, rfl⟩ := ev
    exact q v F H (.refl er) (hr F)
  have h : PE X (.Constant c k p) (tM X.K C.T (.cst d)) := by
    cases c <;> simp only [cC, Option.some.injEq] at h <;> first
      | (cases h; done)
      | (subst h; first
        | exact key _ pe_non fun _ => .non
        | exact key _ pe_bl fun _ => .bl _
        | exact key _ pe_int fun _ => .int _
        | exact key _ pe_str fun _ => .str _)
  exact ⟨h, pt_of h fun _ => rfl⟩
theorem ok_glob {x : Str} {p : Pos} {d : D} (hd : C.gl.lookup x = some d) (hg : glB sc x = true) (hn : okN x = true) : OkE C N raw sc (.Name x p) (.cst d) := fun X a hs => by
  obtain ⟨v, u, hm, r, rl⟩ := a.con x d hd
  have h : PE X (.Name x p) (tM X.K C.T (.cst d)) := PE.weak (pe_glob (gl_of hs hg) hm r (okN_of hn).1) fun σ H Q h => by
    obtain ⟨F, s, e, s', er, ev, q⟩ := h
    simp only [evalE, Option.some.injEq, Prod.mk.injEq] at ev
    obtain ⟨rfl, rfl⟩ := ev
    exact q v F H (.refl er) (rl F)
  exact ⟨h, pt_of h fun _ => rfl⟩
theorem ok_nil : OkEs C N raw sc [] .nil := fun X a hs => ⟨PA.weak pa_nil fun _ _ _ => tE_nil, PA.weak pa_nil fun _ _ _ => tT_nil⟩
theorem ok_cons {e : Expr} {es : List Expr} {m : ME} {ms : MEs} (h : OkE C N raw sc e m) (t : OkEs C N raw sc es ms) (hs : notStar e = true) : OkEs C N raw sc (e :: es) (.cons m ms) := fun X a hx =>
  ⟨PA.weak (pa_cons (h X a hx).1 (t X a hx).1 (star_cons hs)) fun _ _ _ => tE_cons, PA.weak (pa_cons (PE.weak (h X a hx).1 fun _ _ _ => tD_of) (t X a hx).2 (star_cons hs)) fun _ _ _ => tT_cons⟩
theorem ok_tup {es : List Expr} {ms : MEs} {k : Nat} {p : Pos} (h : OkEs C N raw sc es ms) : OkE C N raw sc (.Tuple es k p) (.tup ms) := fun X a hs => by
  have h := PE.weak (pe_tup (x1 := k) (pos := p) (h X a hs).2) fun _ _ _ => tM_tup
  exact ⟨h, pt_of h fun _ => rfl⟩
theorem ok_lst {es : List Expr} {ms : MEs} {p : Pos} (h : OkEs C N raw sc es ms) : OkE C N raw sc (.List es p) (.lst ms) := fun X a hs => by
  have h := PE.weak (pe_lst (pos := p) (h X a hs).2) fun _ _ _ => tM_lst
  exact ⟨h, pt_of h fun _ => rfl⟩
/-- the pairs of a dict display -/
def OkPs (C : Defs) (N : List Str) (raw sc : Scope) (ks : List (Option Expr)) (vs : List Expr) (ms : MEs) : Prop := ∀ (X : Cx) (p : Pos), XA C N raw X → X.env.scope = sc →
  ∃ trs, PPs X p ks vs trs ∧ ∀ (σ : Sl) (H : Hp) (Q : List (V × V) → Hp → Prop), tP (K := X.K) (T := C.T) ms σ H Q → tPairs trs σ H Q
theorem ok_pnil : OkPs C N raw sc [] [] .nil := fun X p a hs => ⟨[], pps_nil, fun _ _ _ => tP_nil⟩
theorem ok_pcons {k v : Expr} {ks : List (Option Expr)} {vs : List Expr} {m n : ME} {ms : MEs} (hk : OkE C N raw sc k m) (hv : OkE C N raw sc v n) (t : OkPs C N raw sc ks vs ms) : OkPs C N raw sc (some k :: ks) (v :: vs) (.cons m (.cons n ms)) := fun X p a hs => by
  obtain ⟨trs, h1, h2⟩ := t X p a hs
  exact ⟨_, pps_cons (PE.weak (hk X a hs).1 fun _ _ _ => tD_of) (PE.weak (hv X a hs).1 fun _ _ _ => tD_of) h1, fun _ _ _ => tP_cons h2⟩
theorem ok_dic {ks : List (Option Expr)} {vs : List Expr} {ms : MEs} {p : Pos} (h : OkPs C N raw sc ks vs ms) (hall : ks.all (·.isSome) = true) (hl : ks.length = vs.length) (h15 : ks.length ≤ 15) (h0 : ks ≠ []) : OkE C N raw sc (.Dict ks vs p) (.dic ms) := fun X a hs => by
  obtain ⟨trs, h1, h2⟩ := h X p a hs
  have h := PE.weak (pe_disp h1 hall hl h0 h15) fun _ _ _ => tM_dic h2
  exact ⟨h, pt_of h fun _ => rfl⟩
theorem ok_dic0 {p : Pos} : OkE C N raw sc (.Dict [] [] p) (.dic .nil) := fun X a hs => by
  have h : PE X (.Dict [] [] p) (tM X.K C.T (.dic .nil)) := PE.weak (pe_dnewK (pos := p)) fun σ H Q h => by
    obtain ⟨F, s, e, s', er, ev, q⟩ := h
    simp only [evalE, evalTs, pairUp, List.length_nil, Nat.zero_le, if_true, Option.some.injEq, Prod.mk.injEq] at ev
    obtain ⟨rfl, rfl⟩ := ev
    intro p hp
    obtain ⟨g, fp⟩ := Gro.own (o := .dK []) er.fh hp
    exact q _ _ _ (.gro g er) ⟨.dic upd_same fp .nil, fun a e => by cases e; exact hp⟩
  exact ⟨h, pt_of h fun _ => rfl⟩
def cBin : Operator → Option Op
  | .Add => some .add
  | .Sub => some .sub
  | .Mult => some .mul
  | .FloorDiv => some .fdiv
  | .Mod => some .mod
  | .Pow => some .pow
  | _ => none
theorem ok_bin {a b : Expr} {m n : ME} {op : Operator} {o : Op} {p : Pos} (ho : cBin op = some o) (ha : OkE C N raw sc a m) (hb : OkE C N raw sc b n) : OkE C N raw sc (.BinOp a op b p) (.op o (.cons m (.cons n .nil))) := fun X xa hs => by
  have ho : OpR X (binaryOp op) (rD2 X.K o) := by
    cases op <;> simp only [cBin, Option.some.injEq] at ho <;> first
      | (cases ho; done)
      | (subst ho; first | exact o_add | exact o_sub | exact o_mul | exact o_fdiv | exact o_mod | exact o_pow)
  have h := PE.weak (pe_op (pos := p) ho (ha X xa hs).1 (hb X xa hs).1) fun _ _ _ => two
  exact ⟨h, pt_of h fun _ => rfl⟩
theorem ok_neg {a : Expr} {m : ME} {p : Pos} (ha : OkE C N raw sc a m) : OkE C N raw sc (.UnaryOp .USub a p) (.op .neg (.cons m .nil)) := fun X xa hs => by
  have h := PE.weak (pe_un (pos := p) o_neg (ha X xa hs).1) fun _ _ _ => one
  exact ⟨h, pt_of h fun _ => rfl⟩
theorem ok_not {a : Expr} {m : ME} {p : Pos} (ha : OkE C N raw sc a m) : OkE C N raw sc (.UnaryOp .Not a p) (.not m) := fun X xa hs =>
  ⟨PE.weak (pe_not (pos := p) (ha X xa hs).1) fun _ _ _ => tM_not, PT.weak (pt_not (pos := p) (ha X xa hs).2) fun _ _ _ => tQ_not⟩
/-- a chain of and, or -/
def OkB (C : Defs) (N : List Str) (raw sc : Scope) (op : BoolOp) (es : List Expr) (m : ME) : Prop := ∀ (X : Cx) (p : Pos), XA C N raw X → X.env.scope = sc → PE X (.BoolOp op es p) (tM X.K C.T m) ∧ PW X (.BoolOp op es p) (tQ X.K C.T m)
theorem ok_b1 {op : BoolOp} {e : Expr} {m : ME} (h : OkE C N raw sc e m) : OkB C N raw sc op [e] m := fun X p a hs => by
  refine ⟨pe_one (h X a hs).1, ?_⟩
  cases op
  · exact pw_and1 (h X a hs).2
  · exact pw_or1 (h X a hs).2
theorem ok_and {e b : Expr} {rest : List Expr} {m n : ME} (h : OkE C N raw sc e m) (t : OkB C N raw sc .And (b :: rest) n) : OkB C N raw sc .And (e :: b :: rest) (.and m n) := fun X p a hs =>
  ⟨PE.weak (pe_and (h X a hs).1 (t X p a hs).1) fun _ _ _ => tM_and, ⟨fun wh pins s σ H Q I q => (pw_and (h X a hs).2 (t X p a hs).2).run wh pins s σ H Q I (tQ_and q)⟩⟩
theorem ok_or {e b : Expr} {rest : List Expr} {m n : ME} (h : OkE C N raw sc e m) (t : OkB C N raw sc .Or (b :: rest) n) : OkB C N raw sc .Or (e :: b :: rest) (.or m n) := fun X p a hs =>
  ⟨PE.weak (pe_or (h X a hs).1 (t X p a hs).1) fun _ _ _ => tM_or, ⟨fun wh pins s σ H Q I q => (pw_or (h X a hs).2 (t X p a hs).2).run wh pins s σ H Q I (tQ_or q)⟩⟩
theorem ok_bool {op : BoolOp} {es : List Expr} {m : ME} {p : Pos} (h : OkB C N raw sc op es m) : OkE C N raw sc (.BoolOp op es p) m := fun X a hs => ⟨(h X p a hs).1, (h X p a hs).2.pt⟩
def cCmp : CmpOp → Option Op
  | .Lt => some .lt
  | .LtE => some .le
  | .Gt => some .gt
  | .GtE => some .ge
  | .Eq => some .eq
  | .NotEq => some .ne
  | .In => some .isin
  | .NotIn => some .notin
  | _ => none
theorem cmp_rule {X : Cx} (a : XA C N raw X) {op : CmpOp} {o : Op} (ho : cCmp op = some o) : OpR X (compareOp op) (rD2 X.K o) := by
  have := a.hu
  cases op <;> simp only [cCmp, Option.some.injEq] at ho <;> first
    | (cases ho; done)
    | (subst ho; first | exact o_lt | exact o_le | exact o_gt | exact o_ge | exact o_eq this | exact o_ne this | exact o_in this | exact o_notin this)
def notSet : Expr → Bool
  | .Set _ _ _ => false
  | _ => true
theorem mark_of {e : Expr} {op : CmpOp} (h : notSet e = true) : behindInMarks op e = false := by
  cases e <;> first
    | rfl
    | cases h
theorem pt_cmpQ {X : Cx} {a b : Expr} {op : CmpOp} {p : Pos} {m : ME} {r : R2} {ta tb : TE} (ho : OpR X (compareOp op) r) (ha : PE X a ta) (hb : PE X b tb) (hm : behindInMarks op b = false) (i : ∀ σ H Q, tM X.K C.T m σ H Q → tOp r ta tb σ H Q) :
    PE X (.Compare a [op] [b] p) (tM X.K C.T m) ∧ PT X (.Compare a [op] [b] p) (tQ X.K C.T m) :=
  ⟨PE.weak (pe_cmpR ho ha hb hm) i, PT.weak (pt_cmpR ho ha hb hm) fun σ H Q h => i σ H _ (tQ_of h)⟩
theorem ok_cmp {a b : Expr} {m n : ME} {op : CmpOp} {o : Op} {p : Pos} (ho : cCmp op = some o) (ha : OkE C N raw sc a m) (hb : OkE C N raw sc b n) (hm : notSet b = true) : OkE C N raw sc (.Compare a [op] [b] p) (.op o (.cons m (.cons n .nil))) := fun X xa hs =>
  pt_cmpQ (cmp_rule xa ho) (ha X xa hs).1 (hb X xa hs).1 (mark_of hm) fun _ _ _ => two
/-- is, is not of constants -/
def cIs : CmpOp → Const → Option Op
  | .Is, .none => some .isNone
  | .IsNot, .none => some .notNone
  | .Is, .bool b => some (.isBool b)
  | .IsNot, .bool b => some (.notBool b)
  | _, _ => none
theorem ok_is {a : Expr} {m : ME} {op : CmpOp} {c : Const} {k : Nat} {o : Op} {p p' : Pos} (ho : cIs op c = some o) (ha : OkE C N raw sc a m) : OkE C N raw sc (.Compare a [op] [.Constant c k p'] p) (.op o (.cons m .nil)) := fun X xa hs => by
  have ha' := (ha X xa hs).1
  unfold cIs at ho
  split at ho <;> first
    | (cases ho; done)
    | (simp only [Option.some.injEq] at ho; subst ho)
  · refine pt_cmpQ o_isNone ha' (pe_non (j := k) (pos := p')) rfl fun σ H Q h => ?_
    obtain ⟨F, s, e, s', er, ea, q⟩ := one h
    exact ⟨F, s, e, s', er, ea, fun v F' H' x r => ⟨rfl, q v F' H' x r⟩⟩
  · refine pt_cmpQ o_notNone ha' (pe_non (j := k) (pos := p')) rfl fun σ H Q h => ?_
    obtain ⟨F, s, e, s', er, ea, q⟩ := one h
    exact ⟨F, s, e, s', er, ea, fun v F' H' x r => ⟨rfl, q v F' H' x r⟩⟩
  · rename_i b
    refine pt_cmpQ (o_isBool b) ha' (pe_bl (j := k) (pos := p')) rfl fun σ H Q h => ?_
    obtain ⟨F, s, e, s', er, ea, q⟩ := one h
    exact ⟨F, s, e, s', er, ea, fun v F' H' x r => ⟨rfl, q v F' H' x r⟩⟩
  · rename_i b
    refine pt_cmpQ (o_notBool b) ha' (pe_bl (j := k) (pos := p')) rfl fun σ H Q h => ?_
    obtain ⟨F, s, e, s', er, ea, q⟩ := one h
    exact ⟨F, s, e, s', er, ea, fun v F' H' x r => ⟨rfl, q v F' H' x r⟩⟩
theorem ok_chain {a b c : Expr} {m n l : ME} {op1 op2 : CmpOp} {o1 o2 : Op} {p : Pos} (h1 : cCmp op1 = some o1) (h2 : cCmp op2 = some o2) (ha : OkE C N raw sc a m) (hb : OkE C N raw sc b n) (hc : OkE C N raw sc c l) (hm : notSet c = true) :
    OkE C N raw sc (.Compare a [op1, op2] [b, c] p) (.chain o1 o2 m n l) := fun X xa hs => by
  have mk : lastMarks [op1, op2] [b, c] = false := mark_of hm
  exact ⟨PE.weak (pe_chain (cmp_rule xa h1) (cmp_rule xa h2) (ha X xa hs).1 (hb X xa hs).1 (hc X xa hs).1 mk) fun _ _ _ => tM_chain,
    PT.weak (pt_chain (cmp_rule xa h1) (cmp_rule xa h2) (ha X xa hs).1 (hb X xa hs).1 (hc X xa hs).1 mk) fun σ H Q h => tM_chain (tQ_of h)⟩
theorem pt_chain3 {X : Cx} {a b c d : Expr} {ta tb tc td : TE} {pos : Pos} {op op' op2 : CmpOp} {r r' r2 : R2} (ho : OpR X (compareOp op) r) (ho' : OpR X (compareOp op') r') (ho2 : OpR X (compareOp op2) r2) (ha : PE X a ta) (hb : PE X b tb) (hc : PE X c tc) (hd : PE X d td)
    (hm : lastMarks [op, op', op2] [b, c, d] = false) : PT X (.Compare a [op, op', op2] [b, c, d] pos) (tTest (tChain3 r r' r2 ta tb tc td)) := by
  refine ⟨fun pins s σ H Q I h => ?_⟩
  refine PyProof.Rows.isTrue_chain (thn (ha.run pins s σ H _ I h) fun v s1 ⟨x, H1, I1, r1, q1⟩ => PyProof.Rows.test_link (thn (hb.run pins s1 σ H1 _ I1 q1) fun u s2 ⟨y, H2, I2, rr2, q2⟩ =>
    thn (ho pins s2 σ H2 x y v u _ I2 r1 rr2 q2) fun d s3 ⟨z, H3, I3, r3, k, e, q3⟩ => ?_)) hm
  subst e
  cases r3
  refine wpAny_truthy_bool ?_
  cases k with
  | false =>
    obtain ⟨k', e', q'⟩ := q3
    cases e'
    exact ite_ff ⟨H3, I3, q'⟩
  | true =>
    refine ite_tt (PyProof.Rows.test_link (thn (hc.run pins s3 σ H3 _ I3 q3) fun w' s4 ⟨z', H4, I4, r4, q4⟩ => thn (ho' pins s4 σ H4 y z' u w' _ I4 rr2 r4 q4) fun d' s5 ⟨z2, H5, I5, r5, k2, e2, q5⟩ => ?_))
    subst e2
    cases r5
    refine wpAny_truthy_bool ?_
    cases k2 with
    | false =>
      obtain ⟨k', e', q'⟩ := q5
      cases e'
      exact ite_ff ⟨H5, I5, q'⟩
    | true =>
      refine ite_tt (PyProof.Rows.test_last (thn (hd.run pins s5 σ H5 _ I5 q5) fun w6 s6 ⟨z6, H6, I6, r6, q6⟩ => thn (ho2 pins s6 σ H6 z' z6 w' w6 _ I6 r4 r6 q6) fun d7 s7 ⟨z7, H7, I7, r7, k3, e3, q7⟩ => ?_))
      subst e3
      cases r7
      exact wpAny_truthy_bool ⟨H7, I7, q7⟩
theorem ok_chain3 {a b c d : Expr} {m n l o : ME} {op1 op2 op3 : CmpOp} {o1 o2 o3 : Op} {p : Pos} (h1 : cCmp op1 = some o1) (h2 : cCmp op2 = some o2) (h3 : cCmp op3 = some o3) (ha : OkE C N raw sc a m) (hb : OkE C N raw sc b n) (hc : OkE C N raw sc c l) (hd : OkE C N raw sc d o) (hm : notSet d = true) :
    OkE C N raw sc (.Compare a [op1, op2, op3] [b, c, d] p) (.chain3 o1 o2 o3 m n l o) := fun X xa hs => by
  have mk : lastMarks [op1, op2, op3] [b, c, d] = false := mark_of hm
  exact ⟨PE.weak (pe_chain3 (cmp_rule xa h1) (cmp_rule xa h2) (cmp_rule xa h3) (ha X xa hs).1 (hb X xa hs).1 (hc X xa hs).1 (hd X xa hs).1 mk) fun _ _ _ => tM_chain3,
    PT.weak (pt_chain3 (cmp_rule xa h1) (cmp_rule xa h2) (cmp_rule xa h3) (ha X xa hs).1 (hb X xa hs).1 (hc X xa hs).1 (hd X xa hs).1 mk) fun σ H Q h => tM_chain3 (tQ_of h)⟩
theorem ok_idx {a b : Expr} {m n : ME} {p : Pos} (ha : OkE C N raw sc a m) (hb : OkE C N raw sc b n) (hn : notSlice b = true) : OkE C N raw sc (.Subscript a b p) (.op .idx (.cons m (.cons n .nil))) := fun X xa hs => by
  have h := PE.weak (pe_ix (pos := p) (o_idx xa.hu) (ha X xa hs).1 (hb X xa hs).1 (plain_ix hn)) fun _ _ _ => two
  exact ⟨h, pt_of h fun _ => rfl⟩
/-! ### slices -/
/-- a part of a slice -/
def OkP (C : Defs) (N : List Str) (raw sc : Scope) (e : Option Expr) (b : Bool) (m : ME) : Prop := (e = none ∧ b = false) ∨ ∃ e', e = some e' ∧ b = true ∧ OkE C N raw sc e' m
def tPt (K : PySem.W.Frag) (T : List Fn) (b : Bool) (m : ME) : TO := fun σ H Q => ∃ (F : Hp) (s : En) (l : Option Int) (s' : En), ER K F H σ s ∧
  (if b then (match evalE T m s with
        | some (.sh (.int i), s2) => some (some i, s2)
        | _ => none) else some (none, s) : Option (Option Int × En)) = some (l, s') ∧ ∀ (F' H' : Hp), RS K F H σ s F' H' σ s' → Q l H'
theorem po_of {e : Option Expr} {b : Bool} {m : ME} (h : OkP C N raw sc e b m) {X : Cx} (xa : XA C N raw X) (hs : X.env.scope = sc) : PO X e (tPt X.K C.T b m) := by
  rcases h with ⟨rfl, rfl⟩ | ⟨e', rfl, rfl, h⟩
  · refine ⟨fun pins s σ H Q I q => po_none.run pins s σ H Q I ?_⟩
    obtain ⟨F, s, l, s', er, ev, q⟩ := q
    simp only [Bool.false_eq_true, if_false, Option.some.injEq, Prod.mk.injEq] at ev
    obtain ⟨rfl, rfl⟩ := ev
    exact q F H (.refl er)
  · refine ⟨fun pins s σ H Q I q => (po_some (h X xa hs).1).run pins s σ H Q I ?_⟩
    obtain ⟨F, s, l, s', er, ev, q⟩ := q
    simp only [if_true] at ev
    split at ev
    · rename_i i s2 z
      simp only [Option.some.injEq, Prod.mk.injEq] at ev
      obtain ⟨rfl, rfl⟩ := ev
      exact ⟨F, s, _, s2, er, z, fun v F' H' x r => by cases r; exact ⟨i, rfl, q F' H' x⟩⟩
    · cases ev
theorem ok_slice {a : Expr} {lo hi : Option Expr} {bl bh : Bool} {m ml mh : ME} {p p2 : Pos} (ha : OkE C N raw sc a m) (hl : OkP C N raw sc lo bl ml) (hh : OkP C N raw sc hi bh mh) : OkE C N raw sc (.Subscript a (.Slice lo hi none p2) p) (.slc bl bh m ml mh) := fun X xa hs => by
  have h : PE X (.Subscript a (.Slice lo hi none p2) p) (tM X.K C.T (.slc bl bh m ml mh)) := PE.weak (pe_slice o_slice (ha X xa hs).1 (po_of hl xa hs) (po_of hh xa hs)) fun σ H Q h => by
    obtain ⟨F, s, e, s', er, ev, q⟩ := h
    simp only [evalE] at ev
    cases ea : evalE C.T m s with
    | none => rw [ea] at ev; simp at ev
    | some pp =>
      obtain ⟨e1, s1⟩ := pp
      rw [ea] at ev
      simp only at ev
      split at ev
      · rename_i l s2 z1
        split at ev
        · rename_i hh s3 z2
          split at ev
          · rename_i d z3
            split at ev
            · rename_i r z4
              simp only [Option.some.injEq, Prod.mk.injEq] at ev
              obtain ⟨rfl, rfl⟩ := ev
              refine ⟨F, s, e1, s1, er, ea, fun x F1 H1 x1 r1 => ⟨F1, s1, l, s2, x1.er, z1, fun F2 H2 x2 => ⟨F2, s2, hh, s3, x2.er, z2, fun F3 H3 x3 => ?_⟩⟩⟩
              have r1' := (r1.carry x2 x1.notOwn).carry x3 (x1.trans x2).notOwn
              refine ⟨F3, d, r, x3.er.fh, r1'.peek x3.er z3, z4, fun v F4 H4 g r4 => ?_⟩
              refine q v F4 H4 (((x1.trans x2).trans x3).trans (.gro g x3.er)) ?_
              exact EvR.base (by split at r4 <;> rename_i z <;> simp only [z, if_true, if_false, Bool.false_eq_true] <;> exact r4) fun b hb => x1.st.dom b (x2.st.dom b (x3.st.dom b hb))
            · cases ev
          · cases ev
        · cases ev
      · cases ev
  exact ⟨h, pt_of h fun _ => rfl⟩
/-! ### calls -/
def MEs.len : MEs → Nat
  | .nil => 0
  | .cons _ r => r.len + 1
theorem lenEs {T : List Fn} : ∀ {as : MEs} {s s' : En} {es : List EV}, evalEs T as s = some (es, s') → es.length = as.len
  | .nil, _, _, _, h => by
    simp only [evalEs, Option.some.injEq, Prod.mk.injEq] at h
    obtain ⟨rfl, rfl⟩ := h
    rfl
  | .cons a r, s, s', es, h => by
    simp only [evalEs] at h
    cases ea : evalE T a s with
    | none => rw [ea] at h; simp at h
    | some p =>
      rw [ea] at h
      simp only at h
      cases eb : evalEs T r p.2 with
      | none => rw [eb] at h; simp at h
      | some p2 =>
        rw [eb] at h
        simp only [Option.some.injEq, Prod.mk.injEq] at h
        obtain ⟨rfl, rfl⟩ := h
        simp [MEs.len, lenEs eb]
theorem ok_call {x : Str} {e : Expr} {es : List Expr} {k ar : Nat} {ms : MEs} {p pos : Pos} (hx : C.ns.lookup x = some (k, ar)) (hl : ms.len = ar) (hg : glB sc x = true) (hn : okN x = true) (hs1 : notStar e = true) (hs2 : es.all notStar = true) (ha : OkEs C N raw sc (e :: es) ms) :
    OkE C N raw sc (.Call (.Name x p) (e :: es) [] pos) (.call k ms) := fun X xa hs => by
  obtain ⟨f, fd, ps, fn, L, hT, F, hr, hm, hk, hb⟩ := xa.tab x k ar hx
  have h : PE X (.Call (.Name x p) (e :: es) [] pos) (tM X.K C.T (.call k ms)) := PE.weak (pe_callG F xa.hg hr (gl_of hs hg) hm hk hb (ha X xa hs).1 (okN_of hn).1 (star_cons hs1) (star_none hs2)) fun σ H Q h => tM_call hT (fun s es s' h => (lenEs h).trans hl) h
  exact ⟨h, pt_of h fun _ => rfl⟩
def cBf (x : Str) (n : Nat) : Option Op :=
  if x = "len" ∧ n = 1 then some .len else if x = "abs" ∧ n = 1 then some .abs else if x = "repr" ∧ n = 1 then some .repr else if x = "sum" ∧ n = 1 then some .sum else if x = "max" ∧ n = 1 then some .maxL else
  if x = "min" ∧ n = 1 then some .minL else if x = "max" ∧ n = 2 then some .max2 else if x = "min" ∧ n = 2 then some .min2 else if x = "all" ∧ n = 1 then some .all else if x = "any" ∧ n = 1 then some .any else
  if x = "int" ∧ n = 1 then some .int else if x = "str" ∧ n = 1 then some .str else if x = "tuple" ∧ n = 1 then some .tuple else if x = "list" ∧ n = 1 then some .list else if x = "sorted" ∧ n = 1 then some .sorted else if x = "dict" ∧ n = 1 then some .dpairs else none
theorem ite_some {α : Type} {c : Prop} [Decidable c] {a : α} {b : Option α} {o : α} (h : (if c then some a else b) = some o) : (c ∧ a = o) ∨ (¬ c ∧ b = some o) := by
  by_cases z : c
  · rw [if_pos z] at h; exact .inl ⟨z, Option.some.inj h⟩
  · rw [if_neg z] at h; exact .inr ⟨z, h⟩
theorem ok_bf {x : Str} {e : Expr} {es : List Expr} {o : Op} {n : Nat} {ms : MEs} {p pos : Pos} (ho : cBf x n = some o) (hg : glB sc x = true) (hs1 : notStar e = true) (hs2 : es.all notStar = true) (ha : OkEs C N raw sc (e :: es) ms) :
    OkE C N raw sc (.Call (.Name x p) (e :: es) [] pos) (.op o ms) := fun X xa hs => by
  have fb : ∀ (id : String), x = Str.ofString id → CallR X (.builtin id) (rDn X.K o) → bootBuiltins (Str.ofString id) = some (.builtin id) → X.mg (Str.ofString id) = none → (Str.ofString id) ≠ "__name__" → ((Str.ofString id) == ("__debug__" : Str)) = false →
      PE X (.Call (.Name x p) (e :: es) [] pos) (tM X.K C.T (.op o ms)) := fun id ex hc hv hm h1 h2 => by
    subst ex
    exact PE.weak (pe_callB hc (gl_of hs hg) hm hv (ha X xa hs).1 h1 h2 (star_cons hs1) (star_none hs2)) fun _ _ _ => many
  have ft : ∀ (id : String), x = Str.ofString id → CallR X (.type id) (rDn X.K o) → bootBuiltins (Str.ofString id) = some (.type id) → X.mg (Str.ofString id) = none → (Str.ofString id) ≠ "__name__" → ((Str.ofString id) == ("__debug__" : Str)) = false →
      PE X (.Call (.Name x p) (e :: es) [] pos) (tM X.K C.T (.op o ms)) := fun id ex hc hv hm h1 h2 => by
    subst ex
    exact PE.weak (pe_callTy hc (gl_of hs hg) hm hv (ha X xa hs).1 h1 h2 (star_cons hs1) (star_none hs2)) fun _ _ _ => many
  have h : PE X (.Call (.Name x p) (e :: es) [] pos) (tM X.K C.T (.op o ms)) := by
    have bi := xa.bi
    unfold cBf at ho
    rcases ite_some ho with ⟨z, rfl⟩ | ⟨_, ho⟩
    · exact fb "len" z.1 o_len boot_len (bi _ (by decide +kernel)) (by decide +kernel) (by decide +kernel)
    rcases ite_some ho with ⟨z, rfl⟩ | ⟨_, ho⟩
    · exact fb "abs" z.1 o_abs boot_abs (bi _ (by decide +kernel)) (by decide +kernel) (by decide +kernel)
    rcases ite_some ho with ⟨z, rfl⟩ | ⟨_, ho⟩
    · exact fb "repr" z.1 (o_repr xa.hg xa.hu xa.dg) boot_repr (bi _ (by decide +kernel)) (by decide +kernel) (by decide +kernel)
    rcases ite_some ho with ⟨z, rfl⟩ | ⟨_, ho⟩
    · exact fb "sum" z.1 (o_sum xa.hc) (by decide +kernel) (bi _ (by decide +kernel)) (by decide +kernel) (by decide +kernel)
    rcases ite_some ho with ⟨z, rfl⟩ | ⟨_, ho⟩
    · exact fb "max" z.1 (o_maxL xa.hc) boot_max (bi _ (by decide +kernel)) (by decide +kernel) (by decide +kernel)
    rcases ite_some ho with ⟨z, rfl⟩ | ⟨_, ho⟩
    · exact fb "min" z.1 (o_minL xa.hc xa.hu) boot_min (bi _ (by decide +kernel)) (by decide +kernel) (by decide +kernel)
    rcases ite_some ho with ⟨z, rfl⟩ | ⟨_, ho⟩
    · exact fb "max" z.1 (o_max2 xa.hc) boot_max (bi _ (by decide +kernel)) (by decide +kernel) (by decide +kernel)
    rcases ite_some ho with ⟨z, rfl⟩ | ⟨_, ho⟩
    · exact fb "min" z.1 (o_min2 xa.hc) boot_min (bi _ (by decide +kernel)) (by decide +kernel) (by decide +kernel)
    rcases ite_some ho with ⟨z, rfl⟩ | ⟨_, ho⟩
    · exact fb "all" z.1 (o_all xa.hc) boot_all (bi _ (by decide +kernel)) (by decide +kernel) (by decide +kernel)
    rcases ite_some ho with ⟨z, rfl⟩ | ⟨_, ho⟩
    · exact fb "any" z.1 (o_any xa.hc) boot_any (bi _ (by decide +kernel)) (by decide +kernel) (by decide +kernel)
    rcases ite_some ho with ⟨z, rfl⟩ | ⟨_, ho⟩
    · exact ft "int" z.1 o_int boot_int (bi _ (by decide +kernel)) (by decide +kernel) (by decide +kernel)
    rcases ite_some ho with ⟨z, rfl⟩ | ⟨_, ho⟩
    · exact ft "str" z.1 o_str (by decide +kernel) (bi _ (by decide +kernel)) (by decide +kernel) (by decide +kernel)
    rcases ite_some ho with ⟨z, rfl⟩ | ⟨_, ho⟩
    · exact ft "tuple" z.1 o_tuple (by decide +kernel) (bi _ (by decide +kernel)) (by decide +kernel) (by decide +kernel)
    rcases ite_some ho with ⟨z, rfl⟩ | ⟨_, ho⟩
    · exact ft "list" z.1 o_list boot_list (bi _ (by decide +kernel)) (by decide +kernel) (by decide +kernel)
    rcases ite_some ho with ⟨z, rfl⟩ | ⟨_, ho⟩
    · exact fb "sorted" z.1 (o_sorted xa.hc) (by decide +kernel) (bi _ (by decide +kernel)) (by decide +kernel) (by decide +kernel)
    rcases ite_some ho with ⟨z, rfl⟩ | ⟨_, ho⟩
    · exact ft "dict" z.1 (o_dpairs xa.hc) (by decide +kernel) (bi _ (by decide +kernel)) (by decide +kernel) (by decide +kernel)
    cases ho
  exact ⟨h, pt_of h fun _ => rfl⟩
def cTy (x : Str) : Option Ty :=
  if x = "int" then some .int else if x = "bool" then some .bool else if x = "str" then some .str else if x = "list" then some .list else if x = "tuple" then some .tuple else if x = "dict" then some .dict else none
theorem ok_inst {x : Str} {e : Expr} {m : ME} {t : Ty} {p p2 pos : Pos} (hx : cTy x = some t) (hg : glB sc "isinstance" = true) (hg2 : glB sc x = true) (hs1 : notStar e = true) (ha : OkE C N raw sc e m) :
    OkE C N raw sc (.Call (.Name "isinstance" p) [e, .Name x p2] [] pos) (.op (.inst t) (.cons m .nil)) := fun X xa hs => by
  have bi := xa.bi
  have ty : PE X (.Name x p2) (tC (.ty t.name)) := by
    have go : ∀ (id : String), x = Str.ofString id → t.name = id → bootBuiltins (Str.ofString id) = some (.type id) → X.mg (Str.ofString id) = none → (Str.ofString id) ≠ "__name__" → ((Str.ofString id) == ("__debug__" : Str)) = false → PE X (.Name x p2) (tC (.ty t.name)) := fun id ex et hv hm h1 h2 => by
      subst ex
      rw [et]
      exact pe_bltn (gl_of hs hg2) hm hv rfl h1 h2
    unfold cTy at hx
    rcases ite_some hx with ⟨z, rfl⟩ | ⟨_, hx⟩
    · exact go "int" z rfl boot_int (bi _ (by decide +kernel)) (by decide +kernel) (by decide +kernel)
    rcases ite_some hx with ⟨z, rfl⟩ | ⟨_, hx⟩
    · exact go "bool" z rfl boot_bool (bi _ (by decide +kernel)) (by decide +kernel) (by decide +kernel)
    rcases ite_some hx with ⟨z, rfl⟩ | ⟨_, hx⟩
    · exact go "str" z rfl (by decide +kernel) (bi _ (by decide +kernel)) (by decide +kernel) (by decide +kernel)
    rcases ite_some hx with ⟨z, rfl⟩ | ⟨_, hx⟩
    · exact go "list" z rfl boot_list (bi _ (by decide +kernel)) (by decide +kernel) (by decide +kernel)
    rcases ite_some hx with ⟨z, rfl⟩ | ⟨_, hx⟩
    · exact go "tuple" z rfl (by decide +kernel) (bi _ (by decide +kernel)) (by decide +kernel) (by decide +kernel)
    rcases ite_some hx with ⟨z, rfl⟩ | ⟨_, hx⟩
    · exact go "dict" z rfl boot_dict (bi _ (by decide +kernel)) (by decide +kernel) (by decide +kernel)
    cases hx
  have h : PE X (.Call (.Name "isinstance" p) [e, .Name x p2] [] pos) (tM X.K C.T (.op (.inst t) (.cons m .nil))) :=
    PE.weak (pe_callB (o_inst t) (gl_of hs hg) (bi _ (by decide +kernel)) boot_isinstance (pa_cons (ha X xa hs).1 (pa_cons ty pa_nil) (star_cons hs1)) (by decide +kernel) (by decide +kernel) (star_cons hs1) rfl) fun σ H Q h => by
      obtain ⟨F, s, e, s', er, ea, q⟩ := one h
      exact ⟨F, s, e, s', er, ea, fun v F' H' x r => ⟨v, rfl, q v F' H' x r⟩⟩
  exact ⟨h, pt_of h fun _ => rfl⟩
/-! ### what is walked -/
theorem ok_seq {tg e : Expr} {m : ME} (h : OkE C N raw sc e m) : OkI C N raw sc tg e (.seq m) := fun X a hs => pi_seq (h X a hs).1
theorem ok_range1 {tg : Expr} {e : Expr} {m : ME} {p pos : Pos} (hg : glB sc "range" = true) (hs1 : notStar e = true) (h : OkE C N raw sc e m) : OkI C N raw sc tg (.Call (.Name "range" p) [e] [] pos) (.range (.cons m .nil)) := fun X a hs =>
  PI.weak (pi_range1 (gl_of hs hg) (a.bi _ (by decide +kernel)) (ok_cons h ok_nil hs1 X a hs).1 (star_cons hs1)) fun σ H R q => by
    obtain ⟨F, s, es, s', er, ea, q⟩ := tI_range q
    refine ⟨F, s, es, s', er, ea, fun vs F' H' x r t => ?_⟩
    obtain ⟨ds, rr, hr, ⟨F2, s2, e2, ps⟩, q⟩ := q vs F' H' x r t
    have n1 := ps.len
    have n2 := r.length
    have n3 := lenEs ea
    simp only [MEs.len] at n3
    match ds, hr, ps, n1 with
    | [], hr, _, _ => cases hr
    | d :: e :: l, _, _, n1 => simp only [List.length_cons] at n1; omega
    | [d], hr, ps, n1' =>
      cases d <;> try (cases hr; done)
      case int n =>
        simp only [rangeOf] at hr
        split at hr
        · rename_i hz
          cases hr
          obtain ⟨v, rfl, hv⟩ := ps.one
          cases hv.int
          refine ⟨n, rfl, by omega, by omega, ?_⟩
          refine q _ fun F => ?_
          have := iter_range (K := X.K) (F := F) (lo := 0) (n := n.toNat)
          simpa using this
        · cases hr
theorem ok_range2 {tg : Expr} {e b : Expr} {m n : ME} {p pos : Pos} (hg : glB sc "range" = true) (hs1 : notStar e = true) (hs2 : notStar b = true) (h : OkE C N raw sc e m) (hb : OkE C N raw sc b n) : OkI C N raw sc tg (.Call (.Name "range" p) [e, b] [] pos) (.range (.cons m (.cons n .nil))) := fun X a hs =>
  PI.weak (pi_range2 (gl_of hs hg) (a.bi _ (by decide +kernel)) (ok_cons h (ok_cons hb ok_nil hs2) hs1 X a hs).1 (by rw [star_cons hs1, star_cons hs2]; rfl) (star_cons hs2)) fun σ H R q => by
    obtain ⟨F, s, es, s', er, ea, q⟩ := tI_range q
    refine ⟨F, s, es, s', er, ea, fun vs F' H' x r t => ?_⟩
    obtain ⟨ds, rr, hr, ⟨F2, s2, e2, ps⟩, q⟩ := q vs F' H' x r t
    have n1 := ps.len
    have n2 := r.length
    have n3 := lenEs ea
    simp only [MEs.len] at n3
    match ds, hr, ps, n1 with
    | [], hr, _, _ => cases hr
    | [_], _, _, n1 => simp only [List.length_cons, List.length_nil] at n1; omega
    | d :: e :: f :: l, _, _, n1 => simp only [List.length_cons] at n1; omega
    | [d, e], hr, ps, n1' =>
      cases d <;> cases e <;> try (cases hr; done)
      case int.int i j =>
        simp only [rangeOf] at hr
        split at hr
        · rename_i hz
          cases hr
          obtain ⟨v, w, rfl, hv, hw⟩ := ps.two
          cases hv.int
          cases hw.int
          refine ⟨i, j, rfl, ⟨by omega, by omega, by omega, by omega⟩, ?_⟩
          exact q _ fun F => iter_range
        · cases hr
theorem ok_range3 {tg : Expr} {e b c : Expr} {m n l : ME} {p pos : Pos} (hg : glB sc "range" = true) (hs1 : notStar e = true) (hs2 : notStar b = true) (hs3 : notStar c = true) (h : OkE C N raw sc e m) (hb : OkE C N raw sc b n) (hc : OkE C N raw sc c l) :
    OkI C N raw sc tg (.Call (.Name "range" p) [e, b, c] [] pos) (.range (.cons m (.cons n (.cons l .nil)))) := fun X a hs =>
  PI.weak (pi_range3 (gl_of hs hg) (a.bi _ (by decide +kernel)) (ok_cons h (ok_cons hb (ok_cons hc ok_nil hs3) hs2) hs1 X a hs).1 (star_cons hs1) (star_none (by simp [hs2, hs3]))) fun σ H R q => by
    obtain ⟨F, s, es, s', er, ea, q⟩ := tI_range q
    refine ⟨F, s, es, s', er, ea, fun vs F' H' x r t => ?_⟩
    obtain ⟨ds, rr, hr, ⟨F2, s2, e2, ps⟩, q⟩ := q vs F' H' x r t
    have n1 := ps.len
    have n2 := r.length
    have n3 := lenEs ea
    simp only [MEs.len] at n3
    match ds, hr, ps, n1 with
    | [], hr, _, _ => cases hr
    | [_], _, _, n1 => simp only [List.length_cons, List.length_nil] at n1; omega
    | [_, _], _, _, n1 => simp only [List.length_cons, List.length_nil] at n1; omega
    | d :: e :: f :: g :: l, _, _, n1 => simp only [List.length_cons] at n1; omega
    | [d, e, f], hr, ps, n1' =>
      cases d <;> cases e <;> cases f <;> try (cases hr; done)
      case int.int.int i j k =>
        simp only [rangeOf] at hr
        split at hr
        · rename_i hz
          cases hr
          obtain ⟨v, w, z, rfl, hv, hw, hz'⟩ := ps.three
          cases hv.int
          cases hw.int
          cases hz'.int
          obtain ⟨z1, z2, z3, z4, rfl⟩ := hz
          refine ⟨i, j, -1, (i - j).toNat, rfl, RgC.neg (by omega) (by omega) (by omega) (by omega), ?_⟩
          refine q _ fun F => ?_
          have := iter_rangeC (K := X.K) (F := F) (lo := i) (c := -1) (n := (i - j).toNat)
          have e : ∀ k : Nat, i + (k : Int) * -1 = i - (k : Int) := fun k => by omega
          simpa only [e] using this
        · cases hr
theorem ok_enum {e : Expr} {elts : List Expr} {kk : Nat} {tpos p pos : Pos} {m : ME} (hg : glB sc "enumerate" = true) (hs1 : notStar e = true) (h : OkE C N raw sc e m) : OkI C N raw sc (.Tuple elts kk tpos) (.Call (.Name "enumerate" p) [e] [] pos) (.enum m) := fun X a hs =>
  PI.weak (pi_enumB (gl_of hs hg) (a.bi _ (by decide +kernel)) (ok_cons h ok_nil hs1 X a hs).2 (star_cons hs1)) fun σ H R q => by
    obtain ⟨F, s, ds, s', er, ev, q⟩ := q
    simp only [evalI] at ev
    cases ea : evalE C.T m s with
    | none => rw [ea] at ev; simp at ev
    | some pp =>
      obtain ⟨e1, s1⟩ := pp
      rw [ea] at ev
      simp only at ev
      cases et : e1.take s1 with
      | none => rw [et] at ev; simp at ev
      | some pp =>
        obtain ⟨d, s2⟩ := pp
        rw [et] at ev
        simp only at ev
        cases es : seqOf d with
        | none => rw [es] at ev; simp at ev
        | some xs =>
          rw [es] at ev
          simp only [Option.some.injEq, Prod.mk.injEq] at ev
          obtain ⟨rfl, rfl⟩ := ev
          refine ⟨F, s, [d], s2, er, by simp only [evalTs, ea, et], fun vs F' H' x r => ?_⟩
          cases r with
          | cons r rr =>
            cases rr
            obtain ⟨b, a', ys, rfl, h1, h2⟩ := r.sq es
            exact ⟨b, a', ys, rfl, Same.sqB x.er.fh h1, q _ F' H' x (iter_enumB h1 h2)⟩
theorem ok_zip {e b : Expr} {elts : List Expr} {kk : Nat} {tpos p pos : Pos} {m n : ME} (hg : glB sc "zip" = true) (hs1 : notStar e = true) (hs2 : notStar b = true) (h : OkE C N raw sc e m) (hb : OkE C N raw sc b n) : OkI C N raw sc (.Tuple elts kk tpos) (.Call (.Name "zip" p) [e, b] [] pos) (.zip m n) := fun X a hs =>
  PI.weak (pi_zipB (gl_of hs hg) (a.bi _ (by decide +kernel)) (ok_cons h (ok_cons hb ok_nil hs2) hs1 X a hs).2 (star_cons hs1) (star_none (by simp [hs2]))) fun σ H R q => by
    obtain ⟨F, s, ds, s', er, ev, q⟩ := q
    simp only [evalI] at ev
    cases ea : evalE C.T m s with
    | none => rw [ea] at ev; simp at ev
    | some pp =>
      obtain ⟨e1, s1⟩ := pp
      rw [ea] at ev
      simp only at ev
      cases et : e1.take s1 with
      | none => rw [et] at ev; simp at ev
      | some pp =>
        obtain ⟨d, s2⟩ := pp
        rw [et] at ev
        simp only at ev
        cases ea2 : evalE C.T n s2 with
        | none => rw [ea2] at ev; simp at ev
        | some pp =>
          obtain ⟨e2, s3⟩ := pp
          rw [ea2] at ev
          simp only at ev
          cases et2 : e2.take s3 with
          | none => rw [et2] at ev; simp at ev
          | some pp =>
            obtain ⟨d', s4⟩ := pp
            rw [et2] at ev
            simp only at ev
            cases es : seqOf d with
            | none => rw [es] at ev; simp at ev
            | some xs =>
              cases es2 : seqOf d' with
              | none => rw [es, es2] at ev; simp at ev
              | some xs2 =>
                rw [es, es2] at ev
                simp only [Option.some.injEq, Prod.mk.injEq] at ev
                obtain ⟨rfl, rfl⟩ := ev
                refine ⟨F, s, [d, d'], s4, er, by simp only [evalTs, ea, et, ea2, et2], fun vs F' H' x r => ?_⟩
                cases r with
                | cons r rr =>
                  cases rr with
                  | cons r' rr =>
                    cases rr
                    obtain ⟨b1, a1, ys, rfl, h1, h2⟩ := r.sq es
                    obtain ⟨b2, a2, zs, rfl, h3, h4⟩ := r'.sq es2
                    exact ⟨b1, b2, a1, a2, ys, zs, rfl, Same.sqB x.er.fh h1, Same.sqB x.er.fh h3, q _ F' H' x (iter_zipB h1 h2 h3 h4)⟩
theorem ok_zipR {e b : Expr} {elts : List Expr} {kk : Nat} {tpos p p1 p2 pos q1 q2 : Pos} {m n : ME} (hg : glB sc "zip" = true) (hg2 : glB sc "reversed" = true) (hs1 : notStar e = true) (hs2 : notStar b = true) (h : OkE C N raw sc e m) (hb : OkE C N raw sc b n) :
    OkI C N raw sc (.Tuple elts kk tpos) (.Call (.Name "zip" p) [.Call (.Name "reversed" p1) [e] [] q1, .Call (.Name "reversed" p2) [b] [] q2] [] pos) (.ziprev m n) := fun X a hs =>
  PI.weak (pi_zipR (gl_of hs hg) (a.bi _ (by decide +kernel)) (gl_of hs hg2) (a.bi _ (by decide +kernel)) (PE.weak (h X a hs).1 fun _ _ _ => tD_of) (PE.weak (hb X a hs).1 fun _ _ _ => tD_of) (star_cons hs1) (star_cons hs2)) fun σ H R q => by
    obtain ⟨F, s, ds, s', er, ev, q⟩ := q
    simp only [evalI] at ev
    cases ea : evalE C.T m s with
    | none => rw [ea] at ev; simp at ev
    | some pp =>
      obtain ⟨e1, s1⟩ := pp
      rw [ea] at ev
      simp only at ev
      cases et : e1.take s1 with
      | none => rw [et] at ev; simp at ev
      | some pp =>
        obtain ⟨d, s2⟩ := pp
        rw [et] at ev
        simp only at ev
        cases ea2 : evalE C.T n s2 with
        | none => rw [ea2] at ev; simp at ev
        | some pp =>
          obtain ⟨e2, s3⟩ := pp
          rw [ea2] at ev
          simp only at ev
          cases et2 : e2.take s3 with
          | none => rw [et2] at ev; simp at ev
          | some pp =>
            obtain ⟨d', s4⟩ := pp
            rw [et2] at ev
            simp only at ev
            split at ev
            · rename_i xs ys
              split at ev
              · rename_i hll
                simp only [Option.some.injEq, Prod.mk.injEq] at ev
                obtain ⟨rfl, rfl⟩ := ev
                refine ⟨F, s, e1, s1, .tuple xs, s2, er, ea, et, fun v F1 H1 x1 r1 => ?_⟩
                obtain ⟨a1, vs, rfl, h1, h2⟩ := r1.tupv
                refine ⟨a1, vs, rfl, Same.seqT x1.er.fh h1, F1, s2, e2, s3, .tuple ys, s4, x1.er, ea2, et2, fun u F2 H2 x2 r2 => ?_⟩
                obtain ⟨a2, ws, rfl, h3, h4⟩ := r2.tupv
                have h1' := Same.seqT x2.st.ff h1
                have l1 := h2.length
                have l2 := h4.length
                exact ⟨a2, ws, rfl, Same.seqT x2.er.fh h3, Same.seqT x2.er.fh h1', by omega, q _ F2 H2 (x1.trans x2) (iter_zipR h1' (h2.up x2.st.ff) h3 h4 hll)⟩
              · cases ev
            · cases ev
/-! ### targets -/
def storeB (raw sc : Scope) (x : Str) : Bool := match sc.names.lookup x with
  | some .local => true
  | some .cell => (match raw.names.lookup x with
    | some .cell => true
    | _ => false)
  | _ => false
theorem store_of {X : Cx} {x : Str} (a : XA C N raw X) (hs : X.env.scope = sc) (h : storeB raw sc x = true) : Loc X.env.scope x ∧ (X.fn x = true ∨ X.env.scope.names.lookup x = some .local) := by
  unfold storeB at h
  split at h
  · rename_i z; rw [hs]; exact ⟨.inl z, .inr z⟩
  · rename_i z
    split at h
    · rename_i w; rw [hs]; exact ⟨.inr z, .inl (a.fn x w)⟩
    · cases h
  · cases h
theorem ok_tname {x : Str} {p : Pos} {i : Nat} (hi : N[i]? = some x) (hv : storeB raw sc x = true) : OkT C N raw sc (.Name x p) (.name i) := fun X a hs =>
  PG.weak (pg_name a.nd (by rw [a.hN]; exact hi) (store_of a hs hv).1 (store_of a hs hv).2) fun _ _ _ _ => tG_name
def OkTs (C : Defs) (N : List Str) (raw sc : Scope) (es : List Expr) (ts : MTs) : Prop := (∀ X : Cx, XA C N raw X → X.env.scope = sc → PGs X es (tGs X.K C.T ts)) ∧ ts.len = es.length
theorem PGs.weak {X : Cx} {e : List Expr} {t t' : TGs} (h : PGs X e t) (i : ∀ v σ H Q, t' v σ H Q → t v σ H Q) : PGs X e t' := ⟨fun pins s σ H v u Q I r q => h.run pins s σ H v u Q I r (i v σ H Q q)⟩
theorem ok_tnil : OkTs C N raw sc [] .nil := ⟨fun X a hs => PGs.weak pgs_nil fun _ _ _ _ => tGs_nil, rfl⟩
theorem each_cons {e : Expr} {es : List Expr} {env : Env} (h : notStar e = true) : assignEach (e :: es) env = (false, assign e env) :: assignEach es env := by
  cases e <;> first
    | rfl
    | cases h
theorem ok_tcons {e : Expr} {es : List Expr} {t : MT} {ts : MTs} (h : OkT C N raw sc e t) (r : OkTs C N raw sc es ts) (hs1 : notStar e = true) : OkTs C N raw sc (e :: es) (.cons t ts) :=
  ⟨fun X a hs => PGs.weak (pgs_cons (h X a hs) (r.1 X a hs) (by rw [each_cons hs1]; rfl)) fun _ _ _ _ => tGs_cons, by simp [MTs.len, r.2]⟩
theorem each_len {env : Env} : ∀ {es : List Expr}, es.all notStar = true → (assignEach es env).length = es.length ∧ (assignEach es env).findIdx? (·.1) = none
  | [], _ => ⟨rfl, rfl⟩
  | e :: es, h => by
    rw [List.all_cons, Bool.and_eq_true] at h
    rw [each_cons h.1]
    obtain ⟨h1, h2⟩ := each_len (env := env) h.2
    refine ⟨by simp [h1], ?_⟩
    rw [List.findIdx?_cons]
    simp [h2]
theorem ok_ttup {es : List Expr} {ts : MTs} {k : Nat} {p : Pos} (h : OkTs C N raw sc es ts) (hs1 : es.all notStar = true) : OkT C N raw sc (.Tuple es k p) (.tup ts) := fun X a hs =>
  PG.weak (pg_seq (n := es.length) a.hc (h.1 X a hs) (each_len hs1).1 (each_len hs1).2) fun _ _ _ _ => tG_tup h.2
theorem sub_assign {o b : Expr} {p : Pos} {env : Env} (h : notSlice b = true) : ∀ v, assign (.Subscript o b p) env v = (do
      let ov ← holding [v] (eval o env)
      let iv ← holding [v, ov] (eval b env)
      standAt p
      holding [v, ov, iv] (setItem ov iv v)
      release [v, ov, iv] []) := by
  intro v
  cases b <;> first
    | rfl
    | cases h
theorem ok_tsub {x : Str} {p p2 : Pos} {i : Nat} {b : Expr} {m : ME} (hns : notSlice b = true) (hi : N[i]? = some x) (hv : visB sc x = true) (hn : okN x = true) (hb : OkE C N raw sc b m) : OkT C N raw sc (.Subscript (.Name x p2) b p) (.sub i m) := fun X a hs => by
  have hu := a.hu
  exact PG.weak (pg_sub (pe_var (i := i) (by rw [a.hN]; exact hi) (by rw [hs]; exact vis_of hv) (okN_of hn).1 (okN_of hn).2) (hb X a hs).1 (put_ok (by omega)) (sub_assign hns)) fun _ _ _ _ => tG_sub
/-! ### comprehensions -/
theorem XA.blk {X : Cx} (a : XA C N raw X) (s : Shared) (H : Hp) (scope : Scope) (cenv : Env) (fp : List Addr) : XA C N scope (X.blk s H scope cenv fp) :=
  ⟨a.hN, a.nd, a.hc, a.bi, a.hu, a.hg, fun x h => by show (scope.names.lookup x == some .cell) = true; rw [h]; rfl, a.con, a.tab, a.dg⟩
theorem iter_plain {e : Expr} {env : Env} (h : notSet e = true) : ∀ x, foldedSetIterable e env x = pure x := by
  intro x
  cases e <;> first
    | rfl
    | cases h
theorem ok_comp {elt tg iter : Expr} {scope : Scope} {own : List (Str × Nat)} {pos : Pos} {mt : MT} {mi : MI} {me : ME} (hi : OkI C N raw sc tg iter mi) (ht : OkT C N scope (relS scope sc) tg mt) (he : OkE C N scope (relS scope sc) elt me)
    (ok : blkC N sc scope own = true) (hin : ∀ i ∈ tgs mt, i ∈ own.map (·.2)) (hns : notSet iter = true) : OkE C N raw sc (.ListComp elt [⟨tg, iter, [], 0⟩] scope pos) (.comp (own.map (·.2)) mt mi (.cst (.bool true)) me) := fun X a hs => by
  have h : PE X (.ListComp elt [⟨tg, iter, [], 0⟩] scope pos) (tM X.K C.T (.comp (own.map (·.2)) mt mi (.cst (.bool true)) me)) := PE.weak (pe_lc (X := X) (pos := pos) (own := own) (g := tG X.K C.T mt) (tt := tQ X.K C.T (.cst (.bool true))) (te := tD X.K C.T me) a.hc a.nd (hi X a hs) (blkOk_by (by rw [a.hN, hs]; exact ok))
    (fun s H Ca cl fp => ht _ (a.blk s H scope (compEnvC scope cl Ca X.env) fp) (by rw [← hs]; rfl)) (fun s H Ca cl fp => ⟨fun pins s σ H Q I q => pts_nil.run pins s σ H Q I (by
      obtain ⟨F, s, b, s', er, ev, q⟩ := q
      simp only [evalE, Option.some.injEq, Prod.mk.injEq, EV.sh.injEq, PyData.bool.injEq] at ev
      obtain ⟨rfl, rfl⟩ := ev
      exact q F H (.refl er))⟩)
    (fun s H Ca cl fp => PE.weak (he _ (a.blk s H scope (compEnvC scope cl Ca X.env) fp) (by rw [← hs]; rfl)).1 fun _ _ _ => tD_of) (iter_plain hns)) fun σ H Q h => tM_comp hin h
  exact ⟨h, pt_of h fun _ => rfl⟩
theorem ok_compIf {elt tg iter c : Expr} {scope : Scope} {own : List (Str × Nat)} {pos : Pos} {mt : MT} {mi : MI} {me mc : ME} (hi : OkI C N raw sc tg iter mi) (ht : OkT C N scope (relS scope sc) tg mt) (hc : OkE C N scope (relS scope sc) c mc) (he : OkE C N scope (relS scope sc) elt me)
    (ok : blkC N sc scope own = true) (hin : ∀ i ∈ tgs mt, i ∈ own.map (·.2)) (hns : notSet iter = true) : OkE C N raw sc (.ListComp elt [⟨tg, iter, [c], 0⟩] scope pos) (.comp (own.map (·.2)) mt mi mc me) := fun X a hs => by
  have h : PE X (.ListComp elt [⟨tg, iter, [c], 0⟩] scope pos) (tM X.K C.T (.comp (own.map (·.2)) mt mi mc me)) := PE.weak (pe_lc (X := X) (pos := pos) (own := own) (g := tG X.K C.T mt) (tt := tQ X.K C.T mc) (te := tD X.K C.T me) a.hc a.nd (hi X a hs) (blkOk_by (by rw [a.hN, hs]; exact ok))
    (fun s H Ca cl fp => ht _ (a.blk s H scope (compEnvC scope cl Ca X.env) fp) (by rw [← hs]; rfl)) (fun s H Ca cl fp => pts_one (hc _ (a.blk s H scope (compEnvC scope cl Ca X.env) fp) (by rw [← hs]; rfl)).2)
    (fun s H Ca cl fp => PE.weak (he _ (a.blk s H scope (compEnvC scope cl Ca X.env) fp) (by rw [← hs]; rfl)).1 fun _ _ _ => tD_of) (iter_plain hns)) fun σ H Q h => tM_comp hin h
  exact ⟨h, pt_of h fun _ => rfl⟩
end
end Tw

set_option linter.all false
set_option maxRecDepth 100000
set_option maxHeartbeats 8000000
set_option autoImplicit false
/-! x.index(..): the list taken, then the others. -/
namespace Tw
open PySem PySem.Spec PyProof.Rows L2
section
variable {K : PySem.W.Frag} {T : List Fn}
theorem ix_list {a : D} {ds : List D} {d : D} (h : Op.eval .index [.tuple (a :: ds)] = some d) : ∃ xs, a = .list xs := by
  cases a <;> first
    | exact ⟨_, rfl⟩
    | (simp [Op.eval] at h; done)
theorem tIx {a : ME} {as : MEs} {σ : Sl} {H : Hp} {Q : VK} (h : tM K T (.op .index (.cons (.tup (.cons a as)) .nil)) σ H Q) : tBM K "list" (rIx K) (tD K T a) (tT K T as) σ H Q := by
  obtain ⟨F, s, e, s', er, ev, q⟩ := h
  simp only [evalE, evalEs, evalTs] at ev
  cases ea : evalE T a s with
  | none => rw [ea] at ev; simp at ev
  | some p =>
    obtain ⟨e1, s1⟩ := p
    rw [ea] at ev
    simp only at ev
    cases et : e1.take s1 with
    | none => rw [et] at ev; simp at ev
    | some p =>
      obtain ⟨d, s2⟩ := p
      rw [et] at ev
      simp only at ev
      cases eb : evalTs T as s2 with
      | none => rw [eb] at ev; simp at ev
      | some p =>
        obtain ⟨ds, s3⟩ := p
        rw [eb] at ev
        simp only at ev
        by_cases hz : (d :: ds).length ≤ BIG
        · rw [if_pos hz] at ev
          simp only [lookAll, EV.look] at ev
          cases eo : Op.eval .index [.tuple (d :: ds)] with
          | none => rw [eo] at ev; simp at ev
          | some r =>
            rw [eo] at ev
            simp only [Option.some.injEq, Prod.mk.injEq] at ev
            obtain ⟨rfl, rfl⟩ := ev
            obtain ⟨xs, rfl⟩ := ix_list eo
            refine ⟨F, s, e1, s1, _, s2, er, ea, et, fun x F1 H1 x1 r1 => ?_⟩
            obtain ⟨p, vs, rfl, hx, _⟩ := PR.lst x1.er.fh (show PR K F1 H1 x _ from Or.inl r1)
            refine ⟨.inl ⟨rfl, vs, hx⟩, F1, s2, ds, s3, x1.er, eb, fun us F2 H2 x2 r2 => ?_⟩
            refine ⟨F2, _, r, x2.er.fh, .cons (r1.up x2.st.ff) r2, eo, fun v F3 H3 g r3 => ?_⟩
            refine q v F3 H3 ((x1.trans x2).trans (.gro g x2.er)) ?_
            exact EvR.base (by unfold Op.res at r3; split at r3 <;> rename_i z <;> simp only [z, if_true, if_false, Bool.false_eq_true] <;> exact r3) fun b hb => x1.st.dom b (x2.st.dom b hb)
        · rw [if_neg hz] at ev
          simp at ev
theorem ct_list {a : D} {ds : List D} {d : D} (h : Op.eval .count [.tuple (a :: ds)] = some d) : ∃ xs, a = .list xs := by
  cases a <;> first
    | exact ⟨_, rfl⟩
    | (simp [Op.eval] at h; done)
theorem tCt {a : ME} {as : MEs} {σ : Sl} {H : Hp} {Q : VK} (h : tM K T (.op .count (.cons (.tup (.cons a as)) .nil)) σ H Q) : tBM K "list" (rCt K) (tD K T a) (tT K T as) σ H Q := by
  obtain ⟨F, s, e, s', er, ev, q⟩ := h
  simp only [evalE, evalEs, evalTs] at ev
  cases ea : evalE T a s with
  | none => rw [ea] at ev; simp at ev
  | some p =>
    obtain ⟨e1, s1⟩ := p
    rw [ea] at ev
    simp only at ev
    cases et : e1.take s1 with
    | none => rw [et] at ev; simp at ev
    | some p =>
      obtain ⟨d, s2⟩ := p
      rw [et] at ev
      simp only at ev
      cases eb : evalTs T as s2 with
      | none => rw [eb] at ev; simp at ev
      | some p =>
        obtain ⟨ds, s3⟩ := p
        rw [eb] at ev
        simp only at ev
        by_cases hz : (d :: ds).length ≤ BIG
        · rw [if_pos hz] at ev
          simp only [lookAll, EV.look] at ev
          cases eo : Op.eval .count [.tuple (d :: ds)] with
          | none => rw [eo] at ev; simp at ev
          | some r =>
            rw [eo] at ev
            simp only [Option.some.injEq, Prod.mk.injEq] at ev
            obtain ⟨rfl, rfl⟩ := ev
            obtain ⟨xs, rfl⟩ := ct_list eo
            refine ⟨F, s, e1, s1, _, s2, er, ea, et, fun x F1 H1 x1 r1 => ?_⟩
            obtain ⟨p, vs, rfl, hx, _⟩ := PR.lst x1.er.fh (show PR K F1 H1 x _ from Or.inl r1)
            refine ⟨.inl ⟨rfl, vs, hx⟩, F1, s2, ds, s3, x1.er, eb, fun us F2 H2 x2 r2 => ?_⟩
            refine ⟨F2, _, r, x2.er.fh, .cons (r1.up x2.st.ff) r2, eo, fun v F3 H3 g r3 => ?_⟩
            refine q v F3 H3 ((x1.trans x2).trans (.gro g x2.er)) ?_
            exact EvR.base (by unfold Op.res at r3; split at r3 <;> rename_i z <;> simp only [z, if_true, if_false, Bool.false_eq_true] <;> exact r3) fun b hb => x1.st.dom b (x2.st.dom b hb)
        · rw [if_neg hz] at ev
          simp at ev
end
/-- a receiver that is read plainly -/
def recvB : Expr → Bool
  | .Name _ _ => true
  | .List _ _ => true
  | .Subscript _ _ _ => true
  | .BinOp _ _ _ _ => true
  | _ => false
theorem base_recv {e : Expr} {y : Str} {env : Env} (h : recvB e = true) : attributeBase e y env (eval e env) = eval e env := by
  cases e <;> first
    | rfl
    | cases h
section
variable {C : Defs} {N : List Str} {raw sc : Scope}
theorem ok_index1 {x : Expr} {p2 p3 : Pos} {e : Expr} {m : ME} {ms : MEs} (hr : recvB x = true) (hx : OkE C N raw sc x m) (hs1 : notStar e = true) (hl : (p2.endLine == p3.line) = true) (ha : OkEs C N raw sc [e] ms) : OkE C N raw sc (.Call (.Attribute x "index" p2) [e] [] p3) (.op .index (.cons (.tup (.cons m ms)) .nil)) := fun X xa hs => by
  have h : PE X (.Call (.Attribute x "index" p2) [e] [] p3) (tM X.K C.T (.op .index (.cons (.tup (.cons m ms)) .nil))) := by
    refine PE.weak (pe_bm F.plainAttrs_list F.slot_list_index F.type_list_index (o_index xa.hu) (PE.weak (hx X xa hs).1 fun _ _ _ => tD_of) (ha X xa hs).2 (base_recv hr) ?_ hl (star_cons hs1) rfl) fun _ _ _ => tIx
    rw [star_cons hs1]
    rfl
  exact ⟨h, pt_of h fun _ => rfl⟩
theorem ok_index2 {x : Expr} {p2 p3 : Pos} {e e2 : Expr} {m : ME} {ms : MEs} (hr : recvB x = true) (hx : OkE C N raw sc x m) (hs1 : notStar e = true) (hs2 : notStar e2 = true) (hl : (p2.endLine == p3.line) = true) (ha : OkEs C N raw sc [e, e2] ms) : OkE C N raw sc (.Call (.Attribute x "index" p2) [e, e2] [] p3) (.op .index (.cons (.tup (.cons m ms)) .nil)) := fun X xa hs => by
  have h : PE X (.Call (.Attribute x "index" p2) [e, e2] [] p3) (tM X.K C.T (.op .index (.cons (.tup (.cons m ms)) .nil))) := by
    refine PE.weak (pe_bm F.plainAttrs_list F.slot_list_index F.type_list_index (o_index xa.hu) (PE.weak (hx X xa hs).1 fun _ _ _ => tD_of) (ha X xa hs).2 (base_recv hr) ?_ hl (star_cons hs1) (star_none (by simp [hs2]))) fun _ _ _ => tIx
    rw [star_cons hs1, star_cons hs2]
    rfl
  exact ⟨h, pt_of h fun _ => rfl⟩
theorem ok_count1 {x : Expr} {p2 p3 : Pos} {e : Expr} {m : ME} {ms : MEs} (hr : recvB x = true) (hx : OkE C N raw sc x m) (hs1 : notStar e = true) (hl : (p2.endLine == p3.line) = true) (ha : OkEs C N raw sc [e] ms) : OkE C N raw sc (.Call (.Attribute x "count" p2) [e] [] p3) (.op .count (.cons (.tup (.cons m ms)) .nil)) := fun X xa hs => by
  have h : PE X (.Call (.Attribute x "count" p2) [e] [] p3) (tM X.K C.T (.op .count (.cons (.tup (.cons m ms)) .nil))) := by
    refine PE.weak (pe_bm F.plainAttrs_list F.slot_list_count F.type_list_count (o_count xa.hu) (PE.weak (hx X xa hs).1 fun _ _ _ => tD_of) (ha X xa hs).2 (base_recv hr) ?_ hl (star_cons hs1) rfl) fun _ _ _ => tCt
    rw [star_cons hs1]
    rfl
  exact ⟨h, pt_of h fun _ => rfl⟩
end
end Tw

set_option linter.all false
set_option maxRecDepth 100000
set_option maxHeartbeats 8000000
set_option autoImplicit false
/-! " ".join(texts): the sign taken, then the list. -/
namespace Tw
open PySem PySem.Spec PyProof.Rows L2
section
variable {X : Cx}
def rJn (K : PySem.W.Frag) : V → List V → Hp → VK → Prop := fun x xs H Q => ∃ (F : Hp) (ds : List D) (d : D), Same F H ∧ RlAll K F (x :: xs) ds ∧ Op.eval .join [.tuple ds] = some d ∧
  ∀ (v : V) (F' H' : Hp), Gro F H F' H' → EvR K F' H' H [] v (Op.join.res d) → Q v H'
theorem strs_rl {K : PySem.W.Frag} {F : Hp} : ∀ {xs : List V} {ds : List D} {ss : List Str}, RlAll K F xs ds → asStrs ds = some ss → xs = ss.map V.str
  | _, [], _, .nil, h => by
    cases h
    rfl
  | _, d :: ds, ss, .cons hv t, h => by
    cases d <;> try (simp [asStrs] at h; done)
    rename_i x
    simp only [asStrs] at h
    split at h
    · rename_i q hq
      cases h
      cases hv
      rw [List.map_cons, strs_rl t hq]
    · cases h
theorem strs_are : ∀ {ss : List Str} {its : List Value}, Vals (ss.map V.str) its → StrsAre its ss
  | [], _, r => by
    rw [List.map_nil] at r
    cases r
    exact .nil
  | x :: r, _, h => by
    rw [List.map_cons] at h
    cases h with
    | cons hv t =>
      obtain ⟨tk, rfl⟩ := hv
      exact .cons x tk (strs_are t)
theorem o_join (hc : X.calm = true) : MtR X "str.join" (rJn X.K) := by
  intro pins s σ H x xs v us Q I rx rxs h
  obtain ⟨F, ds, d, S, p, e, q⟩ := h
  cases p with
  | @cons _ _ a ds pa t =>
    cases t with
    | nil => cases a <;> simp [Op.eval] at e
    | @cons _ _ b ds pb t =>
      cases t with
      | cons => cases a <;> first | (simp [Op.eval] at e; done) | (cases b <;> simp [Op.eval] at e)
      | nil =>
        cases a <;> try (simp [Op.eval] at e; done)
        cases b <;> try (simp [Op.eval] at e; done)
        rename_i a ys
        simp only [Op.eval] at e
        split at e
        · rename_i ss z
          split at e
          · rename_i hz
            cases e
            obtain ⟨p, xs, rfl, hx, rx'⟩ := PR.lst S (show PR X.K F H _ _ from .inl pb)
            have hxs := strs_rl rx' z
            subst hxs
            cases pa
            obtain ⟨tk, rfl⟩ := rx
            cases rxs with
            | cons r rr =>
              cases rr
              cases r
              obtain ⟨its, rv, pl, hsz⟩ := I.list hx
              refine PyProof.Rows.join_list pl.isList (by simpa using strs_are rv) (Nat.le_trans hz (by decide)) fun t' k => ?_
              have ej : Txt.join a ss = Str.join a ss := TL.join_eq a ss
              rw [ej]
              exact ⟨.str (Str.join a ss), H, I.tok _, ⟨_, rfl⟩, kval S q rfl (.str _)⟩
          · cases e
        · cases e
end
section
variable {K : PySem.W.Frag} {T : List Fn}
theorem jn_str {a : D} {ds : List D} {d : D} (h : Op.eval .join [.tuple (a :: ds)] = some d) : ∃ x, a = .str x := by
  cases a <;> first
    | exact ⟨_, rfl⟩
    | (simp [Op.eval] at h; done)
theorem tJn {a : ME} {as : MEs} {σ : Sl} {H : Hp} {Q : VK} (h : tM K T (.op .join (.cons (.tup (.cons a as)) .nil)) σ H Q) : tBM K "str" (rJn K) (tD K T a) (tT K T as) σ H Q := by
  obtain ⟨F, s, e, s', er, ev, q⟩ := h
  simp only [evalE, evalEs, evalTs] at ev
  cases ea : evalE T a s with
  | none => rw [ea] at ev; simp at ev
  | some p =>
    obtain ⟨e1, s1⟩ := p
    rw [ea] at ev
    simp only at ev
    cases et : e1.take s1 with
    | none => rw [et] at ev; simp at ev
    | some p =>
      obtain ⟨d, s2⟩ := p
      rw [et] at ev
      simp only at ev
      cases eb : evalTs T as s2 with
      | none => rw [eb] at ev; simp at ev
      | some p =>
        obtain ⟨ds, s3⟩ := p
        rw [eb] at ev
        simp only at ev
        by_cases hz : (d :: ds).length ≤ BIG
        · rw [if_pos hz] at ev
          simp only [lookAll, EV.look] at ev
          cases eo : Op.eval .join [.tuple (d :: ds)] with
          | none => rw [eo] at ev; simp at ev
          | some r =>
            rw [eo] at ev
            simp only [Option.some.injEq, Prod.mk.injEq] at ev
            obtain ⟨rfl, rfl⟩ := ev
            obtain ⟨xs, rfl⟩ := jn_str eo
            refine ⟨F, s, e1, s1, _, s2, er, ea, et, fun x F1 H1 x1 r1 => ?_⟩
            refine ⟨by cases r1; rfl, F1, s2, ds, s3, x1.er, eb, fun us F2 H2 x2 r2 => ?_⟩
            refine ⟨F2, _, r, x2.er.fh, .cons (r1.up x2.st.ff) r2, eo, fun v F3 H3 g r3 => ?_⟩
            refine q v F3 H3 ((x1.trans x2).trans (.gro g x2.er)) ?_
            exact EvR.base (by unfold Op.res at r3; split at r3 <;> rename_i z <;> simp only [z, if_true, if_false, Bool.false_eq_true] <;> exact r3) fun b hb => x1.st.dom b (x2.st.dom b hb)
        · rw [if_neg hz] at ev
          simp at ev
end
section
variable {C : Defs} {N : List Str} {raw sc : Scope}
theorem ok_join {k : Const} {n : Nat} {p1 p2 p3 : Pos} {e : Expr} {m : ME} {ms : MEs} (hx : OkE C N raw sc (.Constant k n p1) m) (hs1 : notStar e = true) (hl : (p2.endLine == p3.line) = true) (ha : OkEs C N raw sc [e] ms) : OkE C N raw sc (.Call (.Attribute (.Constant k n p1) "join" p2) [e] [] p3) (.op .join (.cons (.tup (.cons m ms)) .nil)) := fun X xa hs => by
  have h : PE X (.Call (.Attribute (.Constant k n p1) "join" p2) [e] [] p3) (tM X.K C.T (.op .join (.cons (.tup (.cons m ms)) .nil))) := by
    refine PE.weak (pe_bm F.plainAttrs_str F.slot_str_join F.type_str_join (o_join xa.hc) (PE.weak (hx X xa hs).1 fun _ _ _ => tD_of) (ha X xa hs).2 rfl ?_ hl (star_cons hs1) rfl) fun _ _ _ => tJn
    rw [star_cons hs1]
    rfl
  exact ⟨h, pt_of h fun _ => rfl⟩
end
end Tw

set_option linter.all false
set_option maxRecDepth 100000
set_option maxHeartbeats 8000000
set_option autoImplicit false
/-! sorted(set(x)) of a list of ints. -/
namespace Tw
open PySem PySem.Spec PyProof.Rows L2
theorem call_set_listI {P : Program} {w : World} {A : Around} {E : Value → Shared → Prop} {s : Shared} {l : Addr} {items : Array Value} (ns : List Int) {Q : Value → Shared → Prop}
    (hh : A.handled = none) (hl : s.heap.IsList l items) (hit : IntsAre items.toList ns) (hb : ns.length + 1 < scanBound)
    (h : ∀ (h' : Heap) (tk c : Nat), SetR w h' s.heap.objs.size (fun j => decide (j ∈ ns)) c → c ≤ ns.length → (∀ (b : Addr) (o : Obj), s.heap.get? b = some o → h'.get? b = some o) → Q (.ref s.heap.objs.size) { heap := h', gens := s.gens, drawn := s.drawn, toks := tk, os := s.os }) :
    wpAny (model P w) A (call (.type "set") [.ref l]) Q E s := by
  have hisz : items.size = ns.length := by
    have q := hit.length
    rwa [Array.length_toList] at q
  obtain ⟨c, tl, hmro⟩ := F.called_set.mro
  have hmade := F.called_set.made
  have hsub := F.called_set.sub
  refine wpAny_call (codeAny_of_tree ?_)
  refine wpAny_pure ⟨Code.quiet_builtin _ (by decide +kernel), codeAny_builtin F.entry_type_call ?_⟩
  rw [Around.under_plain (weight_type_call_type "set" [Value.ref l] []) rfl]
  have h1 := F.called_set.notType
  have h2 := F.called_set.canCreate
  have hct := F.typeCall_set_1 (Value.ref l)
  show wpAny _ _ (Builtin.«type.__call__» _) _ _ _
  unfold Builtin.«type.__call__»
  refine wpAny_ite_false rfl ?_
  refine wpAny_ite_false rfl ?_
  refine wpAny_bind ?_
  refine wpAny_of_eq hct ?_
  refine wpAny_bind ?_
  refine wpAny_of_eq hmro ?_
  refine wpAny_ite_false rfl ?_
  refine wpAny_bind ?_
  refine wpAny_of_eq hmade ?_
  refine wpAny_bind ?_
  refine wpAny_pure ?_
  refine wpAny_bind ?_
  refine wpAny_holding ?_
  refine wpAny_call ?_
  refine codeAny_mono (code_set_led1 (E := E) (Value.ref l) (Q₁ := fun obj s₁ => obj = .ref s.heap.objs.size ∧ s₁ = { heap := s.heap.push { cls := .type "set", data := .set #[] 0 (SetTable.fresh 0 0 !w.params.followText "set-order") }, gens := s.gens, drawn := s.drawn, toks := s.toks, os := s.os }) ⟨rfl, rfl⟩) fun r s₁ hr => ?_
  cases r with
  | error e => exact hr
  | ok fl =>
  cases fl with
  | next => exact hr.elim
  | brk => exact hr.elim
  | cont => exact hr.elim
  | ret obj =>
  obtain ⟨rfl, rfl⟩ := hr
  have hS := Heap.get?_push_size s.heap (o := { cls := .type "set", data := .set #[] 0 (SetTable.fresh 0 0 !w.params.followText "set-order") }) rfl
  have hT : ({ heap := s.heap.push { cls := .type "set", data := .set #[] 0 (SetTable.fresh 0 0 !w.params.followText "set-order") }, gens := s.gens, drawn := s.drawn, toks := s.toks, os := s.os } : Shared).TypeIs (.ref s.heap.objs.size) "set" := ⟨_, hS, rfl⟩
  have hli := F.called_set.init.lookup
  have hbi := F.called_set.init.bind (Value.ref s.heap.objs.size)
  refine wpAny_bind ?_
  refine wpAny_isInstance hT hsub ?_
  refine wpAny_ite_false rfl ?_
  refine wpAny_bind ?_
  refine wpAny_holding ?_
  refine wpAny_bind ?_
  refine wpAny_specialOf hT hli ?_
  refine wpAny_holding ?_
  refine wpAny_bind ?_
  refine wpAny_of_eq hbi ?_
  refine wpAny_bind ?_
  refine wpAny_call ?_
  have core : codeAny (model P w) A.in1 (Code.call (.builtin "set.__init__") { pos := [Value.ref s.heap.objs.size] ++ ({ pos := [Value.ref l] } : Args).pos }) (wants (fun r s₂ => r = Value.none ∧ ∃ (h' : Heap) (tk c : Nat), s₂ = { heap := h', gens := s.gens, drawn := s.drawn, toks := tk, os := s.os } ∧ SetR w h' s.heap.objs.size (fun j => decide (j ∈ ns)) c ∧ c ≤ ns.length ∧ ∀ (b : Addr) (o : Obj), s.heap.get? b = some o → h'.get? b = some o) E) { heap := s.heap.push { cls := .type "set", data := .set #[] 0 (SetTable.fresh 0 0 !w.params.followText "set-order") }, gens := s.gens, drawn := s.drawn, toks := s.toks, os := s.os } := by
    refine codeAny_call_builtin F.called_set.init.plain F.entry_set_init (check_set_init_1 hT ?_)
    obtain ⟨⟨ocls, odict, odata, oslots⟩, hol, hcl, nl, hdl⟩ := hl
    obtain rfl : ocls = .type "list" := hcl
    obtain rfl : odata = .seq items nl := hdl
    have hol' := Heap.get?_push_of_some { cls := .type "set", data := .set #[] 0 (SetTable.fresh 0 0 !w.params.followText "set-order") } hol
    have hsls := F.sub_list_set
    have hslf := F.sub_list_frozenset
    have hl1 : (s.heap.push { cls := .type "set", data := .set #[] 0 (SetTable.fresh 0 0 !w.params.followText "set-order") }).IsList l items := ⟨_, hol', rfl, nl, rfl⟩
    unfold Builtin.«set.__init__»
    refine wpAny_bind (wpAny_ite_true rfl (wpAny_pure ?_))
    show wpAny _ _ (_ >>= _) _ _ _
    refine wpAny_bind ?_
    show wpAny _ _ (_ >>= _) _ _ _
    refine wpAny_bind ?_
    refine wpAny_bind ?_
    refine wpAny_typeOf hT ?_
    refine wpAny_ite_false rfl ?_
    refine wpAny_pure ?_
    refine wpAny_pure ?_
    refine wpAny_bind ?_
    unfold checkCount
    refine wpAny_ite_false (by rfl) ?_
    refine wpAny_ite_false (by rfl) ?_
    refine wpAny_ite_false (by rfl) ?_
    refine wpAny_pure ?_
    refine wpAny_bind ?_
    refine wpAny_pure ?_
    refine wpAny_bind ?_
    unfold setUsed
    refine wpAny_bind ?_

    refine wpAny_bind ?_
    refine wpAny_load' hS ?_
    refine wpAny_ite_false (by rfl) ?_
    refine wpAny_pure ?_
    refine wpAny_pure ?_
    refine wpAny_ite_false (by rfl) ?_
    show wpAny _ _ (_ >>= _) _ _ _
    refine wpAny_bind ?_
    unfold Builtin.Frozenset.updateFrom
    refine wpAny_bind ?_
    refine wpAny_bind ?_
    refine wpAny_bind ?_
    refine wpAny_bind ?_
    refine wpAny_loadPart' hol' ?_
    refine wpAny_pure ?_
    refine wpAny_of_eq hsls ?_
    show wpAny _ _ (isInstance (.ref l) (.type "frozenset")) _ _ _
    unfold isInstance
    refine wpAny_bind ?_
    refine wpAny_bind ?_
    refine wpAny_loadPart' hol' ?_
    refine wpAny_pure ?_
    refine wpAny_of_eq hslf ?_
    refine wpAny_ite_false (by rfl) ?_
    refine wpAny_bind ?_
    refine wpAny_bind ?_
    refine wpAny_loadPart' hol' ?_
    refine wpAny_pure ?_
    refine wpAny_ite_false (by rfl) ?_
    refine wpAny_bind ?_
    refine wpAny_pyIter_list hl1 ?_
    refine wpAny_bind ?_
    refine wpAny_runValue ?_
    have hlS := Heap.lt_size hol
    have hh3 : A.in1.in1.in1.handled = none := hh
    have hz1 := Heap.size_push s.heap { cls := .type "set", data := .set #[] 0 (SetTable.fresh 0 0 !w.params.followText "set-order") }
    have hneI : l ≠ (s.heap.push { cls := .type "set", data := .set #[] 0 (SetTable.fresh 0 0 !w.params.followText "set-order") }).objs.size := by rw [hz1]; exact Nat.ne_of_lt (Nat.lt_succ_of_lt hlS)
    have hSf : ¬ s.heap.objs.size ∈ [(s.heap.push { cls := .type "set", data := .set #[] 0 (SetTable.fresh 0 0 !w.params.followText "set-order") }).objs.size, l] := by
      rw [hz1]
      simp only [List.mem_cons, List.not_mem_nil, or_false]
      rintro (h | h)
      · exact absurd h (Nat.ne_of_lt (Nat.lt_succ_self _))
      · exact absurd h (Nat.ne_of_gt hlS)
    have hval : ∀ (i : Nat) (v : Value), items[i]? = some v → ∃ k t, ns[i]? = some k ∧ v = Value.int k t := by
      intro i v hv
      have hi : i < ns.length := by rw [← hisz]; exact (Array.getElem?_eq_some_iff.mp hv).1
      obtain ⟨t, e⟩ := IntsAre.int_at hit i v (by rw [Array.getElem?_toList]; exact hv)
      refine ⟨ns[i], t, List.getElem?_eq_getElem hi, ?_⟩
      rw [e]
      congr 1
      rw [List.getD_eq_getElem?_getD, List.getElem?_eq_getElem hi]
      rfl
    refine set_update_ints (Walks.toS (Walks.list hh3 (s.heap.push { cls := .type "set", data := .set #[] 0 (SetTable.fresh 0 0 !w.params.followText "set-order") }).objs.size l hneI items)) s.heap.objs.size hSf ns hisz hb hval (items.size - 0) 0 _ (by omega) (Nat.zero_le _) ⟨⟨_, Heap.get?_push_size _ rfl, rfl, rfl⟩, ?_⟩ ⟨0, Nat.le_refl 0, setR_new_at (Heap.get?_push_of_some _ hS)⟩ fun s' c' hm hc' hS' => ?_
    · exact Heap.IsList.push hl1 _
    obtain ⟨h2, g2, d2, tk2, os2⟩ := s'
    obtain rfl : g2 = s.gens := hm.gens
    obtain rfl : d2 = s.drawn := hm.drawn
    obtain rfl : os2 = s.os := hm.os
    refine wpAny_pure (wpAny_pure ⟨rfl, h2, tk2, c', rfl, hS', by omega, fun b o e => ?_⟩)
    refine hm.heap b o (fun hb' => ?_) (Heap.get?_push_of_some _ (Heap.get?_push_of_some _ e))
    have h9 := Heap.lt_size e
    rw [hz1] at hb'
    simp only [List.mem_cons, List.not_mem_nil, or_false] at hb'
    rcases hb' with h8 | h8
    · exact absurd h8 (Nat.ne_of_lt h9)
    · exact absurd h8 (Nat.ne_of_lt (Nat.lt_succ_of_lt h9))
  refine codeAny_mono core fun r s₂ hr => ?_
  cases r with
  | error e => exact hr
  | ok fl =>
  cases fl with
  | next => exact hr.elim
  | brk => exact hr.elim
  | cont => exact hr.elim
  | ret obj =>
  obtain ⟨rfl, h', tk, c, rfl, hSet, hc, hk⟩ := hr
  refine wpAny_pure ?_
  refine wpAny_ite_false (by rfl) ?_
  refine wpAny_pure ?_
  exact h h' tk c hSet hc hk
/-- set(x), x a list of ints -/
def rSetL (K : PySem.W.Frag) (w : World) : List V → Hp → VK → Prop := fun vs H Q => ∃ (a : Addr) (ns : List Int), vs = [V.ref a] ∧ SqL K H a (ns.map V.int) ∧ ns.length + 1 < scanBound ∧
  ∀ (p : Addr) (c : Nat), c = (Tw.sset ns).length → H p = none → Q (.ref p) (upd H p (SetO w p (fun j => decide (j ∈ ns)) c))
theorem rl_intsS {K : PySem.W.Frag} {F : Hp} : ∀ ns : List Int, RlAll K F (ns.map V.int) (ns.map PyData.int)
  | [] => .nil
  | n :: r => .cons (.int n) (rl_intsS r)
theorem setR_len {w : World} {h : Heap} {a : Addr} {ns : List Int} {c : Nat} (R : SetR w h a (fun j => decide (j ∈ ns)) c) : c = (Tw.sset ns).length := by
  obtain ⟨o, es, ep, t, h1, h2, h3, h4, h5, h6, h7, h8, h9, h10⟩ := R
  have hn : (Tw.sset ns).Nodup := (sset_lt ns).imp fun hab e => by omega
  have hp := (List.perm_ext_iff_of_nodup h5 hn).mpr fun k => by
    rw [← h6 k, sset_mem]
    simp
  have := hp.length_eq
  rw [List.length_map, Array.length_toList] at this
  omega
section
variable {X : Cx}
theorem cr_setL (hc : X.calm = true) : CallR X (.type "set") (rSetL X.K X.w) := by
  intro pins s σ H xs us Q I r h
  obtain ⟨a, ns, rfl, hS, hb, q⟩ := h
  rw [Vals.ref1 r]
  obtain ⟨its, rv, pl, _⟩ := I.list hS
  obtain ⟨⟨cls, dd, data, sl⟩, n, ho, hc', hd1, hd⟩ := pl
  simp only at hc' hd1 hd
  subst hc' hd1 hd
  refine call_set_listI ns (I.ok.hd hc) ⟨_, ho, rfl, n, rfl⟩ (L2.ints_of_vals rv) hb fun h' tk c hR hc2 hk => ?_
  exact ⟨V.ref s.heap.objs.size, _, I.laid (fun b u e => hk b u e) (Nat.le_refl _) (setO_new hR), rfl, q _ c (setR_len hR) (I.hok.fresh (Nat.le_refl _))⟩
theorem sset_meets {K : PySem.W.Frag} {w : World} {vs : List V} {H : Hp} {Q : VK} (h : rDn K .sset vs H Q) : rSetL K w vs H fun y H1 => rSortedSet w [y] H1 Q := by
  obtain ⟨F, ds, d, S, p, e, q⟩ := h
  cases p with
  | nil => simp [Op.eval] at e
  | @cons _ _ a ds pa t =>
    cases t with
    | cons => cases a <;> simp [Op.eval] at e
    | nil =>
    cases a <;> try (simp [Op.eval] at e; done)
    case list ds =>
      simp only [Op.eval] at e
      split at e
      · rename_i is z
        split at e
        · rename_i hl
          cases e
          obtain ⟨p, xs, rfl, hx, rx'⟩ := pa.lst S
          rw [rx'.ints z] at hx
          refine ⟨p, is, rfl, hx, ?_, fun p2 c hc2 hp2 => ⟨p2, _, c, rfl, upd_same, by rw [hc2]; exact hl.2, fun ns p3 h1 h2 h3 hp3 => ?_⟩⟩
          · have : (4001 : Nat) < scanBound := by decide
            omega
          · have hne : p3 ≠ p2 := fun e => by rw [e, upd_same] at hp3; cases hp3
            have hH3 : H p3 = none := by rw [upd_ne hne] at hp3; exact hp3
            have e1 : ns = Tw.sset is := lt_one h1 (sset_lt is) fun k => by rw [h2 k, sset_mem]; simp
            have g1 := Gro.sh (o := SetO w p2 (fun j => decide (j ∈ is)) c) S hp2
            obtain ⟨g2, fp⟩ := Gro.own (o := .lst ((Tw.sset is).map V.int)) g1.fh hp3
            rw [e1]
            refine q _ _ _ (g1.trans g2) ?_
            refine ⟨.lst upd_same fp (rl_intsS _), fun a e => by cases e; exact hH3⟩
        · cases e
      · cases e
end
section
variable {C : Defs} {N : List Str} {raw sc : Scope}
theorem ok_sset {e : Expr} {ms : MEs} {p1 p2 p3 p4 : Pos} (hg1 : glB sc "sorted" = true) (hg2 : glB sc "set" = true) (hs1 : notStar e = true) (ha : OkEs C N raw sc [e] ms) :
    OkE C N raw sc (.Call (.Name "sorted" p1) [.Call (.Name "set" p2) [e] [] p3] [] p4) (.op .sset ms) := fun X xa hs => by
  have bi := xa.bi
  have hin : PE X (.Call (.Name "set" p2) [e] [] p3) (tCB (rSetL X.K X.w) (tE X.K C.T ms)) :=
    pe_callTy (cr_setL xa.hc) (gl_of hs hg2) (bi _ (by decide +kernel)) (by decide +kernel) (ha X xa hs).1 (by decide +kernel) (by decide +kernel) (star_cons hs1) rfl
  have h : PE X (.Call (.Name "sorted" p1) [.Call (.Name "set" p2) [e] [] p3] [] p4) (tM X.K C.T (.op .sset ms)) := by
    refine PE.weak (pe_callB (cr_sortedSet xa.hc) (gl_of hs hg1) (bi _ (by decide +kernel)) (by decide +kernel) (pa_cons hin pa_nil (star_cons rfl)) (by decide +kernel) (by decide +kernel) (star_cons rfl) rfl) fun σ H Q h => ?_
    obtain ⟨F, s, es, s1, er, ea, k⟩ := many h
    exact ⟨F, s, es, s1, er, ea, fun vs F1 H1 x1 r1 z => sset_meets (k vs F1 H1 x1 r1 z)⟩
  exact ⟨h, pt_of h fun _ => rfl⟩
theorem ok_denum {e : Expr} {ms : MEs} {p1 p2 p3 p4 : Pos} (hg1 : glB sc "dict" = true) (hg2 : glB sc "enumerate" = true) (hs1 : notStar e = true) (ha : OkEs C N raw sc [e] ms) :
    OkE C N raw sc (.Call (.Name "dict" p1) [.Call (.Name "enumerate" p2) [e] [] p3] [] p4) (.op .denum ms) := fun X xa hs => by
  have bi := xa.bi
  have h : PE X (.Call (.Name "dict" p1) [.Call (.Name "enumerate" p2) [e] [] p3] [] p4) (tM X.K C.T (.op .denum ms)) :=
    PE.weak (pe_denum xa.hc (gl_of hs hg1) (bi _ (by decide +kernel)) (gl_of hs hg2) (bi _ (by decide +kernel)) (ha X xa hs).1 (star_cons hs1)) fun _ _ _ => many
  exact ⟨h, pt_of h fun _ => rfl⟩
end
end Tw

set_option linter.all false
set_option maxRecDepth 100000
set_option maxHeartbeats 8000000
set_option autoImplicit false
/-! list(range(..)), tuple(range(..)), xs[::-1]. -/
namespace Tw
open PySem PySem.Spec PyProof.Rows L2
section
variable {C : Defs} {N : List Str} {raw sc : Scope} {K : PySem.W.Frag} {T : List Fn}
theorem tM_mono {m : ME} {σ : Sl} {H : Hp} {Q Q' : VK} (h : tM K T m σ H Q) (i : ∀ v H', Q v H' → Q' v H') : tM K T m σ H Q' := by
  obtain ⟨F, s, e, s', er, ev, q⟩ := h
  exact ⟨F, s, e, s', er, ev, fun v F' H' x r => i v H' (q v F' H' x r)⟩
theorem rl_rg {F : Hp} (a b : Int) : RlAll K F (rgV a b) (rgD a b) := by
  unfold rgV rgD
  induction List.range (b - a).toNat with
  | nil => exact .nil
  | cons i r ih => exact .cons (.int _) ih
theorem rgOk_of {a b : Int} (h : rgOk a b = true) : RgOk a b := by
  simp only [rgOk, BIG, Bool.and_eq_true, decide_eq_true_eq] at h
  obtain ⟨⟨⟨⟨h1, h2⟩, h3⟩, h4⟩, h5⟩ := h
  exact ⟨by omega, by omega, by omega, by omega, Nat.le_trans (of_decide_eq_true h5 : (b - a).toNat ≤ 1000000) (by decide)⟩
theorem rd_lrange1 {x : V} {H : Hp} {Q : VK} (h : rD1 K .lrange x H Q) : ∃ n, x = .int n ∧ RgOk 0 n ∧ ∀ q, H q = none → Q (.ref q) (upd H q (.lst (rgV 0 n))) := by
  obtain ⟨F, a, d, S, pa, e, q⟩ := h.one
  cases a <;> try (simp [Op.eval] at e; done)
  case int n =>
    simp only [Op.eval] at e
    split at e
    · rename_i z
      cases e
      cases pa.int
      exact ⟨n, rfl, rgOk_of z, kown S q rfl (rl_rg 0 n)⟩
    · cases e
theorem rd_trange1 {x : V} {H : Hp} {Q : VK} (h : rD1 K .trange x H Q) : ∃ n, x = .int n ∧ RgOk 0 n ∧ ∀ q, H q = none → Q (.ref q) (upd H q (.tup (rgV 0 n))) := by
  obtain ⟨F, a, d, S, pa, e, q⟩ := h.one
  cases a <;> try (simp [Op.eval] at e; done)
  case int n =>
    simp only [Op.eval] at e
    split at e
    · rename_i z
      cases e
      cases pa.int
      exact ⟨n, rfl, rgOk_of z, ktup S q rfl (rl_rg 0 n)⟩
    · cases e
theorem rd_lrange2 {x y : V} {H : Hp} {Q : VK} (h : rD2 K .lrange x y H Q) : ∃ i j, x = .int i ∧ y = .int j ∧ RgOk i j ∧ ∀ q, H q = none → Q (.ref q) (upd H q (.lst (rgV i j))) := by
  obtain ⟨F, a, b, d, S, pa, pb, e, q⟩ := h.two
  cases a <;> cases b <;> try (simp [Op.eval] at e; done)
  case int.int i j =>
    simp only [Op.eval] at e
    split at e
    · rename_i z
      cases e
      cases pa.int
      cases pb.int
      exact ⟨i, j, rfl, rfl, rgOk_of z, kown S q rfl (rl_rg i j)⟩
    · cases e
theorem rd_trange2 {x y : V} {H : Hp} {Q : VK} (h : rD2 K .trange x y H Q) : ∃ i j, x = .int i ∧ y = .int j ∧ RgOk i j ∧ ∀ q, H q = none → Q (.ref q) (upd H q (.tup (rgV i j))) := by
  obtain ⟨F, a, b, d, S, pa, pb, e, q⟩ := h.two
  cases a <;> cases b <;> try (simp [Op.eval] at e; done)
  case int.int i j =>
    simp only [Op.eval] at e
    split at e
    · rename_i z
      cases e
      cases pa.int
      cases pb.int
      exact ⟨i, j, rfl, rfl, rgOk_of z, ktup S q rfl (rl_rg i j)⟩
    · cases e
theorem ok_lrg1 {e : Expr} {m : ME} {p p2 pos pos2 : Pos} (hg : glB sc "list" = true) (hg2 : glB sc "range" = true) (hs1 : notStar e = true) (h : OkE C N raw sc e m) :
    OkE C N raw sc (.Call (.Name "list" p) [.Call (.Name "range" p2) [e] [] pos2] [] pos) (.op .lrange (.cons m .nil)) := fun X a hs => by
  have h := PE.weak (pe_listRg (p := p) (pos := pos) a.hc (gl_of hs hg) (a.bi _ (by decide +kernel)) (prg_1 (p := p2) (pos := pos2) (gl_of hs hg2) (a.bi _ (by decide +kernel)) (h X a hs).1 (star_cons hs1)) (star_cons rfl))
    fun σ H Q h => (tM_mono (one h) fun v H' q => by
      obtain ⟨n, e1, e2, e3⟩ := rd_lrange1 q
      exact ⟨n, e1, e2, e3⟩ : tLstRg (tRg1 (tM X.K C.T m)) σ H Q)
  exact ⟨h, pt_of h fun _ => rfl⟩
theorem ok_trg1 {e : Expr} {m : ME} {p p2 pos pos2 : Pos} (hg : glB sc "tuple" = true) (hg2 : glB sc "range" = true) (hs1 : notStar e = true) (h : OkE C N raw sc e m) :
    OkE C N raw sc (.Call (.Name "tuple" p) [.Call (.Name "range" p2) [e] [] pos2] [] pos) (.op .trange (.cons m .nil)) := fun X a hs => by
  have h := PE.weak (pe_tupRg (p := p) (pos := pos) a.hc (gl_of hs hg) (a.bi _ (by decide +kernel)) (prg_1 (p := p2) (pos := pos2) (gl_of hs hg2) (a.bi _ (by decide +kernel)) (h X a hs).1 (star_cons hs1)) (star_cons rfl))
    fun σ H Q h => (tM_mono (one h) fun v H' q => by
      obtain ⟨n, e1, e2, e3⟩ := rd_trange1 q
      exact ⟨n, e1, e2, e3⟩ : tTupRg (tRg1 (tM X.K C.T m)) σ H Q)
  exact ⟨h, pt_of h fun _ => rfl⟩
theorem ok_lrg2 {e b : Expr} {m n : ME} {p p2 pos pos2 : Pos} (hg : glB sc "list" = true) (hg2 : glB sc "range" = true) (hs1 : notStar e = true) (hs2 : notStar b = true) (h : OkE C N raw sc e m) (hb : OkE C N raw sc b n) :
    OkE C N raw sc (.Call (.Name "list" p) [.Call (.Name "range" p2) [e, b] [] pos2] [] pos) (.op .lrange (.cons m (.cons n .nil))) := fun X a hs => by
  have h := PE.weak (pe_listRg (p := p) (pos := pos) a.hc (gl_of hs hg) (a.bi _ (by decide +kernel)) (prg_2 (p := p2) (pos := pos2) (gl_of hs hg2) (a.bi _ (by decide +kernel)) (h X a hs).1 (hb X a hs).1 (star_cons hs1) (star_cons hs2) (star_none (by simp [hs2]))) (star_cons rfl))
    fun σ H Q h => (tM_mono (two h) fun v H' q => tM_mono q fun u H2 q => by
      obtain ⟨i, j, e1, e2, e3, e4⟩ := rd_lrange2 q
      exact ⟨i, j, e1, e2, e3, e4⟩ : tLstRg (tRg2 (tM X.K C.T m) (tM X.K C.T n)) σ H Q)
  exact ⟨h, pt_of h fun _ => rfl⟩
theorem ok_trg2 {e b : Expr} {m n : ME} {p p2 pos pos2 : Pos} (hg : glB sc "tuple" = true) (hg2 : glB sc "range" = true) (hs1 : notStar e = true) (hs2 : notStar b = true) (h : OkE C N raw sc e m) (hb : OkE C N raw sc b n) :
    OkE C N raw sc (.Call (.Name "tuple" p) [.Call (.Name "range" p2) [e, b] [] pos2] [] pos) (.op .trange (.cons m (.cons n .nil))) := fun X a hs => by
  have h := PE.weak (pe_tupRg (p := p) (pos := pos) a.hc (gl_of hs hg) (a.bi _ (by decide +kernel)) (prg_2 (p := p2) (pos := pos2) (gl_of hs hg2) (a.bi _ (by decide +kernel)) (h X a hs).1 (hb X a hs).1 (star_cons hs1) (star_cons hs2) (star_none (by simp [hs2]))) (star_cons rfl))
    fun σ H Q h => (tM_mono (two h) fun v H' q => tM_mono q fun u H2 q => by
      obtain ⟨i, j, e1, e2, e3, e4⟩ := rd_trange2 q
      exact ⟨i, j, e1, e2, e3, e4⟩ : tTupRg (tRg2 (tM X.K C.T m) (tM X.K C.T n)) σ H Q)
  exact ⟨h, pt_of h fun _ => rfl⟩
theorem ok_rev {e : Expr} {m : ME} {k : Nat} {p1 p2 p3 pos : Pos} (h : OkE C N raw sc e m) : OkE C N raw sc (.Subscript e (.Slice none none (some (.UnaryOp .USub (.Constant (.int 1) k p1) p2)) p3) pos) (.op .rev (.cons m .nil)) := fun X a hs => by
  have h := PE.weak (pe_revA (k := k) (p1 := p1) (p2 := p2) (p3 := p3) (pos := pos) (h X a hs).1) fun σ H Q (h : tM X.K C.T (.op .rev (.cons m .nil)) σ H Q) => (tM_mono (one h) fun v H' q0 => by
    obtain ⟨F, a, d, S, pa, e, q⟩ := rDn.one q0
    clear q0
    cases a <;> try (simp [Op.eval] at e; done)
    case list ds =>
      cases e
      obtain ⟨p, xs, rfl, hx, rx'⟩ := pa.lst S
      refine ⟨p, xs, rfl, .inl ⟨hx, kown S q rfl ?_⟩⟩
      exact RlAll.reverse rx'
    case tuple ds =>
      cases e
      obtain ⟨p, xs, rfl, hx, rx'⟩ := pa.tup S
      refine ⟨p, xs, rfl, .inr ⟨hx, ktup S q rfl ?_⟩⟩
      exact RlAll.reverse rx' : tRevA X.K (tM X.K C.T m) σ H Q)
  exact ⟨h, pt_of h fun _ => rfl⟩
end
end Tw

set_option linter.all false
set_option maxRecDepth 100000
set_option maxHeartbeats 8000000
set_option autoImplicit false
/-! Statements of the program's syntax. -/
namespace Tw
open PySem PySem.Spec PyProof.Rows L2

structure XS (C : Defs) (N : List Str) (sc : Scope) (X : Cx) : Prop extends XA C N sc X where
  hs : X.env.scope = sc
  hp : PassesOwn (model X.prog X.w) X.A X.env X.xe
  hk : sc.kind = .function
def OkS (C : Defs) (N : List Str) (sc : Scope) (st : Stmt) (m : MS) : Prop := ∀ X : Cx, XS C N sc X → PS X st (tS X.K C.T m)
def OkSs (C : Defs) (N : List Str) (sc : Scope) (st : List Stmt) (m : MSs) : Prop := ∀ X : Cx, XS C N sc X → PSs X st (tSs X.K C.T m)
def notComp : Expr → Bool
  | .ListComp _ _ _ _ => false
  | .SetComp _ _ _ _ => false
  | .DictComp _ _ _ _ _ => false
  | _ => true
theorem sw_no {e : Expr} {t : Option Expr} {l : Nat} {env : Env} (h : notComp e = true) : swapsWith e t l env = pure false := by
  cases e <;> first
    | rfl
    | cases h
section
variable {C : Defs} {N : List Str} {sc : Scope}
theorem oks_nil : OkSs C N sc [] .nil := fun X a => PSs.weak pss_nil fun _ _ _ => tSs_nil
theorem oks_cons {s : Stmt} {r : List Stmt} {m : MS} {ms : MSs} (h : OkS C N sc s m) (t : OkSs C N sc r ms) : OkSs C N sc (s :: r) (.cons m ms) := fun X a => PSs.weak (pss_cons (h X a) (t X a)) fun _ _ _ => tSs_cons
theorem oks_expr {e : Expr} {m : ME} {p : Pos} (h : OkE C N sc sc e m) (hn : notComp e = true) : OkS C N sc (.Expr e p) (.expr m) := fun X a =>
  PS.weak (ps_expr (h X a.toXA a.hs).1 (sw_no hn)) fun _ _ _ => tS_expr
theorem oks_asg {x : Str} {e : Expr} {m : ME} {i : Nat} {p p2 : Pos} (h : OkE C N sc sc e m) (hi : N[i]? = some x) (hv : storeB sc sc x = true) (hn : notComp e = true) : OkS C N sc (.Assign [.Name x p2] e p) (.asg i m) := fun X a => by
  obtain ⟨h1, h2⟩ := store_of a.toXA a.hs hv
  exact PS.weak (ps_set a.nd (by rw [a.hN]; exact hi) h1 (h X a.toXA a.hs).1 (sw_no hn) h2) fun _ _ _ => tS_asg
/-- x = [..], the comprehension on the name's own line -/
theorem bk_of {X : Cx} (a : XS C N sc X) : X.env.blockKind = .function := by
  unfold Env.blockKind
  rw [a.hs, a.hk]
  rfl
def locB (sc : Scope) (x : Str) : Bool := match sc.names.lookup x with
  | some .local => true
  | _ => false
theorem loc_of {x : Str} (h : locB sc x = true) : sc.names.lookup x = some .local := by
  unfold locB at h
  split at h
  · assumption
  · cases h
def cellB (sc : Scope) (x : Str) : Bool := match sc.names.lookup x with
  | some .cell => true
  | _ => false
theorem cell_of {x : Str} (h : cellB sc x = true) : sc.names.lookup x = some .cell := by
  unfold cellB at h
  split at h
  · assumption
  · cases h
theorem oks_asgComp {x : Str} {elt tg iter : Expr} {scope : Scope} {own : List (Str × Nat)} {pos p p2 : Pos} {mt : MT} {mi : MI} {me : ME} {i : Nat} (hi : OkI C N sc sc tg iter mi) (ht : OkT C N scope (relS scope sc) tg mt) (he : OkE C N scope (relS scope sc) elt me)
    (ok : blkC N sc scope own = true) (hin : ∀ i ∈ tgs mt, i ∈ own.map (·.2)) (hns : notSet iter = true) (hx : N[i]? = some x) (hl : locB sc x = true) (hli : (p2.line == pos.line) = true) (ha : (scope.names.any fun (n, k) => n == x && (k == .local || k == .cell)) = false) :
    OkS C N sc (.Assign [.Name x p2] (.ListComp elt [⟨tg, iter, [], 0⟩] scope pos) p) (.asg i (.comp (own.map (·.2)) mt mi (.cst (.bool true)) me)) := fun X a => by
  have hl' : X.env.scope.names.lookup x = some .local := by rw [a.hs]; exact loc_of hl
  refine PS.weak (ps_setLc (X := X) (own := own) (g := tG X.K C.T mt) (tt := tQ X.K C.T (.cst (.bool true))) (te := tD X.K C.T me) a.hc a.nd (by rw [a.hN]; exact hx) hl' (sw_true (by rw [a.hs]; exact a.hk) hl' hli ha) (hi X a.toXA a.hs)
    (blkOk_by (by rw [a.hN, a.hs]; exact ok))
    (fun s H Ca cl fp => ht _ (a.toXA.blk s H scope (compEnvC scope cl Ca X.env) fp) (by rw [← a.hs]; rfl)) (fun s H Ca cl fp => ⟨fun pins s σ H Q I q => pts_nil.run pins s σ H Q I (by
      obtain ⟨F, s, b, s', er, ev, q⟩ := q
      simp only [evalE, Option.some.injEq, Prod.mk.injEq, EV.sh.injEq, PyData.bool.injEq] at ev
      obtain ⟨rfl, rfl⟩ := ev
      exact q F H (.refl er))⟩)
    (fun s H Ca cl fp => PE.weak (he _ (a.toXA.blk s H scope (compEnvC scope cl Ca X.env) fp) (by rw [← a.hs]; rfl)).1 fun _ _ _ => tD_of) (iter_plain hns)) fun D σ H h => tM_comp hin (tS_asg h)
theorem oks_asgCompIf {x : Str} {elt tg iter c : Expr} {scope : Scope} {own : List (Str × Nat)} {pos p p2 : Pos} {mt : MT} {mi : MI} {me mc : ME} {i : Nat} (hi : OkI C N sc sc tg iter mi) (ht : OkT C N scope (relS scope sc) tg mt) (hc : OkE C N scope (relS scope sc) c mc) (he : OkE C N scope (relS scope sc) elt me)
    (ok : blkC N sc scope own = true) (hin : ∀ i ∈ tgs mt, i ∈ own.map (·.2)) (hns : notSet iter = true) (hx : N[i]? = some x) (hl : locB sc x = true) (hli : (p2.line == pos.line) = true) (ha : (scope.names.any fun (n, k) => n == x && (k == .local || k == .cell)) = false) :
    OkS C N sc (.Assign [.Name x p2] (.ListComp elt [⟨tg, iter, [c], 0⟩] scope pos) p) (.asg i (.comp (own.map (·.2)) mt mi mc me)) := fun X a => by
  have hl' : X.env.scope.names.lookup x = some .local := by rw [a.hs]; exact loc_of hl
  refine PS.weak (ps_setLc (X := X) (own := own) (g := tG X.K C.T mt) (tt := tQ X.K C.T mc) (te := tD X.K C.T me) a.hc a.nd (by rw [a.hN]; exact hx) hl' (sw_true (by rw [a.hs]; exact a.hk) hl' hli ha) (hi X a.toXA a.hs)
    (blkOk_by (by rw [a.hN, a.hs]; exact ok))
    (fun s H Ca cl fp => ht _ (a.toXA.blk s H scope (compEnvC scope cl Ca X.env) fp) (by rw [← a.hs]; rfl)) (fun s H Ca cl fp => pts_one (hc _ (a.toXA.blk s H scope (compEnvC scope cl Ca X.env) fp) (by rw [← a.hs]; rfl)).2)
    (fun s H Ca cl fp => PE.weak (he _ (a.toXA.blk s H scope (compEnvC scope cl Ca X.env) fp) (by rw [← a.hs]; rfl)).1 fun _ _ _ => tD_of) (iter_plain hns)) fun D σ H h => tM_comp hin (tS_asg h)
/-- x = [..], x a name that a comprehension captures -/
theorem sw_cell {x : Str} {elt : Expr} {gs : List Comprehension} {scope : Scope} {pos p2 : Pos} {l : Nat} {env : Env} (h : env.kindOf x = some .cell) : swapsWith (.ListComp elt gs scope pos) (some (.Name x p2)) l env = pure false := by
  unfold swapsWith
  simp only [h]
  have : ((some NameKind.cell : Option NameKind) == some .local) = false := rfl
  simp only [this, Bool.and_false, Bool.false_and]
theorem oks_asgCell {x : Str} {elt : Expr} {gs : List Comprehension} {scope : Scope} {m : ME} {i : Nat} {pos p p2 : Pos} (h : OkE C N sc sc (.ListComp elt gs scope pos) m) (hi : N[i]? = some x) (hv : cellB sc x = true) : OkS C N sc (.Assign [.Name x p2] (.ListComp elt gs scope pos) p) (.asg i m) := fun X a => by
  have hx := cell_of hv
  exact PS.weak (ps_set a.nd (by rw [a.hN]; exact hi) (.inr (by rw [a.hs]; exact hx)) (h X a.toXA a.hs).1 (sw_cell (by show X.env.scope.names.lookup x = _; rw [a.hs]; exact hx)) (.inl (a.fn x hx))) fun _ _ _ => tS_asg
/-! ### several targets -/
def notTup : Expr → Bool
  | .Tuple _ _ _ => false
  | _ => true
theorem oks_asgT {t e : Expr} {m : ME} {mt : MT} {p : Pos} (h : OkE C N sc sc e m) (ht : OkT C N sc sc t mt) (hn : notComp e = true) (hs1 : notStar t = true) (hw : ∀ env : Env, env.scope = sc → swappedStores [t] e env = pure none) : OkS C N sc (.Assign [t] e p) (.asgT mt m) := fun X a =>
  PS.weak (ps_asg (PE.weak (h X a.toXA a.hs).1 fun _ _ _ => tD_of) (ht X a.toXA a.hs) (by unfold swapsWithSole; exact sw_no hn) (hw X.env a.hs) (by rw [each_cons hs1]; rfl)) fun _ _ _ => tS_asgT
theorem no_swap1 {t e : Expr} (h : notTup e = true ∨ (match t with | .Subscript _ _ _ => true | _ => false) = true) (env : Env) (_ : env.scope = sc) : swappedStores [t] e env = pure none := by
  rcases h with h | h
  · cases e <;> first
      | (cases t <;> rfl)
      | exact absurd h Bool.false_ne_true
  · cases t <;> first
      | (cases e <;> rfl)
      | exact absurd h Bool.false_ne_true
/-- names that are plain locals on one line -/
def plainNames (sc : Scope) (line : Nat) (ts : List Expr) : List Str := ts.filterMap fun
    | .Name id pos => if sc.names.lookup id == some .local && pos.line == line then some id else none
    | _ => none
theorem no_swap2 {ts vs : List Expr} {k k2 : Nat} {p p2 : Pos} (h : (plainNames sc ((ts.head?.map (·.pos.line)).getD 0) ts).length ≠ ts.length) (env : Env) (hs : env.scope = sc) : swappedStores [.Tuple ts k p] (.Tuple vs k2 p2) env = pure none := by
  unfold swappedStores
  simp only
  split
  · rfl
  · split
    · rfl
    · split
      · rfl
      · rename_i hn
        exfalso
        apply hn
        have : ((plainNames sc ((ts.head?.map (·.pos.line)).getD 0) ts).length != ts.length) = true := by simpa using h
        rw [Bool.or_eq_true]
        left
        rw [← hs] at this
        exact this
theorem no_swap3 {ts vs : List Expr} {k k2 : Nat} {p p2 : Pos} (h : vs.all (foldedForSure 8) = true) (env : Env) (hs : env.scope = sc) : swappedStores [.Tuple ts k p] (.Tuple vs k2 p2) env = pure none := by
  unfold swappedStores
  simp only
  split
  · rfl
  · split
    · rfl
    · split
      · rfl
      · first
          | rfl
          | rw [if_pos h]
def isStar : Expr → Bool
  | .Starred .. => true
  | _ => false
theorem isStar_no : ∀ {e : Expr}, notStar e = true → isStar e = false
  | .Starred .., h => absurd h Bool.false_ne_true
  | .Constant .., _ => rfl
  | e, h => by
    cases e <;> first
      | rfl
      | exact absurd h Bool.false_ne_true
theorem swap_key (x y : Str) (a b : Expr) (k k2 : Nat) (p p2 px py : Pos) (env : Env) : swappedStores [.Tuple [.Name x px, .Name y py] k p] (.Tuple [a, b] k2 p2) env = (if (!(([Expr.Name x px, Expr.Name y py].length == 2) || ([Expr.Name x px, Expr.Name y py].length == 3)) || [a, b].length != [Expr.Name x px, Expr.Name y py].length || env.blockKind != .function) = true then pure none else
      if ([a, b].any isStar) = true then pure none else
      if ((plainNames env.scope px.line [Expr.Name x px, Expr.Name y py]).length != [Expr.Name x px, Expr.Name y py].length || (plainNames env.scope px.line [Expr.Name x px, Expr.Name y py]).eraseDups.length != (plainNames env.scope px.line [Expr.Name x px, Expr.Name y py]).length) = true then pure none else
      if [a, b].all (foldedForSure 8) = true then pure none else
      if [a, b].all (constantsAlone 8) = true then (do unsupported "assign.tuple-of-constant-expressions:order-of-the-stores"; pure (some (plainNames env.scope px.line [Expr.Name x px, Expr.Name y py]))) else pure (some (plainNames env.scope px.line [Expr.Name x px, Expr.Name y py]))) := rfl
theorem swap2 {x y : Str} {a b : Expr} {k k2 : Nat} {p p2 px py : Pos} {env : Env} (hk : env.blockKind = .function) (hx : env.kindOf x = some .local) (hy : env.kindOf y = some .local) (hl : (py.line == px.line) = true) (hxy : x ≠ y)
    (ha : notStar a = true) (hb : notStar b = true) (hf : [a, b].all (foldedForSure 8) = false) (hc : [a, b].all (constantsAlone 8) = false) : swappedStores [.Tuple [.Name x px, .Name y py] k p] (.Tuple [a, b] k2 p2) env = pure (some [x, y]) := by
  have e1 : ((some NameKind.local : Option NameKind) == some .local) = true := rfl
  have e2 : (px.line == px.line) = true := beq_self_eq_true _
  have nm : plainNames env.scope px.line [Expr.Name x px, Expr.Name y py] = [x, y] := by
    have hx' : env.scope.names.lookup x = some .local := hx
    have hy' : env.scope.names.lookup y = some .local := hy
    simp only [plainNames, List.filterMap_cons, List.filterMap_nil, hx', hy', hl, e1, e2, Bool.and_self, if_true]
  have ed : [x, y].eraseDups = [x, y] := by
    have : (y == x) = false := by simpa using fun e => hxy e.symm
    simp [List.eraseDups_cons, this]
  have an : [a, b].any isStar = false := by simp [isStar_no ha, isStar_no hb]
  rw [swap_key, nm, ed, an, hf, hc, hk]
  rfl
theorem oks_par {x y : Str} {a b : Expr} {m n : ME} {i j : Nat} {k k2 : Nat} {p p2 p3 px py : Pos} (h : OkEs C N sc sc [a, b] (.cons m (.cons n .nil))) (hi : N[i]? = some x) (hj : N[j]? = some y) (hij : i ≠ j) (hx : locB sc x = true) (hy : locB sc y = true) (hl : (py.line == px.line) = true) (hxy : x ≠ y)
    (ha : notStar a = true) (hb : notStar b = true) (hf : [a, b].all (foldedForSure 8) = false) (hc : [a, b].all (constantsAlone 8) = false) :
    OkS C N sc (.Assign [.Tuple [.Name x px, .Name y py] k p2] (.Tuple [a, b] k2 p3) p) (.asgT (.tup (.cons (.name i) (.cons (.name j) .nil))) (.tup (.cons m (.cons n .nil)))) := fun X s => by
  have hx' := loc_of hx
  have hy' := loc_of hy
  exact PS.weak (ps_par s.hc s.nd (by rw [s.hN]; exact hi) (by rw [s.hN]; exact hj) hij (by rw [s.hs]; exact hx') (by rw [s.hs]; exact hy') (h X s.toXA s.hs).2
    (swap2 (bk_of s) (by show X.env.scope.names.lookup x = _; rw [s.hs]; exact hx') (by show X.env.scope.names.lookup y = _; rw [s.hs]; exact hy') hl hxy ha hb hf hc) (by unfold swapsWithSole; rfl)) fun _ _ _ => tS_par hij
/-- a, b, c = x, y, z: three plain names -/
theorem tS_par3 {K T} {D σ H} {i j l : Nat} {a c e : ME} (h : tS K T (.asgT (.tup (.cons (.name i) (.cons (.name j) (.cons (.name l) .nil)))) (.tup (.cons a (.cons c (.cons e .nil))))) D σ H) : tPar3 i j l (tT K T (.cons a (.cons c (.cons e .nil)))) D σ H := by
  obtain ⟨F0, H0, σ0, s0, Fc, F, s, o, k, S, ev, b⟩ := h
  simp only [evalS, evalE] at ev
  cases ea : evalTs T (.cons a (.cons c (.cons e .nil))) s with
  | none => rw [ea] at ev; simp at ev
  | some p =>
    obtain ⟨ds, s1⟩ := p
    rw [ea] at ev
    simp only at ev
    split at ev
    · rename_i ev1 d1 s2 he
      split at he
      · simp only [Option.some.injEq, Prod.mk.injEq] at he
        obtain ⟨rfl, rfl⟩ := he
        refine ⟨F, s, ds, s1, k.er, ea, fun vs F' H' x r => ?_⟩
        simp only [EV.take] at ev
        split at ev
        · rename_i s3 hg
          simp only [Option.some.injEq] at ev
          subst ev
          simp only [assignT] at hg
          cases r with
          | nil => simp [assignTs] at hg
          | @cons v vs d ds r1 r =>
            simp only [assignTs, assignT] at hg
            split at hg
            · rename_i s4 hb
              cases r with
              | nil => simp [assignTs] at hg
              | @cons v2 vs d2 ds r2 r =>
                simp only [assignTs, assignT] at hg
                split at hg
                · rename_i s5 hb2
                  cases r with
                  | nil => simp [assignTs] at hg
                  | @cons v3 vs d3 ds r3 r =>
                    simp only [assignTs, assignT] at hg
                    split at hg
                    · rename_i s6 hb3
                      cases r with
                      | cons => simp [assignTs] at hg
                      | nil =>
                        simp only [assignTs, Option.some.injEq] at hg
                        subst hg
                        obtain ⟨x3, c3⟩ := RS.bind x.er r1 hb
                        obtain ⟨x4, c4⟩ := RS.bind x3.er r2 hb2
                        obtain ⟨x5, c5⟩ := RS.bind x4.er r3 hb3
                        exact ⟨v, v2, v3, rfl, b F' H' _ ((((k.step x fun _ _ => rfl).step x3 c3.1.2).step x4 c4.1.2).step x5 c5.1.2) (S.trans x.st.ff)⟩
                    · cases hg
                · cases hg
            · cases hg
        · cases ev
      · cases he
    · cases ev
theorem swap_key3 (x y z : Str) (a b c : Expr) (k k2 : Nat) (p p2 px py pz : Pos) (env : Env) : swappedStores [.Tuple [.Name x px, .Name y py, .Name z pz] k p] (.Tuple [a, b, c] k2 p2) env = (if (!(([Expr.Name x px, Expr.Name y py, Expr.Name z pz].length == 2) || ([Expr.Name x px, Expr.Name y py, Expr.Name z pz].length == 3)) || [a, b, c].length != [Expr.Name x px, Expr.Name y py, Expr.Name z pz].length || env.blockKind != .function) = true then pure none else
      if ([a, b, c].any isStar) = true then pure none else
      if ((plainNames env.scope px.line [Expr.Name x px, Expr.Name y py, Expr.Name z pz]).length != [Expr.Name x px, Expr.Name y py, Expr.Name z pz].length || (plainNames env.scope px.line [Expr.Name x px, Expr.Name y py, Expr.Name z pz]).eraseDups.length != (plainNames env.scope px.line [Expr.Name x px, Expr.Name y py, Expr.Name z pz]).length) = true then pure none else
      if [a, b, c].all (foldedForSure 8) = true then pure none else
      if [a, b, c].all (constantsAlone 8) = true then (do unsupported "assign.tuple-of-constant-expressions:order-of-the-stores"; pure (some (plainNames env.scope px.line [Expr.Name x px, Expr.Name y py, Expr.Name z pz]))) else pure (some (plainNames env.scope px.line [Expr.Name x px, Expr.Name y py, Expr.Name z pz]))) := rfl
theorem swap3 {x y z : Str} {a b c : Expr} {k k2 : Nat} {p p2 px py pz : Pos} {env : Env} (hk : env.blockKind = .function) (hx : env.kindOf x = some .local) (hy : env.kindOf y = some .local) (hz : env.kindOf z = some .local) (hl : (py.line == px.line) = true) (hl2 : (pz.line == px.line) = true) (hxy : x ≠ y) (hxz : x ≠ z) (hyz : y ≠ z)
    (ha : notStar a = true) (hb : notStar b = true) (hc' : notStar c = true) (hf : [a, b, c].all (foldedForSure 8) = false) (hc : [a, b, c].all (constantsAlone 8) = false) : swappedStores [.Tuple [.Name x px, .Name y py, .Name z pz] k p] (.Tuple [a, b, c] k2 p2) env = pure (some [x, y, z]) := by
  have e1 : ((some NameKind.local : Option NameKind) == some .local) = true := rfl
  have e2 : (px.line == px.line) = true := beq_self_eq_true _
  have nm : plainNames env.scope px.line [Expr.Name x px, Expr.Name y py, Expr.Name z pz] = [x, y, z] := by
    have hx' : env.scope.names.lookup x = some .local := hx
    have hy' : env.scope.names.lookup y = some .local := hy
    have hz' : env.scope.names.lookup z = some .local := hz
    simp only [plainNames, List.filterMap_cons, List.filterMap_nil, hx', hy', hz', hl, hl2, e1, e2, Bool.and_self, if_true]
  have ed : [x, y, z].eraseDups = [x, y, z] := by
    have h1 : (y == x) = false := by simpa using fun e => hxy e.symm
    have h2 : (z == x) = false := by simpa using fun e => hxz e.symm
    have h3 : (z == y) = false := by simpa using fun e => hyz e.symm
    simp [List.eraseDups_cons, h1, h2, h3]
  have an : [a, b, c].any isStar = false := by simp [isStar_no ha, isStar_no hb, isStar_no hc']
  rw [swap_key3, nm, ed, an, hf, hc, hk]
  rfl
theorem oks_par3 {x y z : Str} {a b c : Expr} {m n o : ME} {i j l : Nat} {k k2 : Nat} {p p2 p3 px py pz : Pos} (h : OkEs C N sc sc [a, b, c] (.cons m (.cons n (.cons o .nil)))) (hi : N[i]? = some x) (hj : N[j]? = some y) (hl0 : N[l]? = some z) (hij : i ≠ j) (hil : i ≠ l) (hjl : j ≠ l) (hx : locB sc x = true) (hy : locB sc y = true) (hz : locB sc z = true) (hl : (py.line == px.line) = true) (hl2 : (pz.line == px.line) = true) (hxy : x ≠ y) (hxz : x ≠ z) (hyz : y ≠ z)
    (ha : notStar a = true) (hb : notStar b = true) (hc' : notStar c = true) (hf : [a, b, c].all (foldedForSure 8) = false) (hc : [a, b, c].all (constantsAlone 8) = false) :
    OkS C N sc (.Assign [.Tuple [.Name x px, .Name y py, .Name z pz] k p2] (.Tuple [a, b, c] k2 p3) p) (.asgT (.tup (.cons (.name i) (.cons (.name j) (.cons (.name l) .nil)))) (.tup (.cons m (.cons n (.cons o .nil))))) := fun X s => by
  have hx' := loc_of hx
  have hy' := loc_of hy
  have hz' := loc_of hz
  exact PS.weak (ps_par3 s.hc s.nd (by rw [s.hN]; exact hi) (by rw [s.hN]; exact hj) (by rw [s.hN]; exact hl0) hij hil hjl (by rw [s.hs]; exact hx') (by rw [s.hs]; exact hy') (by rw [s.hs]; exact hz') (h X s.toXA s.hs).2
    (swap3 (bk_of s) (by show X.env.scope.names.lookup x = _; rw [s.hs]; exact hx') (by show X.env.scope.names.lookup y = _; rw [s.hs]; exact hy') (by show X.env.scope.names.lookup z = _; rw [s.hs]; exact hz') hl hl2 hxy hxz hyz ha hb hc' hf hc) (by unfold swapsWithSole; rfl)) fun _ _ _ => tS_par3
theorem oks_ret {e : Expr} {m : ME} {p : Pos} (h : OkE C N sc sc e m) : OkS C N sc (.Return (some e) p) (.ret m) := fun X a => PS.weak (ps_ret (h X a.toXA a.hs).1) fun _ _ _ => tS_ret
theorem oks_retN {p : Pos} : OkS C N sc (.Return none p) .retN := fun X a => PS.weak ps_retN fun _ _ _ => tS_retN
theorem oks_if {c : Expr} {a b : List Stmt} {mc : ME} {ma mb : MSs} {p : Pos} (hc : OkE C N sc sc c mc) (ha : OkSs C N sc a ma) (hb : OkSs C N sc b mb) : OkS C N sc (.If c a b p) (.ite mc ma mb) := fun X s =>
  PS.weak (ps_if (hc X s.toXA s.hs).2 (ha X s) (hb X s)) fun _ _ _ => tS_ite
theorem oks_while {c : Expr} {a : List Stmt} {mc : ME} {ma : MSs} {p : Pos} (hc : OkE C N sc sc c mc) (ha : OkSs C N sc a ma) : OkS C N sc (.While c a [] p) (.while mc ma) := fun X s =>
  PS.weak (ps_while s.hp (hc X s.toXA s.hs).2 (ha X s)) fun _ _ _ => tS_while
theorem oks_for {t i : Expr} {a : List Stmt} {mt : MT} {mi : MI} {ma : MSs} {p : Pos} (hi : OkI C N sc sc t i mi) (ht : OkT C N sc sc t mt) (ha : OkSs C N sc a ma) (hns : notSet i = true) : OkS C N sc (.For t i a [] p) (.for mt mi ma) := fun X s =>
  PS.weak (ps_for s.hp s.hc (hi X s.toXA s.hs) (ht X s.toXA s.hs) (ha X s) (iter_plain hns)) fun _ _ _ => tS_for
theorem oks_forL {t i : Expr} {a : List Stmt} {mt : MT} {n : Nat} {ma : MSs} {p : Pos} (hi : OkE C N sc sc i (.var n)) (ht : OkT C N sc sc t mt) (ha : OkSs C N sc a ma) (hns : notSet i = true) : OkS C N sc (.For t i a [] p) (.forL mt n ma) := fun X s =>
  PS.weak (ps_for s.hp s.hc (pi_list (hi X s.toXA s.hs).1) (ht X s.toXA s.hs) (ha X s) (iter_plain hns)) fun _ _ _ => tS_forL
theorem oks_pass {p : Pos} : OkS C N sc (.Pass p) .pass := fun X a => PS.weak ps_pass fun _ _ _ => tS_pass
theorem oks_brk {p : Pos} : OkS C N sc (.Break p) .brk := fun X a => PS.weak ps_break fun _ _ _ => tS_brk
theorem oks_cont {p : Pos} : OkS C N sc (.Continue p) .cont := fun X a => PS.weak ps_continue fun _ _ _ => tS_cont
theorem oks_stuck {s : Stmt} : OkS C N sc s .stuck := fun X a => PS.weak ps_never fun D σ H h => by
  obtain ⟨F0, H0, σ0, s0, Fc, F, s, o, k, S, ev, b⟩ := h
  simp only [evalS] at ev
  cases ev
theorem base_plain {o : Expr} {x : Str} {env : Env} (h : (match o with | .Name _ _ => true | _ => false) = true) : attributeBase o x env (eval o env) = eval o env := by
  cases o <;> first
    | rfl
    | cases h
theorem oks_append {x : Str} {e : Expr} {m : ME} {i : Nat} {p p1 p2 p3 : Pos} (h : OkE C N sc sc e m) (hi : N[i]? = some x) (hv : visB sc x = true) (hn : okN x = true) (hs1 : notStar e = true) (hl : (p2.endLine == p3.line) = true) :
    OkS C N sc (.Expr (.Call (.Attribute (.Name x p1) "append" p2) [e] [] p3) p) (.mut .append i (.cons m .nil)) := fun X a => by
  refine PS.weak (ps_expr (pe_bm F.plainAttrs_list F.slot_list_append F.type_list_append mt_append (pe_var (i := i) (by rw [a.hN]; exact hi) (by rw [a.hs]; exact vis_of hv) (okN_of hn).1 (okN_of hn).2) (ok_cons h ok_nil hs1 X a.toXA a.hs).2
    (base_plain rfl) ?_ hl (star_cons hs1) rfl) rfl) fun _ _ _ => tS_append
  rw [star_cons hs1]
  rfl
theorem oks_insert {x : Str} {e1 e2 : Expr} {m1 m2 : ME} {i : Nat} {p p1 p2 p3 : Pos} (h1 : OkE C N sc sc e1 m1) (h2 : OkE C N sc sc e2 m2) (hi : N[i]? = some x) (hv : visB sc x = true) (hn : okN x = true) (hs1 : notStar e1 = true) (hs2 : notStar e2 = true) (hl : (p2.endLine == p3.line) = true) :
    OkS C N sc (.Expr (.Call (.Attribute (.Name x p1) "insert" p2) [e1, e2] [] p3) p) (.mut .insert i (.cons m1 (.cons m2 .nil))) := fun X a => by
  refine PS.weak (ps_expr (pe_bm F.plainAttrs_list F.slot_list_insert F.type_list_insert mt_insert (pe_var (i := i) (by rw [a.hN]; exact hi) (by rw [a.hs]; exact vis_of hv) (okN_of hn).1 (okN_of hn).2) (ok_cons h1 (ok_cons h2 ok_nil hs2) hs1 X a.toXA a.hs).2
    (base_plain rfl) ?_ hl (star_cons hs1) (star_none (by simp [hs2]))) rfl) fun _ _ _ => tS_insert
  rw [star_cons hs1, star_cons hs2]
  rfl
theorem oks_reverse {x : Str} {i : Nat} {p p1 p2 p3 : Pos} (hi : N[i]? = some x) (hv : visB sc x = true) (hn : okN x = true) (hl : (p2.endLine == p3.line) = true) :
    OkS C N sc (.Expr (.Call (.Attribute (.Name x p1) "reverse" p2) [] [] p3) p) (.mut .reverse i .nil) := fun X a => by
  exact PS.weak (ps_expr (pe_bm0 F.plainAttrs_list F.slot_list_reverse F.type_list_reverse mt_reverse (pe_var (i := i) (by rw [a.hN]; exact hi) (by rw [a.hs]; exact vis_of hv) (okN_of hn).1 (okN_of hn).2)
    (base_plain rfl) hl) rfl) fun _ _ _ => tS_reverse
theorem oks_ext {x : Str} {e : Expr} {m : ME} {i : Nat} {p p1 p2 p3 : Pos} (h : OkE C N sc sc e m) (hi : N[i]? = some x) (hv : visB sc x = true) (hn : okN x = true) (hs1 : notStar e = true) (hl : (p2.endLine == p3.line) = true) :
    OkS C N sc (.Expr (.Call (.Attribute (.Name x p1) "extend" p2) [e] [] p3) p) (.ext i m) := fun X a => by
  refine PS.weak (ps_expr (pe_bm F.plainAttrs_list F.slot_list_extend F.type_list_extend mt_extend (pe_var (i := i) (by rw [a.hN]; exact hi) (by rw [a.hs]; exact vis_of hv) (okN_of hn).1 (okN_of hn).2) (ok_cons h ok_nil hs1 X a.toXA a.hs).1
    (base_plain rfl) ?_ hl (star_cons hs1) rfl) rfl) fun _ _ _ => tS_ext
  rw [star_cons hs1]
  rfl
end
end Tw

set_option linter.all false
set_option maxRecDepth 100000
set_option maxHeartbeats 8000000
set_option autoImplicit false
/-! From the program's syntax to the small language, and that it is right. -/
namespace Tw
open PySem PySem.Spec PyProof.Rows L2

def gd (b : Bool) : Option Unit := if b then some () else none
theorem gdt {b : Bool} {u : Unit} (h : gd b = some u) : b = true := by
  cases b
  · cases h
  · rfl
theorem bd {α β : Type} {x : Option α} {f : α → Option β} {y : β} (h : x.bind f = some y) : ∃ a, x = some a ∧ f a = some y := by
  cases x with
  | none => cases h
  | some a => exact ⟨a, rfl, h⟩
def fnd : List Str → Str → Option Nat
  | [], _ => none
  | y :: r, x => if y = x then some 0 else (match fnd r x with
    | some i => some (i + 1)
    | none => none)
theorem fnd_get : ∀ {N : List Str} {x : Str} {i : Nat}, fnd N x = some i → N[i]? = some x
  | [], _, _, h => by cases h
  | y :: r, x, i, h => by
    unfold fnd at h
    split at h
    · cases h
      subst_vars
      rfl
    · split at h
      · rename_i j hj
        cases h
        exact fnd_get (N := r) hj
      · cases h
structure Cmp where
  e : Scope → Scope → Expr → Option ME
  t : Scope → Scope → Expr → Option MT
structure Cmp.Ok (C : Defs) (N : List Str) (c : Cmp) : Prop where
  e : ∀ raw sc e m, c.e raw sc e = some m → OkE C N raw sc e m
  t : ∀ raw sc e m, c.t raw sc e = some m → OkT C N raw sc e m
section
variable {C : Defs} {N : List Str} {raw sc : Scope}
def cEs (f : Expr → Option ME) : List Expr → Option MEs
  | [] => some .nil
  | x :: r => (gd (notStar x)).bind fun _ => (f x).bind fun m => (cEs f r).bind fun ms => some (.cons m ms)
theorem cEs_ok {f : Expr → Option ME} (h : ∀ e m, f e = some m → OkE C N raw sc e m) : ∀ {es : List Expr} {ms : MEs}, cEs f es = some ms → OkEs C N raw sc es ms ∧ es.all notStar = true
  | [], ms, e => by
    cases e
    exact ⟨ok_nil, rfl⟩
  | x :: r, ms, e => by
    unfold cEs at e
    obtain ⟨_, g, e⟩ := bd e
    obtain ⟨m, hm, e⟩ := bd e
    obtain ⟨ms', hr, e⟩ := bd e
    cases e
    obtain ⟨h1, h2⟩ := cEs_ok h hr
    exact ⟨ok_cons (h _ _ hm) h1 (gdt g), by simp [gdt g, h2]⟩
def cPs (f : Expr → Option ME) : List (Option Expr) → List Expr → Option MEs
  | [], [] => some .nil
  | some k :: ks, v :: vs => (f k).bind fun m => (f v).bind fun n => (cPs f ks vs).bind fun ms => some (.cons m (.cons n ms))
  | _, _ => none
theorem cPs_ok {f : Expr → Option ME} (h : ∀ e m, f e = some m → OkE C N raw sc e m) : ∀ {ks : List (Option Expr)} {vs : List Expr} {ms : MEs}, cPs f ks vs = some ms → OkPs C N raw sc ks vs ms ∧ ks.all (·.isSome) = true ∧ ks.length = vs.length
  | [], [], ms, e => by
    cases e
    exact ⟨ok_pnil, rfl, rfl⟩
  | some k :: ks, v :: vs, ms, e => by
    unfold cPs at e
    obtain ⟨m, hm, e⟩ := bd e
    obtain ⟨n, hn, e⟩ := bd e
    obtain ⟨ms', hr, e⟩ := bd e
    cases e
    obtain ⟨h1, h2, h3⟩ := cPs_ok h hr
    exact ⟨ok_pcons (h _ _ hm) (h _ _ hn) h1, by simpa using h2, by simp [h3]⟩
  | [], _ :: _, _, e => by cases e
  | none :: _, _, _, e => by cases e
  | some _ :: _, [], _, e => by cases e
def cBo (f : Expr → Option ME) (op : BoolOp) : List Expr → Option ME
  | [] => none
  | [e] => f e
  | e :: b :: r => (f e).bind fun m => (cBo f op (b :: r)).bind fun n => some (match op with
    | .And => .and m n
    | .Or => .or m n)
theorem cBo_ok {f : Expr → Option ME} {op : BoolOp} (h : ∀ e m, f e = some m → OkE C N raw sc e m) : ∀ {es : List Expr} {m : ME}, cBo f op es = some m → OkB C N raw sc op es m
  | [], m, e => by cases e
  | [x], m, e => ok_b1 (h x m e)
  | x :: b :: r, m, e => by
    unfold cBo at e
    obtain ⟨m1, hm, e⟩ := bd e
    obtain ⟨n, hn, e⟩ := bd e
    cases e
    cases op
    · exact ok_and (h _ _ hm) (cBo_ok h hn)
    · exact ok_or (h _ _ hm) (cBo_ok h hn)
def cIsE (op : CmpOp) : Expr → Option Op
  | .Constant c _ _ => cIs op c
  | _ => none
def cCp (f : Expr → Option ME) (a b : Expr) (op : CmpOp) : Option ME := match cIsE op b with
  | some o => (f a).bind fun m => some (.op o (.cons m .nil))
  | none => (cCmp op).bind fun o => (gd (notSet b)).bind fun _ => (f a).bind fun m => (f b).bind fun n => some (.op o (.cons m (.cons n .nil)))
theorem cCp_ok {f : Expr → Option ME} (h : ∀ e m, f e = some m → OkE C N raw sc e m) {a b : Expr} {op : CmpOp} {p : Pos} {m : ME} (e : cCp f a b op = some m) : OkE C N raw sc (.Compare a [op] [b] p) m := by
  unfold cCp at e
  split at e
  · rename_i o ho
    obtain ⟨m1, hm, e⟩ := bd e
    cases e
    unfold cIsE at ho
    split at ho
    · exact ok_is ho (h _ _ hm)
    · cases ho
  · obtain ⟨o, ho, e⟩ := bd e
    obtain ⟨_, g, e⟩ := bd e
    obtain ⟨m1, hm, e⟩ := bd e
    obtain ⟨n, hn, e⟩ := bd e
    cases e
    exact ok_cmp ho (h _ _ hm) (h _ _ hn) (gdt g)
def cOp (f : Expr → Option ME) : Option Expr → Option (Bool × ME)
  | none => some (false, .cst .none)
  | some e => (f e).bind fun m => some (true, m)
theorem cOp_ok {f : Expr → Option ME} (h : ∀ e m, f e = some m → OkE C N raw sc e m) {o : Option Expr} {b : Bool} {m : ME} (e : cOp f o = some (b, m)) : OkP C N raw sc o b m := by
  unfold cOp at e
  split at e
  · cases e
    exact .inl ⟨rfl, rfl⟩
  · rename_i x
    obtain ⟨m1, hm, e⟩ := bd e
    cases e
    exact .inr ⟨x, rfl, rfl, h _ _ hm⟩
/-- a call by a plain name -/
def cCl (f : Expr → Option ME) (C : Defs) (sc : Scope) (x : Str) (e : Expr) (es : List Expr) : Option ME :=
  (gd (glB sc x)).bind fun _ => match C.ns.lookup x with
  | some (k, ar) => (gd (okN x)).bind fun _ => (cEs f (e :: es)).bind fun ms => (gd (ms.len == ar)).bind fun _ => some (.call k ms)
  | none => (cBf x (es.length + 1)).bind fun o => (cEs f (e :: es)).bind fun ms => some (.op o ms)
theorem cCl_ok {f : Expr → Option ME} (h : ∀ e m, f e = some m → OkE C N raw sc e m) {x : Str} {e : Expr} {es : List Expr} {p pos : Pos} {m : ME} (w : cCl f C sc x e es = some m) : OkE C N raw sc (.Call (.Name x p) (e :: es) [] pos) m := by
  unfold cCl at w
  obtain ⟨_, g, w⟩ := bd w
  split at w
  · rename_i k ar hk
    obtain ⟨_, g2, w⟩ := bd w
    obtain ⟨ms, hm, w⟩ := bd w
    obtain ⟨_, g3, w⟩ := bd w
    cases w
    obtain ⟨h1, h2⟩ := cEs_ok h hm
    rw [List.all_cons, Bool.and_eq_true] at h2
    exact ok_call hk (by simpa using gdt g3) (gdt g) (gdt g2) h2.1 h2.2 h1
  · obtain ⟨o, ho, w⟩ := bd w
    obtain ⟨ms, hm, w⟩ := bd w
    cases w
    obtain ⟨h1, h2⟩ := cEs_ok h hm
    rw [List.all_cons, Bool.and_eq_true] at h2
    exact ok_bf ho (gdt g) h2.1 h2.2 h1
def cIn (f : Expr → Option ME) (sc : Scope) (e : Expr) (x : Str) : Option ME :=
  (gd (glB sc "isinstance")).bind fun _ => (gd (glB sc x)).bind fun _ => (cTy x).bind fun t => (gd (notStar e)).bind fun _ => (f e).bind fun m => some (.op (.inst t) (.cons m .nil))
theorem cIn_ok {f : Expr → Option ME} (h : ∀ e m, f e = some m → OkE C N raw sc e m) {e : Expr} {x : Str} {p p2 pos : Pos} {m : ME} (w : cIn f sc e x = some m) : OkE C N raw sc (.Call (.Name "isinstance" p) [e, .Name x p2] [] pos) m := by
  unfold cIn at w
  obtain ⟨_, g1, w⟩ := bd w
  obtain ⟨_, g2, w⟩ := bd w
  obtain ⟨t, ht, w⟩ := bd w
  obtain ⟨_, g3, w⟩ := bd w
  obtain ⟨m1, hm, w⟩ := bd w
  cases w
  exact ok_inst ht (gdt g1) (gdt g2) (gdt g3) (h _ _ hm)
def instArg (x : Str) : List Expr → Option (Expr × Str)
  | [e, .Name t _] => if x = "isinstance" then some (e, t) else none
  | _ => none
theorem instArg_eq {x t : Str} {es : List Expr} {e : Expr} (h : instArg x es = some (e, t)) : ∃ p, es = [e, .Name t p] ∧ x = "isinstance" := by
  unfold instArg at h
  split at h
  · split at h
    · cases h
      exact ⟨_, rfl, by assumption⟩
    · cases h
  · cases h
/-- what is gone through -/
def rangeArgs : Expr → Option (List Expr)
  | .Call (.Name x _) as [] _ => if x = "range" then some as else none
  | _ => none
theorem rangeArgs_eq {e : Expr} {as : List Expr} (h : rangeArgs e = some as) : ∃ p q, e = .Call (.Name "range" p) as [] q := by
  unfold rangeArgs at h
  split at h
  · split at h
    · cases h
      subst_vars
      exact ⟨_, _, rfl⟩
    · cases h
  · cases h
/-- list(range(..)), tuple(range(..)) -/
def rgArg (x : Str) : List Expr → Option (Bool × List Expr)
  | [e] => if x = "list" then (rangeArgs e).bind fun as => some (true, as) else if x = "tuple" then (rangeArgs e).bind fun as => some (false, as) else none
  | _ => none
theorem rgArg_eq {x : Str} {es as : List Expr} {b : Bool} (h : rgArg x es = some (b, as)) : ∃ p q, es = [.Call (.Name "range" p) as [] q] ∧ x = (if b then ("list" : Str) else ("tuple" : Str)) := by
  unfold rgArg at h
  split at h
  · split at h
    · rename_i hx
      obtain ⟨as', h1, h2⟩ := bd h
      cases h2
      obtain ⟨p, q, rfl⟩ := rangeArgs_eq h1
      exact ⟨p, q, rfl, hx⟩
    · split at h
      · rename_i hx
        obtain ⟨as', h1, h2⟩ := bd h
        cases h2
        obtain ⟨p, q, rfl⟩ := rangeArgs_eq h1
        exact ⟨p, q, rfl, hx⟩
      · cases h
  · cases h
def cRg (f : Expr → Option ME) (sc : Scope) (b : Bool) (as : List Expr) : Option ME := (gd (glB sc (if b then ("list" : Str) else ("tuple" : Str)))).bind fun _ => (gd (glB sc "range")).bind fun _ => match as with
  | [a] => (gd (notStar a)).bind fun _ => (f a).bind fun m => some (.op (if b then .lrange else .trange) (.cons m .nil))
  | [a, c] => (gd (notStar a)).bind fun _ => (gd (notStar c)).bind fun _ => (f a).bind fun m => (f c).bind fun n => some (.op (if b then .lrange else .trange) (.cons m (.cons n .nil)))
  | _ => none
theorem cRg_ok {f : Expr → Option ME} (h : ∀ e m, f e = some m → OkE C N raw sc e m) {as : List Expr} {b : Bool} {p p2 pos pos2 : Pos} {m : ME} (w : cRg f sc b as = some m) : OkE C N raw sc (.Call (.Name (if b then ("list" : Str) else ("tuple" : Str)) p) [.Call (.Name "range" p2) as [] pos2] [] pos) m := by
  unfold cRg at w
  obtain ⟨_, g1, w⟩ := bd w
  obtain ⟨_, g2, w⟩ := bd w
  split at w
  · obtain ⟨_, g3, w⟩ := bd w
    obtain ⟨m1, hm, w⟩ := bd w
    cases w
    cases b
    · exact ok_trg1 (gdt g1) (gdt g2) (gdt g3) (h _ _ hm)
    · exact ok_lrg1 (gdt g1) (gdt g2) (gdt g3) (h _ _ hm)
  · obtain ⟨_, g3, w⟩ := bd w
    obtain ⟨_, g4, w⟩ := bd w
    obtain ⟨m1, hm, w⟩ := bd w
    obtain ⟨m2, hm2, w⟩ := bd w
    cases w
    cases b
    · exact ok_trg2 (gdt g1) (gdt g2) (gdt g3) (gdt g4) (h _ _ hm) (h _ _ hm2)
    · exact ok_lrg2 (gdt g1) (gdt g2) (gdt g3) (gdt g4) (h _ _ hm) (h _ _ hm2)
  · cases w
/-- sorted(set(e)) -/
def ssArg (x : Str) : List Expr → Option Expr
  | [.Call (.Name y _) [e] [] _] => if x = "sorted" ∧ y = "set" then some e else none
  | _ => none
theorem ssArg_eq {x : Str} {es : List Expr} {e : Expr} (h : ssArg x es = some e) : ∃ p q, es = [.Call (.Name "set" p) [e] [] q] ∧ x = "sorted" := by
  unfold ssArg at h
  split at h
  · split at h
    · rename_i z
      cases h
      obtain ⟨z1, z2⟩ := z
      subst z1 z2
      exact ⟨_, _, rfl, rfl⟩
    · cases h
  · cases h
def cSs (f : Expr → Option ME) (sc : Scope) (e : Expr) : Option ME := (gd (glB sc "sorted")).bind fun _ => (gd (glB sc "set")).bind fun _ => (cEs f [e]).bind fun ms => some (.op .sset ms)
theorem cSs_ok {f : Expr → Option ME} (h : ∀ e m, f e = some m → OkE C N raw sc e m) {e : Expr} {p1 p2 p3 p4 : Pos} {m : ME} (w : cSs f sc e = some m) : OkE C N raw sc (.Call (.Name "sorted" p1) [.Call (.Name "set" p2) [e] [] p3] [] p4) m := by
  unfold cSs at w
  obtain ⟨_, g1, w⟩ := bd w
  obtain ⟨_, g2, w⟩ := bd w
  obtain ⟨ms, hm, w⟩ := bd w
  cases w
  obtain ⟨h1, h2⟩ := cEs_ok h hm
  rw [List.all_cons, Bool.and_eq_true] at h2
  exact ok_sset (gdt g1) (gdt g2) h2.1 h1
def deArg (x : Str) : List Expr → Option Expr
  | [.Call (.Name y _) [e] [] _] => if x = "dict" ∧ y = "enumerate" then some e else none
  | _ => none
theorem deArg_eq {x : Str} {es : List Expr} {e : Expr} (h : deArg x es = some e) : ∃ p q, es = [.Call (.Name "enumerate" p) [e] [] q] ∧ x = "dict" := by
  unfold deArg at h
  split at h
  · split at h
    · rename_i z
      cases h
      obtain ⟨z1, z2⟩ := z
      subst z1 z2
      exact ⟨_, _, rfl, rfl⟩
    · cases h
  · cases h
def cDe (f : Expr → Option ME) (sc : Scope) (e : Expr) : Option ME := (gd (glB sc "dict")).bind fun _ => (gd (glB sc "enumerate")).bind fun _ => (cEs f [e]).bind fun ms => some (.op .denum ms)
theorem cDe_ok {f : Expr → Option ME} (h : ∀ e m, f e = some m → OkE C N raw sc e m) {e : Expr} {p1 p2 p3 p4 : Pos} {m : ME} (w : cDe f sc e = some m) : OkE C N raw sc (.Call (.Name "dict" p1) [.Call (.Name "enumerate" p2) [e] [] p3] [] p4) m := by
  unfold cDe at w
  obtain ⟨_, g1, w⟩ := bd w
  obtain ⟨_, g2, w⟩ := bd w
  obtain ⟨ms, hm, w⟩ := bd w
  cases w
  obtain ⟨h1, h2⟩ := cEs_ok h hm
  rw [List.all_cons, Bool.and_eq_true] at h2
  exact ok_denum (gdt g1) (gdt g2) h2.1 h1
def cCall (f : Expr → Option ME) (C : Defs) (sc : Scope) (x : Str) (args : List Expr) : Option ME := match ssArg x args with
  | some e => cSs f sc e
  | none => match deArg x args with
  | some e => cDe f sc e
  | none => match rgArg x args with
  | some (b, as) => cRg f sc b as
  | none => match instArg x args with
    | some (e, t) => cIn f sc e t
    | none => match args with
      | e :: es => cCl f C sc x e es
      | [] => none
theorem cCall_ok {f : Expr → Option ME} (h : ∀ e m, f e = some m → OkE C N raw sc e m) {args : List Expr} {x : Str} {p pos : Pos} {m : ME} (w : cCall f C sc x args = some m) : OkE C N raw sc (.Call (.Name x p) args [] pos) m := by
  unfold cCall at w
  split at w
  · rename_i e ha
    obtain ⟨p2, q2, rfl, rfl⟩ := ssArg_eq ha
    exact cSs_ok h w
  split at w
  · rename_i e ha
    obtain ⟨p2, q2, rfl, rfl⟩ := deArg_eq ha
    exact cDe_ok h w
  split at w
  · rename_i b as ha
    obtain ⟨p2, q2, rfl, rfl⟩ := rgArg_eq ha
    exact cRg_ok h w
  · split at w
    · rename_i e t ha
      obtain ⟨q, rfl, rfl⟩ := instArg_eq ha
      exact cIn_ok h w
    · split at w
      · exact cCl_ok h w
      · cases w
def cIr (f : Expr → Option ME) (sc : Scope) (e : Expr) : Option MI := match rangeArgs e with
  | some as => (gd (glB sc "range")).bind fun _ => match as with
    | [a] => (gd (notStar a)).bind fun _ => (f a).bind fun m => some (.range (.cons m .nil))
    | [a, b] => (gd (notStar a)).bind fun _ => (gd (notStar b)).bind fun _ => (f a).bind fun m => (f b).bind fun n => some (.range (.cons m (.cons n .nil)))
    | [a, b, c] => (gd (notStar a)).bind fun _ => (gd (notStar b)).bind fun _ => (gd (notStar c)).bind fun _ => (f a).bind fun m => (f b).bind fun n => (f c).bind fun l => some (.range (.cons m (.cons n (.cons l .nil))))
    | _ => none
  | none => (f e).bind fun m => some (.seq m)
theorem cIr_ok {f : Expr → Option ME} (h : ∀ e m, f e = some m → OkE C N raw sc e m) {tg e : Expr} {m : MI} (w : cIr f sc e = some m) : OkI C N raw sc tg e m := by
  unfold cIr at w
  split at w
  · rename_i as ha
    obtain ⟨p, q, rfl⟩ := rangeArgs_eq ha
    obtain ⟨_, g, w⟩ := bd w
    split at w
    · obtain ⟨_, g1, w⟩ := bd w
      obtain ⟨m1, hm, w⟩ := bd w
      cases w
      exact ok_range1 (gdt g) (gdt g1) (h _ _ hm)
    · obtain ⟨_, g1, w⟩ := bd w
      obtain ⟨_, g2, w⟩ := bd w
      obtain ⟨m1, hm, w⟩ := bd w
      obtain ⟨m2, hm2, w⟩ := bd w
      cases w
      exact ok_range2 (gdt g) (gdt g1) (gdt g2) (h _ _ hm) (h _ _ hm2)
    · obtain ⟨_, g1, w⟩ := bd w
      obtain ⟨_, g2, w⟩ := bd w
      obtain ⟨_, g3, w⟩ := bd w
      obtain ⟨m1, hm, w⟩ := bd w
      obtain ⟨m2, hm2, w⟩ := bd w
      obtain ⟨m3, hm3, w⟩ := bd w
      cases w
      exact ok_range3 (gdt g) (gdt g1) (gdt g2) (gdt g3) (h _ _ hm) (h _ _ hm2) (h _ _ hm3)
    · cases w
  · obtain ⟨m1, hm, w⟩ := bd w
    cases w
    exact ok_seq (h _ _ hm)
def isTup : Expr → Bool
  | .Tuple _ _ _ => true
  | _ => false
theorem isTup_eq {e : Expr} (h : isTup e = true) : ∃ a b c, e = .Tuple a b c := by
  cases e <;> first
    | exact ⟨_, _, _, rfl⟩
    | cases h
/-- enumerate(x), zip(x, y), for targets that are tuples -/
def pairArgs : Expr → Option (Expr ⊕ Expr × Expr)
  | .Call (.Name x _) [a] [] _ => if x = "enumerate" then some (.inl a) else none
  | .Call (.Name x _) [a, b] [] _ => if x = "zip" then some (.inr (a, b)) else none
  | _ => none
theorem pairArgs_l {e a : Expr} (h : pairArgs e = some (.inl a)) : ∃ p q, e = .Call (.Name "enumerate" p) [a] [] q := by
  unfold pairArgs at h
  split at h
  · split at h
    · cases h
      subst_vars
      exact ⟨_, _, rfl⟩
    · cases h
  · split at h <;> cases h
  · cases h
theorem pairArgs_r {e a b : Expr} (h : pairArgs e = some (.inr (a, b))) : ∃ p q, e = .Call (.Name "zip" p) [a, b] [] q := by
  unfold pairArgs at h
  split at h
  · split at h <;> cases h
  · split at h
    · cases h
      subst_vars
      exact ⟨_, _, rfl⟩
    · cases h
  · cases h
/-- reversed(x) -/
def revOf : Expr → Option Expr
  | .Call (.Name x _) [a] [] _ => if x = "reversed" then some a else none
  | _ => none
theorem revOf_eq {e a : Expr} (h : revOf e = some a) : ∃ p q, e = .Call (.Name "reversed" p) [a] [] q := by
  unfold revOf at h
  split at h
  · split at h
    · cases h
      subst_vars
      exact ⟨_, _, rfl⟩
    · cases h
  · cases h
def cZ (f : Expr → Option ME) (sc : Scope) (tg a b : Expr) : Option MI := match revOf a, revOf b with
  | some a', some b' => (gd (isTup tg)).bind fun _ => (gd (glB sc "zip")).bind fun _ => (gd (glB sc "reversed")).bind fun _ => (gd (notStar a')).bind fun _ => (gd (notStar b')).bind fun _ => (f a').bind fun m => (f b').bind fun n => some (.ziprev m n)
  | _, _ => (gd (isTup tg)).bind fun _ => (gd (glB sc "zip")).bind fun _ => (gd (notStar a)).bind fun _ => (gd (notStar b)).bind fun _ => (f a).bind fun m => (f b).bind fun n => some (.zip m n)
theorem cZ_ok {f : Expr → Option ME} (h : ∀ e m, f e = some m → OkE C N raw sc e m) {tg a b : Expr} {p q : Pos} {m : MI} (w : cZ f sc tg a b = some m) : OkI C N raw sc tg (.Call (.Name "zip" p) [a, b] [] q) m := by
  unfold cZ at w
  split at w
  · rename_i a' b' e1 e2
    obtain ⟨p1, q1, rfl⟩ := revOf_eq e1
    obtain ⟨p2, q2, rfl⟩ := revOf_eq e2
    obtain ⟨_, g1, w⟩ := bd w
    obtain ⟨_, g2, w⟩ := bd w
    obtain ⟨_, g3, w⟩ := bd w
    obtain ⟨_, g4, w⟩ := bd w
    obtain ⟨_, g5, w⟩ := bd w
    obtain ⟨m1, hm, w⟩ := bd w
    obtain ⟨n1, hn, w⟩ := bd w
    cases w
    obtain ⟨_, _, _, rfl⟩ := isTup_eq (gdt g1)
    exact ok_zipR (gdt g2) (gdt g3) (gdt g4) (gdt g5) (h _ _ hm) (h _ _ hn)
  · obtain ⟨_, g1, w⟩ := bd w
    obtain ⟨_, g2, w⟩ := bd w
    obtain ⟨_, g3, w⟩ := bd w
    obtain ⟨_, g4, w⟩ := bd w
    obtain ⟨m1, hm, w⟩ := bd w
    obtain ⟨n1, hn, w⟩ := bd w
    cases w
    obtain ⟨_, _, _, rfl⟩ := isTup_eq (gdt g1)
    exact ok_zip (gdt g2) (gdt g3) (gdt g4) (h _ _ hm) (h _ _ hn)
def cI (f : Expr → Option ME) (sc : Scope) (tg e : Expr) : Option MI := match pairArgs e with
  | some (.inl a) => (gd (isTup tg)).bind fun _ => (gd (glB sc "enumerate")).bind fun _ => (gd (notStar a)).bind fun _ => (f a).bind fun m => some (.enum m)
  | some (.inr (a, b)) => cZ f sc tg a b
  | none => cIr f sc e
theorem cI_ok {f : Expr → Option ME} (h : ∀ e m, f e = some m → OkE C N raw sc e m) {tg e : Expr} {m : MI} (w : cI f sc tg e = some m) : OkI C N raw sc tg e m := by
  unfold cI at w
  split at w
  · rename_i a ha
    obtain ⟨p, q, rfl⟩ := pairArgs_l ha
    obtain ⟨_, g1, w⟩ := bd w
    obtain ⟨_, g2, w⟩ := bd w
    obtain ⟨_, g3, w⟩ := bd w
    obtain ⟨m1, hm, w⟩ := bd w
    cases w
    obtain ⟨_, _, _, rfl⟩ := isTup_eq (gdt g1)
    exact ok_enum (gdt g2) (gdt g3) (h _ _ hm)
  · rename_i a b ha
    obtain ⟨p, q, rfl⟩ := pairArgs_r ha
    exact cZ_ok h w
  · exact cIr_ok h w
/-- targets -/
def cTs (f : Expr → Option MT) : List Expr → Option MTs
  | [] => some .nil
  | x :: r => (gd (notStar x)).bind fun _ => (f x).bind fun m => (cTs f r).bind fun ms => some (.cons m ms)
theorem cTs_ok {f : Expr → Option MT} (h : ∀ e m, f e = some m → OkT C N raw sc e m) : ∀ {es : List Expr} {ms : MTs}, cTs f es = some ms → OkTs C N raw sc es ms ∧ es.all notStar = true
  | [], ms, e => by
    cases e
    exact ⟨ok_tnil, rfl⟩
  | x :: r, ms, e => by
    unfold cTs at e
    obtain ⟨_, g, e⟩ := bd e
    obtain ⟨m, hm, e⟩ := bd e
    obtain ⟨ms', hr, e⟩ := bd e
    cases e
    obtain ⟨h1, h2⟩ := cTs_ok h hr
    exact ⟨ok_tcons (h _ _ hm) h1 (gdt g), by simp [gdt g, h2]⟩
def cT (N : List Str) (raw sc : Scope) (fe : Expr → Option ME) (ft : Expr → Option MT) : Expr → Option MT
  | .Name x _ => (gd (storeB raw sc x)).bind fun _ => (fnd N x).bind fun i => some (.name i)
  | .Tuple es _ _ => (cTs ft es).bind fun ts => some (.tup ts)
  | .Subscript (.Name x _) b _ => (gd (notSlice b)).bind fun _ => (gd (visB sc x)).bind fun _ => (gd (okN x)).bind fun _ => (fnd N x).bind fun i => (fe b).bind fun m => some (.sub i m)
  | _ => none
theorem cT_ok {fe : Expr → Option ME} {ft : Expr → Option MT} (he : ∀ e m, fe e = some m → OkE C N raw sc e m) (ht : ∀ e m, ft e = some m → OkT C N raw sc e m) {e : Expr} {m : MT} (w : cT N raw sc fe ft e = some m) : OkT C N raw sc e m := by
  unfold cT at w
  split at w
  · obtain ⟨_, g1, w⟩ := bd w
    obtain ⟨i, hi, w⟩ := bd w
    cases w
    exact ok_tname (fnd_get hi) (gdt g1)
  · obtain ⟨ts, hi, w⟩ := bd w
    cases w
    obtain ⟨h1, h2⟩ := cTs_ok ht hi
    exact ok_ttup h1 h2
  · obtain ⟨_, g1, w⟩ := bd w
    obtain ⟨_, g2, w⟩ := bd w
    obtain ⟨_, g3, w⟩ := bd w
    obtain ⟨i, hi, w⟩ := bd w
    obtain ⟨m1, hm, w⟩ := bd w
    cases w
    exact ok_tsub (gdt g1) (fnd_get hi) (gdt g2) (gdt g3) (he _ _ hm)
  · cases w
/-- comprehensions -/
def ownOf (N : List Str) (scope : Scope) : Option (List (Str × Nat)) := some (scope.names.filterMap fun (n, k) => if k == .local || k == .cell then (match fnd N n with
  | some i => some (n, i)
  | none => none) else none)
def cLc (c : Cmp) (N : List Str) (raw sc : Scope) (elt : Expr) (scope : Scope) (tg iter : Expr) (ifs : List Expr) : Option ME :=
  (ownOf N scope).bind fun own => (gd (blkC N sc scope own)).bind fun _ => (gd (notSet iter)).bind fun _ => (cI (c.e raw sc) sc tg iter).bind fun mi => (c.t scope (relS scope sc) tg).bind fun mt => (gd ((tgs mt).all fun i => (own.map (·.2)).contains i)).bind fun _ =>
  (c.e scope (relS scope sc) elt).bind fun me => match ifs with
  | [] => some (.comp (own.map (·.2)) mt mi (.cst (.bool true)) me)
  | [x] => (c.e scope (relS scope sc) x).bind fun mc => some (.comp (own.map (·.2)) mt mi mc me)
  | _ => none
theorem all_in {l m : List Nat} (h : (l.all fun i => m.contains i) = true) : ∀ i ∈ l, i ∈ m := fun i hi => by
  have := List.all_eq_true.mp h i hi
  simpa using this
theorem cLc_ok {c : Cmp} (h : Cmp.Ok C N c) {elt tg iter : Expr} {ifs : List Expr} {scope : Scope} {pos : Pos} {m : ME} (w : cLc c N raw sc elt scope tg iter ifs = some m) : OkE C N raw sc (.ListComp elt [⟨tg, iter, ifs, 0⟩] scope pos) m := by
  unfold cLc at w
  obtain ⟨own, _, w⟩ := bd w
  obtain ⟨_, g1, w⟩ := bd w
  obtain ⟨_, g2, w⟩ := bd w
  obtain ⟨mi, hi, w⟩ := bd w
  obtain ⟨mt, ht, w⟩ := bd w
  obtain ⟨_, g3, w⟩ := bd w
  obtain ⟨me, he, w⟩ := bd w
  split at w
  · cases w
    exact ok_comp (cI_ok (h.e _ _) hi) (h.t _ _ _ _ ht) (h.e _ _ _ _ he) (gdt g1) (all_in (gdt g3)) (gdt g2)
  · obtain ⟨mc, hc, w⟩ := bd w
    cases w
    exact ok_compIf (cI_ok (h.e _ _) hi) (h.t _ _ _ _ ht) (h.e _ _ _ _ hc) (h.e _ _ _ _ he) (gdt g1) (all_in (gdt g3)) (gdt g2)
  · cases w
/-- x.index(e), x.index(e, e2), x.count(e) -/
def cIx (f : Expr → Option ME) (o : Expr) (y : Str) (b : Bool) (as : List Expr) : Option ME :=
  (gd (recvB o)).bind fun _ => (gd b).bind fun _ => (f o).bind fun m => (cEs f as).bind fun ms =>
    if y = "index" then (gd (decide (as.length = 1 ∨ as.length = 2))).bind fun _ => some (.op .index (.cons (.tup (.cons m ms)) .nil))
    else (gd (decide (y = "count"))).bind fun _ => (gd (decide (as.length = 1))).bind fun _ => some (.op .count (.cons (.tup (.cons m ms)) .nil))
theorem cIx_ok {f : Expr → Option ME} (h : ∀ e m, f e = some m → OkE C N raw sc e m) {o : Expr} {y : Str} {as : List Expr} {p2 p3 : Pos} {m : ME} (w : cIx f o y (p2.endLine == p3.line) as = some m) : OkE C N raw sc (.Call (.Attribute o y p2) as [] p3) m := by
  unfold cIx at w
  obtain ⟨_, g1, wa⟩ := bd w
  obtain ⟨_, g2, wb⟩ := bd wa
  obtain ⟨m1, hm1, wc⟩ := bd wb
  obtain ⟨ms, hm, wd⟩ := bd wc
  clear w wa wb wc
  obtain ⟨h1, h2⟩ := cEs_ok h hm
  have hn := h _ _ hm1
  by_cases hy : y = "index"
  · rw [if_pos hy] at wd
    subst hy
    obtain ⟨u5, g5, w5⟩ := bd (x := gd (decide (as.length = 1 ∨ as.length = 2))) wd
    have w5' : some (ME.op Op.index (.cons (.tup (.cons m1 ms)) .nil)) = some m := w5
    cases w5'
    have g5 := of_decide_eq_true (gdt g5)
    match as, g5, h1, h2 with
    | [e], _, h1, h2 =>
      simp only [List.all_cons, List.all_nil, Bool.and_true] at h2
      exact ok_index1 (gdt g1) hn h2 (gdt g2) h1
    | [e, e2], _, h1, h2 =>
      simp only [List.all_cons, List.all_nil, Bool.and_true, Bool.and_eq_true] at h2
      exact ok_index2 (gdt g1) hn h2.1 h2.2 (gdt g2) h1
    | [], g, _, _ => simp at g
    | _ :: _ :: _ :: _, g, _, _ => simp at g
  · rw [if_neg hy] at wd
    obtain ⟨u4, g4, w4⟩ := bd (x := gd (decide (y = "count"))) wd
    obtain ⟨u5, g5, w5⟩ := bd (x := gd (decide (as.length = 1))) w4
    have w5' : some (ME.op Op.count (.cons (.tup (.cons m1 ms)) .nil)) = some m := w5
    cases w5'
    obtain rfl := of_decide_eq_true (gdt g4)
    have g5 := of_decide_eq_true (gdt g5)
    match as, g5, h1, h2 with
    | [e], _, h1, h2 =>
      simp only [List.all_cons, List.all_nil, Bool.and_true] at h2
      exact ok_count1 (gdt g1) hn h2 (gdt g2) h1
    | [], g, _, _ => simp at g
    | _ :: _ :: _, g, _, _ => simp at g
/-- "..".join(e) -/
def cJn (f : Expr → Option ME) (k : Const) (y : Str) (b : Bool) (as : List Expr) : Option ME :=
  (gd (decide (y = "join"))).bind fun _ => (gd b).bind fun _ => (cC k).bind fun d => (gd (decide (as.length = 1))).bind fun _ => (cEs f as).bind fun ms => some (.op .join (.cons (.tup (.cons (.cst d) ms)) .nil))
theorem cJn_ok {f : Expr → Option ME} (h : ∀ e m, f e = some m → OkE C N raw sc e m) {k : Const} {n : Nat} {y : Str} {as : List Expr} {p1 p2 p3 : Pos} {m : ME} (w : cJn f k y (p2.endLine == p3.line) as = some m) : OkE C N raw sc (.Call (.Attribute (.Constant k n p1) y p2) as [] p3) m := by
  unfold cJn at w
  obtain ⟨_, g1, w⟩ := bd w
  obtain ⟨_, g2, w⟩ := bd w
  obtain ⟨d, hd, w⟩ := bd w
  obtain ⟨_, g5, w⟩ := bd w
  obtain ⟨ms, hm, w⟩ := bd w
  cases w
  obtain rfl := of_decide_eq_true (gdt g1)
  have g5 := of_decide_eq_true (gdt g5)
  obtain ⟨h1, h2⟩ := cEs_ok h hm
  match as, g5, h1, h2 with
  | [e], _, h1, h2 =>
    simp only [List.all_cons, List.all_nil, Bool.and_true] at h2
    exact ok_join (ok_const hd) h2 (gdt g2) h1
  | [], g, _, _ => simp at g
  | _ :: _ :: _, g, _, _ => simp at g
def cE (C : Defs) (N : List Str) (c : Cmp) (raw sc : Scope) : Expr → Option ME
  | .Name x _ => (gd (okN x)).bind fun _ => if visB sc x then (fnd N x).bind fun i => some (.var i) else (gd (glB sc x)).bind fun _ => (C.gl.lookup x).bind fun d => some (.cst d)
  | .Constant k _ _ => (cC k).bind fun d => some (.cst d)
  | .Tuple es _ _ => (cEs (c.e raw sc) es).bind fun ms => some (.tup ms)
  | .List es _ => (cEs (c.e raw sc) es).bind fun ms => some (.lst ms)
  | .Dict [] [] _ => some (.dic .nil)
  | .Dict (k :: ks) vs _ => (gd (decide ((k :: ks).length ≤ 15))).bind fun _ => (cPs (c.e raw sc) (k :: ks) vs).bind fun ms => some (.dic ms)
  | .BinOp a op b _ => (cBin op).bind fun o => (c.e raw sc a).bind fun m => (c.e raw sc b).bind fun n => some (.op o (.cons m (.cons n .nil)))
  | .UnaryOp .USub a _ => (c.e raw sc a).bind fun m => some (.op .neg (.cons m .nil))
  | .UnaryOp .Not a _ => (c.e raw sc a).bind fun m => some (.not m)
  | .BoolOp op es _ => cBo (c.e raw sc) op es
  | .Compare a [op] [b] _ => cCp (c.e raw sc) a b op
  | .Compare a [op1, op2] [b, d] _ => (cCmp op1).bind fun o1 => (cCmp op2).bind fun o2 => (gd (notSet d)).bind fun _ => (c.e raw sc a).bind fun m => (c.e raw sc b).bind fun n => (c.e raw sc d).bind fun l => some (.chain o1 o2 m n l)
  | .Compare a [op1, op2, op3] [b, d, g] _ => (cCmp op1).bind fun o1 => (cCmp op2).bind fun o2 => (cCmp op3).bind fun o3 => (gd (notSet g)).bind fun _ => (c.e raw sc a).bind fun m => (c.e raw sc b).bind fun n => (c.e raw sc d).bind fun l => (c.e raw sc g).bind fun o => some (.chain3 o1 o2 o3 m n l o)
  | .Subscript a (.Slice none none (some (.UnaryOp .USub (.Constant (.int 1) _ _) _)) _) _ => (c.e raw sc a).bind fun m => some (.op .rev (.cons m .nil))
  | .Subscript a (.Slice lo hi none _) _ => (c.e raw sc a).bind fun m => (cOp (c.e raw sc) lo).bind fun l => (cOp (c.e raw sc) hi).bind fun h => some (.slc l.1 h.1 m l.2 h.2)
  | .Subscript a b _ => (gd (notSlice b)).bind fun _ => (c.e raw sc a).bind fun m => (c.e raw sc b).bind fun n => some (.op .idx (.cons m (.cons n .nil)))
  | .Call (.Name x _) as [] _ => cCall (c.e raw sc) C sc x as
  | .Call (.Attribute (.Constant k _ _) y p2) as [] p3 => cJn (c.e raw sc) k y (p2.endLine == p3.line) as
  | .Call (.Attribute o y p2) as [] p3 => cIx (c.e raw sc) o y (p2.endLine == p3.line) as
  | .ListComp elt [⟨tg, iter, ifs, 0⟩] scope _ => cLc c N raw sc elt scope tg iter ifs
  | _ => none
theorem cE_ok {c : Cmp} (h : Cmp.Ok C N c) {e : Expr} {m : ME} (w : cE C N c raw sc e = some m) : OkE C N raw sc e m := by
  have he := h.e raw sc
  unfold cE at w
  split at w
  · obtain ⟨_, g2, w⟩ := bd w
    split at w
    · rename_i g1
      obtain ⟨i, hi, w⟩ := bd w
      cases w
      exact ok_name (fnd_get hi) g1 (gdt g2)
    · obtain ⟨_, g1, w⟩ := bd w
      obtain ⟨d, hd, w⟩ := bd w
      cases w
      exact ok_glob hd (gdt g1) (gdt g2)
  · obtain ⟨d, hd, w⟩ := bd w
    cases w
    exact ok_const hd
  · obtain ⟨ms, hm, w⟩ := bd w
    cases w
    exact ok_tup (cEs_ok he hm).1
  · obtain ⟨ms, hm, w⟩ := bd w
    cases w
    exact ok_lst (cEs_ok he hm).1
  · cases w
    exact ok_dic0
  · obtain ⟨_, g, w⟩ := bd w
    obtain ⟨ms, hm, w⟩ := bd w
    cases w
    obtain ⟨h1, h2, h3⟩ := cPs_ok he hm
    exact ok_dic h1 h2 h3 (of_decide_eq_true (gdt g)) (by simp)
  · obtain ⟨o, ho, w⟩ := bd w
    obtain ⟨m1, hm, w⟩ := bd w
    obtain ⟨n, hn, w⟩ := bd w
    cases w
    exact ok_bin ho (he _ _ hm) (he _ _ hn)
  · obtain ⟨m1, hm, w⟩ := bd w
    cases w
    exact ok_neg (he _ _ hm)
  · obtain ⟨m1, hm, w⟩ := bd w
    cases w
    exact ok_not (he _ _ hm)
  · exact ok_bool (cBo_ok he w)
  · exact cCp_ok he w
  · obtain ⟨o1, ho1, w⟩ := bd w
    obtain ⟨o2, ho2, w⟩ := bd w
    obtain ⟨_, g, w⟩ := bd w
    obtain ⟨m1, hm, w⟩ := bd w
    obtain ⟨n, hn, w⟩ := bd w
    obtain ⟨l, hl, w⟩ := bd w
    cases w
    exact ok_chain ho1 ho2 (he _ _ hm) (he _ _ hn) (he _ _ hl) (gdt g)
  · obtain ⟨o1, ho1, w⟩ := bd w
    obtain ⟨o2, ho2, w⟩ := bd w
    obtain ⟨o3, ho3, w⟩ := bd w
    obtain ⟨_, g, w⟩ := bd w
    obtain ⟨m1, hm, w⟩ := bd w
    obtain ⟨n, hn, w⟩ := bd w
    obtain ⟨l, hl, w⟩ := bd w
    obtain ⟨o, ho, w⟩ := bd w
    cases w
    exact ok_chain3 ho1 ho2 ho3 (he _ _ hm) (he _ _ hn) (he _ _ hl) (he _ _ ho) (gdt g)
  · obtain ⟨m1, hm, w⟩ := bd w
    cases w
    exact ok_rev (he _ _ hm)
  · obtain ⟨m1, hm, w⟩ := bd w
    obtain ⟨l, hl, w⟩ := bd w
    obtain ⟨hh, hhl, w⟩ := bd w
    cases w
    exact ok_slice (he _ _ hm) (cOp_ok he hl) (cOp_ok he hhl)
  · obtain ⟨_, g, w⟩ := bd w
    obtain ⟨m1, hm, w⟩ := bd w
    obtain ⟨n, hn, w⟩ := bd w
    cases w
    exact ok_idx (he _ _ hm) (he _ _ hn) (gdt g)
  · exact cCall_ok he w
  · exact cJn_ok he w
  · exact cIx_ok he w
  · exact cLc_ok h w
  · cases w
end
def cmp0 : Cmp := ⟨fun _ _ _ => none, fun _ _ _ => none⟩
def cmpS (C : Defs) (N : List Str) (c : Cmp) : Cmp := ⟨cE C N c, fun raw sc => cT N raw sc (c.e raw sc) (c.t raw sc)⟩
def cmp (C : Defs) (N : List Str) : Nat → Cmp
  | 0 => cmp0
  | n + 1 => cmpS C N (cmp C N n)
theorem cmp_ok {C : Defs} {N : List Str} : ∀ n, Cmp.Ok C N (cmp C N n)
  | 0 => ⟨fun _ _ _ _ h => (by cases h), fun _ _ _ _ h => (by cases h)⟩
  | n + 1 => ⟨fun raw sc e m h => cE_ok (cmp_ok n) h, fun raw sc e m h => cT_ok ((cmp_ok n).e raw sc) ((cmp_ok n).t raw sc) h⟩
end Tw

set_option linter.all false
set_option maxRecDepth 100000
set_option maxHeartbeats 8000000
set_option autoImplicit false
/-! Statements compiled. -/
namespace Tw
open PySem PySem.Spec PyProof.Rows L2
section
variable {C : Defs} {N : List Str} {sc : Scope}
structure CmpT where
  s : Stmt → Option MS
def CmpT.Ok (C : Defs) (N : List Str) (sc : Scope) (c : CmpT) : Prop := ∀ s m, c.s s = some m → OkS C N sc s m
def cB (f : Stmt → Option MS) : List Stmt → Option MSs
  | [] => some .nil
  | x :: r => (f x).bind fun m => (cB f r).bind fun ms => some (.cons m ms)
theorem cB_ok {f : Stmt → Option MS} (h : ∀ s m, f s = some m → OkS C N sc s m) : ∀ {b : List Stmt} {m : MSs}, cB f b = some m → OkSs C N sc b m
  | [], m, e => by
    cases e
    exact oks_nil
  | x :: r, m, e => by
    unfold cB at e
    obtain ⟨m1, hm, e⟩ := bd e
    obtain ⟨ms, hr, e⟩ := bd e
    cases e
    exact oks_cons (h _ _ hm) (cB_ok h hr)
/-- x.append(e) -/
def appArgs : Expr → Option (Str × Expr)
  | .Call (.Attribute (.Name x _) a p2) [e] [] p3 => if a = "append" ∧ p2.endLine = p3.line then some (x, e) else none
  | _ => none
theorem appArgs_eq {c : Expr} {x : Str} {e : Expr} (h : appArgs c = some (x, e)) : ∃ p1 p2 p3, c = .Call (.Attribute (.Name x p1) "append" p2) [e] [] p3 ∧ (p2.endLine == p3.line) = true := by
  unfold appArgs at h
  split at h
  · split at h
    · rename_i g
      cases h
      obtain ⟨rfl, g⟩ := g
      exact ⟨_, _, _, rfl, by simp [g]⟩
    · cases h
  · cases h
/-- x.insert(a, e), x.reverse(), x.extend(e) -/
inductive MutA where
  | ins (x : Str) (a e : Expr) | rev (x : Str) | ext (x : Str) (e : Expr)
def mutArgs : Expr → Option MutA
  | .Call (.Attribute (.Name x _) a p2) [e1, e2] [] p3 => if a = "insert" ∧ p2.endLine = p3.line then some (.ins x e1 e2) else none
  | .Call (.Attribute (.Name x _) a p2) [] [] p3 => if a = "reverse" ∧ p2.endLine = p3.line then some (.rev x) else none
  | .Call (.Attribute (.Name x _) a p2) [e] [] p3 => if a = "extend" ∧ p2.endLine = p3.line then some (.ext x e) else none
  | _ => none
def MutA.is : MutA → Expr → Prop
  | .ins x a e, c => ∃ p1 p2 p3, c = .Call (.Attribute (.Name x p1) "insert" p2) [a, e] [] p3 ∧ (p2.endLine == p3.line) = true
  | .rev x, c => ∃ p1 p2 p3, c = .Call (.Attribute (.Name x p1) "reverse" p2) [] [] p3 ∧ (p2.endLine == p3.line) = true
  | .ext x e, c => ∃ p1 p2 p3, c = .Call (.Attribute (.Name x p1) "extend" p2) [e] [] p3 ∧ (p2.endLine == p3.line) = true
theorem mutArgs_eq {c : Expr} {m : MutA} (h : mutArgs c = some m) : m.is c := by
  unfold mutArgs at h
  split at h
  · split at h
    · rename_i g
      cases h
      obtain ⟨rfl, g⟩ := g
      exact ⟨_, _, _, rfl, by simp [g]⟩
    · cases h
  · split at h
    · rename_i g
      cases h
      obtain ⟨rfl, g⟩ := g
      exact ⟨_, _, _, rfl, by simp [g]⟩
    · cases h
  · split at h
    · rename_i g
      cases h
      obtain ⟨rfl, g⟩ := g
      exact ⟨_, _, _, rfl, by simp [g]⟩
    · cases h
  · cases h
def cMut (fe : Expr → Option ME) (N : List Str) (sc : Scope) : MutA → Option MS
  | .ins x a e => (gd (visB sc x)).bind fun _ => (gd (okN x)).bind fun _ => (gd (notStar a)).bind fun _ => (gd (notStar e)).bind fun _ => (fnd N x).bind fun i => (fe a).bind fun m => (fe e).bind fun n => some (.mut .insert i (.cons m (.cons n .nil)))
  | .rev x => (gd (visB sc x)).bind fun _ => (gd (okN x)).bind fun _ => (fnd N x).bind fun i => some (.mut .reverse i .nil)
  | .ext x e => (gd (visB sc x)).bind fun _ => (gd (okN x)).bind fun _ => (gd (notStar e)).bind fun _ => (fnd N x).bind fun i => (fe e).bind fun n => some (.ext i n)
theorem cMut_ok {fe : Expr → Option ME} (h : ∀ e m, fe e = some m → OkE C N sc sc e m) {a : MutA} {c : Expr} {p : Pos} {m : MS} (ha : a.is c) (w : cMut fe N sc a = some m) : OkS C N sc (.Expr c p) m := by
  cases a with
  | ins x a e =>
    obtain ⟨p1, p2, p3, rfl, hl⟩ := ha
    obtain ⟨_, g1, w⟩ := bd w
    obtain ⟨_, g2, w⟩ := bd w
    obtain ⟨_, g3, w⟩ := bd w
    obtain ⟨_, g4, w⟩ := bd w
    obtain ⟨i, hi, w⟩ := bd w
    obtain ⟨m1, hm, w⟩ := bd w
    obtain ⟨m2, hm2, w⟩ := bd w
    cases w
    exact oks_insert (h _ _ hm) (h _ _ hm2) (fnd_get hi) (gdt g1) (gdt g2) (gdt g3) (gdt g4) hl
  | rev x =>
    obtain ⟨p1, p2, p3, rfl, hl⟩ := ha
    obtain ⟨_, g1, w⟩ := bd w
    obtain ⟨_, g2, w⟩ := bd w
    obtain ⟨i, hi, w⟩ := bd w
    cases w
    exact oks_reverse (fnd_get hi) (gdt g1) (gdt g2) hl
  | ext x e =>
    obtain ⟨p1, p2, p3, rfl, hl⟩ := ha
    obtain ⟨_, g1, w⟩ := bd w
    obtain ⟨_, g2, w⟩ := bd w
    obtain ⟨_, g3, w⟩ := bd w
    obtain ⟨i, hi, w⟩ := bd w
    obtain ⟨m1, hm, w⟩ := bd w
    cases w
    exact oks_ext (h _ _ hm) (fnd_get hi) (gdt g1) (gdt g2) (gdt g3) hl
def cExpr (fe : Expr → Option ME) (N : List Str) (sc : Scope) (e : Expr) : Option MS := match mutArgs e with
  | some a => cMut fe N sc a
  | none => match appArgs e with
    | some (x, a) => (gd (visB sc x)).bind fun _ => (gd (okN x)).bind fun _ => (gd (notStar a)).bind fun _ => (fnd N x).bind fun i => (fe a).bind fun m => some (.mut .append i (.cons m .nil))
    | none => (gd (notComp e)).bind fun _ => (fe e).bind fun m => some (.expr m)
theorem cExpr_ok {fe : Expr → Option ME} (h : ∀ e m, fe e = some m → OkE C N sc sc e m) {e : Expr} {p : Pos} {m : MS} (w : cExpr fe N sc e = some m) : OkS C N sc (.Expr e p) m := by
  unfold cExpr at w
  split at w
  · rename_i a ha
    exact cMut_ok h (mutArgs_eq ha) w
  · split at w
    · rename_i x a ha
      obtain ⟨p1, p2, p3, rfl, hl⟩ := appArgs_eq ha
      obtain ⟨_, g1, w⟩ := bd w
      obtain ⟨_, g2, w⟩ := bd w
      obtain ⟨_, g3, w⟩ := bd w
      obtain ⟨i, hi, w⟩ := bd w
      obtain ⟨m1, hm, w⟩ := bd w
      cases w
      exact oks_append (h _ _ hm) (fnd_get hi) (gdt g1) (gdt g2) (gdt g3) hl
    · obtain ⟨_, g1, w⟩ := bd w
      obtain ⟨m1, hm, w⟩ := bd w
      cases w
      exact oks_expr (h _ _ hm) (gdt g1)
structure LcT where
  elt : Expr
  tg : Expr
  iter : Expr
  ifs : List Expr
  scope : Scope
  pos : Pos
def lcOf : Expr → Option LcT
  | .ListComp elt [⟨tg, iter, ifs, 0⟩] scope pos => some ⟨elt, tg, iter, ifs, scope, pos⟩
  | _ => none
theorem lcOf_eq {e : Expr} {l : LcT} (h : lcOf e = some l) : e = .ListComp l.elt [⟨l.tg, l.iter, l.ifs, 0⟩] l.scope l.pos := by
  unfold lcOf at h
  split at h
  · cases h
    rfl
  · cases h
/-- the comprehension on its own name's line: what pe_setLc asks -/
def lcLine (sc : Scope) (x : Str) (p2 : Pos) (l : LcT) : Bool := locB sc x && (p2.line == l.pos.line) && !(l.scope.names.any fun (n, k) => n == x && (k == .local || k == .cell))
theorem cLc_asg {c : Cmp} (h : Cmp.Ok C N c) {elt tg iter : Expr} {ifs : List Expr} {scope : Scope} {pos p p2 : Pos} {m : ME} {x : Str} {i : Nat} (w : cLc c N sc sc elt scope tg iter ifs = some m) (hx : N[i]? = some x) (hl : locB sc x = true) (hli : (p2.line == pos.line) = true) (ha : (scope.names.any fun (n, k) => n == x && (k == .local || k == .cell)) = false) :
    OkS C N sc (.Assign [.Name x p2] (.ListComp elt [⟨tg, iter, ifs, 0⟩] scope pos) p) (.asg i m) := by
  unfold cLc at w
  obtain ⟨own, _, w⟩ := bd w
  obtain ⟨_, g1, w⟩ := bd w
  obtain ⟨_, g2, w⟩ := bd w
  obtain ⟨mi, hi, w⟩ := bd w
  obtain ⟨mt, ht, w⟩ := bd w
  obtain ⟨_, g3, w⟩ := bd w
  obtain ⟨me, he, w⟩ := bd w
  split at w
  · cases w
    exact oks_asgComp (cI_ok (h.e _ _) hi) (h.t _ _ _ _ ht) (h.e _ _ _ _ he) (gdt g1) (all_in (gdt g3)) (gdt g2) hx hl hli ha
  · obtain ⟨mc, hc, w⟩ := bd w
    cases w
    exact oks_asgCompIf (cI_ok (h.e _ _) hi) (h.t _ _ _ _ ht) (h.e _ _ _ _ hc) (h.e _ _ _ _ he) (gdt g1) (all_in (gdt g3)) (gdt g2) hx hl hli ha
  · cases w
def cSet (c : Cmp) (N : List Str) (sc : Scope) (x : Str) (p2 : Pos) (e : Expr) : Option MS := (fnd N x).bind fun i => match lcOf e with
  | some l => if lcLine sc x p2 l then (cLc c N sc sc l.elt l.scope l.tg l.iter l.ifs).bind fun m => some (.asg i m) else
    (gd (cellB sc x)).bind fun _ => (c.e sc sc e).bind fun m => some (.asg i m)
  | none => (gd (storeB sc sc x)).bind fun _ => (gd (notComp e)).bind fun _ => (c.e sc sc e).bind fun m => some (.asg i m)
theorem cSet_ok {c : Cmp} (h : Cmp.Ok C N c) {x : Str} {e : Expr} {p p2 : Pos} {m : MS} (w : cSet c N sc x p2 e = some m) : OkS C N sc (.Assign [.Name x p2] e p) m := by
  unfold cSet at w
  obtain ⟨i, hi, w⟩ := bd w
  have hx := fnd_get hi
  split at w
  · rename_i l hl
    rw [lcOf_eq hl] at w ⊢
    split at w
    · rename_i g
      simp only [lcLine, Bool.and_eq_true, Bool.not_eq_true'] at g
      obtain ⟨⟨g1, g2⟩, g3⟩ := g
      obtain ⟨m1, hm, w⟩ := bd w
      cases w
      exact cLc_asg h hm hx g1 g2 g3
    · obtain ⟨_, g1, w⟩ := bd w
      obtain ⟨m1, hm, w⟩ := bd w
      cases w
      exact oks_asgCell (h.e _ _ _ _ hm) hx (gdt g1)
  · obtain ⟨_, g1, w⟩ := bd w
    obtain ⟨_, g2, w⟩ := bd w
    obtain ⟨m1, hm, w⟩ := bd w
    cases w
    exact oks_asg (h.e _ _ _ _ hm) hx (gdt g1) (gdt g2)
/-- x, y = a, b -/
structure ParT where
  x : Str
  px : Pos
  y : Str
  py : Pos
  a : Expr
  b : Expr
  k : Nat
  p : Pos
  k2 : Nat
  p2 : Pos
def parOf : Expr → Expr → Option ParT
  | .Tuple [.Name x px, .Name y py] k p, .Tuple [a, b] k2 p2 => some ⟨x, px, y, py, a, b, k, p, k2, p2⟩
  | _, _ => none
theorem parOf_eq {t e : Expr} {l : ParT} (h : parOf t e = some l) : t = .Tuple [.Name l.x l.px, .Name l.y l.py] l.k l.p ∧ e = .Tuple [l.a, l.b] l.k2 l.p2 := by
  unfold parOf at h
  split at h
  · cases h
    exact ⟨rfl, rfl⟩
  · cases h
def parB (sc : Scope) (l : ParT) : Bool := locB sc l.x && locB sc l.y && (l.py.line == l.px.line) && decide (l.x ≠ l.y) && notStar l.a && notStar l.b && !([l.a, l.b].all (foldedForSure 8)) && !([l.a, l.b].all (constantsAlone 8))
/-- not exchanged on the way -/
def freeB (sc : Scope) : Expr → Expr → Bool
  | .Subscript _ _ _, _ => true
  | .Tuple ts _ _, .Tuple vs _ _ => !((plainNames sc ((ts.head?.map (·.pos.line)).getD 0) ts).length == ts.length) || vs.all (foldedForSure 8)
  | _, e => notTup e
theorem freeB_ok {t e : Expr} (h : freeB sc t e = true) (env : Env) (hs : env.scope = sc) : swappedStores [t] e env = pure none := by
  unfold freeB at h
  split at h
  · exact no_swap1 (.inr rfl) env hs
  · rw [Bool.or_eq_true] at h
    rcases h with h | h
    · exact no_swap2 (by simpa using h) env hs
    · exact no_swap3 h env hs
  · exact no_swap1 (.inl h) env hs
def isPar (sc : Scope) (t e : Expr) : Option ParT := (parOf t e).bind fun l => if parB sc l then some l else none
/-- x, y, z = a, b, c -/
structure ParT3 where
  x : Str
  px : Pos
  y : Str
  py : Pos
  z : Str
  pz : Pos
  a : Expr
  b : Expr
  c : Expr
  k : Nat
  p : Pos
  k2 : Nat
  p2 : Pos
def parOf3 : Expr → Expr → Option ParT3
  | .Tuple [.Name x px, .Name y py, .Name z pz] k p, .Tuple [a, b, c] k2 p2 => some ⟨x, px, y, py, z, pz, a, b, c, k, p, k2, p2⟩
  | _, _ => none
theorem parOf3_eq {t e : Expr} {l : ParT3} (h : parOf3 t e = some l) : t = .Tuple [.Name l.x l.px, .Name l.y l.py, .Name l.z l.pz] l.k l.p ∧ e = .Tuple [l.a, l.b, l.c] l.k2 l.p2 := by
  unfold parOf3 at h
  split at h
  · cases h
    exact ⟨rfl, rfl⟩
  · cases h
def parB3 (sc : Scope) (l : ParT3) : Bool := locB sc l.x && locB sc l.y && locB sc l.z && (l.py.line == l.px.line) && (l.pz.line == l.px.line) && decide (l.x ≠ l.y) && decide (l.x ≠ l.z) && decide (l.y ≠ l.z) && notStar l.a && notStar l.b && notStar l.c && !([l.a, l.b, l.c].all (foldedForSure 8)) && !([l.a, l.b, l.c].all (constantsAlone 8))
def isPar3 (sc : Scope) (t e : Expr) : Option ParT3 := (parOf3 t e).bind fun l => if parB3 sc l then some l else none
def cTo (c : Cmp) (N : List Str) (sc : Scope) (t e : Expr) : Option MS := match isPar sc t e with
  | some l => (fnd N l.x).bind fun i => (fnd N l.y).bind fun j => (gd (!(i == j))).bind fun _ => (c.e sc sc l.a).bind fun m => (c.e sc sc l.b).bind fun n => some (.asgT (.tup (.cons (.name i) (.cons (.name j) .nil))) (.tup (.cons m (.cons n .nil))))
  | none => match isPar3 sc t e with
    | some l => (fnd N l.x).bind fun i => (fnd N l.y).bind fun j => (fnd N l.z).bind fun o => (gd (!(i == j) && !(i == o) && !(j == o))).bind fun _ => (c.e sc sc l.a).bind fun m => (c.e sc sc l.b).bind fun n => (c.e sc sc l.c).bind fun q => some (.asgT (.tup (.cons (.name i) (.cons (.name j) (.cons (.name o) .nil)))) (.tup (.cons m (.cons n (.cons q .nil)))))
    | none => (gd (notStar t)).bind fun _ => (gd (notComp e)).bind fun _ => (gd (freeB sc t e)).bind fun _ => (c.t sc sc t).bind fun mt => (c.e sc sc e).bind fun m => some (.asgT mt m)
theorem cTo_ok {c : Cmp} (h : Cmp.Ok C N c) {t e : Expr} {p : Pos} {m : MS} (w : cTo c N sc t e = some m) : OkS C N sc (.Assign [t] e p) m := by
  unfold cTo at w
  split at w
  · rename_i l hl
    unfold isPar at hl
    obtain ⟨l', hl', hl⟩ := bd hl
    split at hl
    · rename_i g
      cases hl
      obtain ⟨rfl, rfl⟩ := parOf_eq hl'
      simp only [parB, Bool.and_eq_true, Bool.not_eq_true', decide_eq_true_eq] at g
      obtain ⟨⟨⟨⟨⟨⟨⟨g1, g2⟩, g3⟩, g4⟩, g5⟩, g6⟩, g7⟩, g8⟩ := g
      obtain ⟨i, hi, w⟩ := bd w
      obtain ⟨j, hj, w⟩ := bd w
      obtain ⟨_, g, w⟩ := bd w
      obtain ⟨m1, hm, w⟩ := bd w
      obtain ⟨n, hn, w⟩ := bd w
      cases w
      exact oks_par (ok_cons (h.e _ _ _ _ hm) (ok_cons (h.e _ _ _ _ hn) ok_nil g6) g5) (fnd_get hi) (fnd_get hj) (by simpa using gdt g) g1 g2 g3 g4 g5 g6 g7 g8
    · cases hl
  · split at w
    · rename_i l hl
      unfold isPar3 at hl
      obtain ⟨l', hl', hl⟩ := bd hl
      split at hl
      · rename_i g
        cases hl
        obtain ⟨rfl, rfl⟩ := parOf3_eq hl'
        simp only [parB3, Bool.and_eq_true, Bool.not_eq_true', decide_eq_true_eq] at g
        obtain ⟨⟨⟨⟨⟨⟨⟨⟨⟨⟨⟨⟨g1, g2⟩, g3⟩, g4⟩, g5⟩, g6⟩, g7⟩, g8⟩, g9⟩, g10⟩, g11⟩, g12⟩, g13⟩ := g
        obtain ⟨i, hi, w⟩ := bd w
        obtain ⟨j, hj, w⟩ := bd w
        obtain ⟨o, ho, w⟩ := bd w
        obtain ⟨_, g, w⟩ := bd w
        obtain ⟨m1, hm, w⟩ := bd w
        obtain ⟨n, hn, w⟩ := bd w
        obtain ⟨q, hq, w⟩ := bd w
        cases w
        have g := gdt g
        simp only [Bool.and_eq_true, Bool.not_eq_true', beq_eq_false_iff_ne, ne_eq] at g
        exact oks_par3 (ok_cons (h.e _ _ _ _ hm) (ok_cons (h.e _ _ _ _ hn) (ok_cons (h.e _ _ _ _ hq) ok_nil g11) g10) g9) (fnd_get hi) (fnd_get hj) (fnd_get ho) g.1.1 g.1.2 g.2 g1 g2 g3 g4 g5 g6 g7 g8 g9 g10 g11 g12 g13
      · cases hl
    · obtain ⟨_, g1, w⟩ := bd w
      obtain ⟨_, g2, w⟩ := bd w
      obtain ⟨_, g3, w⟩ := bd w
      obtain ⟨mt, ht, w⟩ := bd w
      obtain ⟨m1, hm, w⟩ := bd w
      cases w
      exact oks_asgT (h.e _ _ _ _ hm) (h.t _ _ _ _ ht) (gdt g2) (gdt g1) (freeB_ok (gdt g3))
/-- lists that are walked while they stay the caller's -/
def liveB : Expr → Expr → Bool
  | .Name x _, .Name y _ => x == ("_law_day" : Str) && y == ("_law_found" : Str)
  | _, _ => false
def cS (c : Cmp) (N : List Str) (sc : Scope) (f : Stmt → Option MS) : Stmt → Option MS
  | .Expr e _ => cExpr (c.e sc sc) N sc e
  | .Assign [.Name x p2] e _ => cSet c N sc x p2 e
  | .Assign [t] e _ => cTo c N sc t e
  | .Return (some e) _ => (c.e sc sc e).bind fun m => some (.ret m)
  | .Return none _ => some .retN
  | .If q a b _ => (c.e sc sc q).bind fun mq => (cB f a).bind fun ma => (cB f b).bind fun mb => some (.ite mq ma mb)
  | .While q a [] _ => (c.e sc sc q).bind fun mq => (cB f a).bind fun ma => some (.while mq ma)
  | .For t i a [] _ => (gd (notSet i)).bind fun _ => if liveB t i = true then (c.e sc sc i).bind fun m => (c.t sc sc t).bind fun mt => (cB f a).bind fun ma => (match m with
      | .var n => some (.forL mt n ma)
      | _ => none)
    else (cI (c.e sc sc) sc t i).bind fun mi => (c.t sc sc t).bind fun mt => (cB f a).bind fun ma => some (.for mt mi ma)
  | .Pass _ => some .pass
  | .Break _ => some .brk
  | .Continue _ => some .cont
  | .Raise _ _ _ => some .stuck
  | .Try _ _ _ _ _ => some .stuck
  | _ => none
theorem cS_ok {c : Cmp} (h : Cmp.Ok C N c) {f : Stmt → Option MS} (hf : ∀ s m, f s = some m → OkS C N sc s m) {s : Stmt} {m : MS} (w : cS c N sc f s = some m) : OkS C N sc s m := by
  have he := h.e sc sc
  unfold cS at w
  split at w
  · exact cExpr_ok he w
  · exact cSet_ok h w
  · exact cTo_ok h w
  · obtain ⟨m1, hm, w⟩ := bd w
    cases w
    exact oks_ret (he _ _ hm)
  · cases w
    exact oks_retN
  · obtain ⟨mq, hq, w⟩ := bd w
    obtain ⟨ma, ha, w⟩ := bd w
    obtain ⟨mb, hb, w⟩ := bd w
    cases w
    exact oks_if (he _ _ hq) (cB_ok hf ha) (cB_ok hf hb)
  · obtain ⟨mq, hq, w⟩ := bd w
    obtain ⟨ma, ha, w⟩ := bd w
    cases w
    exact oks_while (he _ _ hq) (cB_ok hf ha)
  · obtain ⟨_, g, w⟩ := bd w
    split at w
    · obtain ⟨m1, hm, w⟩ := bd w
      obtain ⟨mt, ht, w⟩ := bd w
      obtain ⟨ma, ha, w⟩ := bd w
      split at w
      · cases w
        exact oks_forL (he _ _ hm) (h.t _ _ _ _ ht) (cB_ok hf ha) (gdt g)
      · cases w
    obtain ⟨mi, hi, w⟩ := bd w
    obtain ⟨mt, ht, w⟩ := bd w
    obtain ⟨ma, ha, w⟩ := bd w
    cases w
    exact oks_for (cI_ok he hi) (h.t _ _ _ _ ht) (cB_ok hf ha) (gdt g)
  · cases w
    exact oks_pass
  · cases w
    exact oks_brk
  · cases w
    exact oks_cont
  · cases w
    exact oks_stuck
  · cases w
    exact oks_stuck
  · cases w
end
def cmT (C : Defs) (N : List Str) (sc : Scope) (k : Nat) : Nat → Stmt → Option MS
  | 0 => fun _ => none
  | n + 1 => cS (cmp C N k) N sc (cmT C N sc k n)
theorem cmT_ok {C : Defs} {N : List Str} {sc : Scope} {k : Nat} : ∀ n s m, cmT C N sc k n s = some m → OkS C N sc s m
  | 0, _, _, h => by cases h
  | n + 1, _, _, h => cS_ok (cmp_ok k) (cmT_ok n) h
/-- a def's body -/
def cBody (C : Defs) (N : List Str) (sc : Scope) (b : List Stmt) : Option MSs := cB (cmT C N sc 24 16) b
theorem cBody_ok {C : Defs} {N : List Str} {sc : Scope} {b : List Stmt} {m : MSs} (h : cBody C N sc b = some m) : OkSs C N sc b m := cB_ok (cmT_ok 16) h
end Tw

set_option linter.all false
set_option maxRecDepth 100000
set_option maxHeartbeats 8000000
set_option autoImplicit false
/-! A def of the text, by its body in the small language. -/
namespace Tw
open PySem PySem.Spec PyProof.Rows L2
section
variable {P : Program} {w : World} {K : PySem.W.Frag} {mg : Str → Option Value} {base : Heap}
theorem argV_get {vs : List V} {i : Nat} {x : Option V} (h : (argσ vs)[i]? = some x) : ∃ v, vs[i]? = some v ∧ x = some v := by
  rw [List.getElem?_map] at h
  cases e : vs[i]? with
  | none => rw [e] at h; cases h
  | some v => rw [e] at h; cases h; exact ⟨v, rfl, rfl⟩
theorem app_low {α : Type} {a b : List α} {i : Nat} {x : α} (h : a[i]? = some x) : (a ++ b)[i]? = some x := by
  have := (List.getElem?_eq_some_iff.mp h).1
  rw [List.getElem?_append_left this]; exact h
theorem no_of {as : List SV} {n i : Nat} {y : SV} (h : (as ++ List.replicate n SV.no)[i]? = some y) : as[i]? = some y ∨ (as.length ≤ i ∧ y = .no) := by
  by_cases hi : i < as.length
  · rw [List.getElem?_append_left hi] at h; exact .inl h
  · rw [List.getElem?_append_right (by omega), List.getElem?_replicate] at h
    split at h
    · cases h; exact .inr ⟨by omega, rfl⟩
    · cases h
theorem own_ext {vs : List V} {as : List SV} {N : List Str} (hl : vs.length = as.length) {i : Nat} {a : Addr} (h : OwnAt (L2.start N vs) (as ++ List.replicate (N.length - vs.length) .no) i a) : OwnAt (argσ vs) as i a := by
  obtain ⟨h1, x, h2, h3⟩ := h
  rcases no_of h2 with h2 | ⟨_, rfl⟩
  · refine ⟨?_, x, h2, h3⟩
    have := (List.getElem?_eq_some_iff.mp h2).1
    unfold L2.start at h1
    rw [List.getElem?_append_left (by simpa using (by omega : i < vs.length))] at h1
    exact h1
  · cases h3
theorem own_low {vs : List V} {as : List SV} {N : List Str} {i : Nat} {a : Addr} (h : OwnAt (argσ vs) as i a) : OwnAt (L2.start N vs) (as ++ List.replicate (N.length - vs.length) .no) i a :=
  ⟨app_low h.1, h.2.choose, app_low h.2.choose_spec.1, h.2.choose_spec.2⟩
theorem er_start {F H : Hp} {vs : List V} {as : List SV} {N : List Str} (e : ER K F H (argσ vs) as) : ER K F H (L2.start N vs) (as ++ List.replicate (N.length - vs.length) .no) := by
  have hl : vs.length = as.length := by have := e.len; simpa using this
  refine ⟨e.fh, by unfold L2.start; simp [hl], fun i x y h1 h2 => ?_, fun i j a n h1 h2 => e.ap i j a n (own_ext hl h1) (own_ext hl h2)⟩
  rcases no_of h2 with h2 | ⟨_, rfl⟩
  · have hi := (List.getElem?_eq_some_iff.mp h2).1
    unfold L2.start at h1
    rw [List.getElem?_append_left (by simpa using (by omega : i < vs.length))] at h1
    exact e.at_ i x y h1 h2
  · cases x <;> exact trivial
theorem ownA_start {vs : List V} {as : List SV} {N : List Str} (hl : vs.length = as.length) (a : Addr) : OwnA (L2.start N vs) (as ++ List.replicate (N.length - vs.length) .no) a ↔ OwnA (argσ vs) as a :=
  ⟨fun ⟨i, h⟩ => ⟨i, own_ext hl h⟩, fun ⟨i, h⟩ => ⟨i, own_low h⟩⟩
theorem Stp.iff {F H F' H' : Hp} {A B : Addr → Prop} (h : Stp F H A F' H') (e : ∀ a, A a ↔ B a) : Stp F H B F' H' :=
  ⟨h.ff, h.fh, fun b o q n => h.keep b o q fun z => n ((e b).mp z), fun b o q f n => h.nf b o q f fun z => n ((e b).mp z), h.dom⟩
theorem take_get {α : Type} {s : List α} {n i : Nat} {x : α} (h : s[i]? = some x) (hi : i < n) : (s.take n)[i]? = some x := by
  rw [List.getElem?_take_of_lt hi]; exact h
theorem out_of {F H F' H' : Hp} {vs : List V} {as : List SV} {N : List Str} {σ' : Sl} {s' : En} {n : Nat} (hl : vs.length = as.length) (hn : n = vs.length)
    (k : SK K F H (L2.start N vs) (as ++ List.replicate (N.length - vs.length) .no) F' H' σ' s') : OutR K F' H' vs as (s'.take n) := fun i d v ha hv => by
  have hi : i < vs.length := (List.getElem?_eq_some_iff.mp hv).1
  have a1 : (as ++ List.replicate (N.length - vs.length) SV.no)[i]? = some (.inp d) := app_low ha
  have ki := k.kin i
  rw [a1] at ki
  have sm := k.same i (by rw [a1]; rfl)
  have hv' : (L2.start N vs)[i]? = some (some v) := by
    unfold L2.start
    exact app_low (by rw [List.getElem?_map, hv]; rfl)
  rw [hv'] at sm
  cases hs : s'[i]? with
  | none => rw [hs] at ki; cases ki
  | some y =>
    rw [hs] at ki
    have r := k.er.at_ i _ _ sm hs
    cases y with
    | inp d' => exact .inl ⟨d', take_get hs (by omega), r⟩
    | ins d' => exact .inr ⟨d', take_get hs (by omega), r⟩
    | no => cases ki
    | sh _ => cases ki
    | own _ => cases ki
theorem fnG_of {x qual : Str} {st : Stmt} {f : Addr} {fd : FuncData} {N ps : List Str} {k : Nat} {C : Defs} {m : MSs} (F : L2.Fun K x qual st f fd) (S : FnScope N ps (defScope st)) (hm : cBody C N (defScope st) (defBody st) = some m)
    (bi : Bi K mg ["len", "abs", "int", "str", "repr", "sum", "max", "min", "all", "any", "tuple", "list", "isinstance", "range", "bool", "dict", "enumerate", "zip", "reversed", "sorted", "set", "type"])
    (con : ∀ (x : Str) (d : D), C.gl.lookup x = some d → ∃ v u, mg x = some u ∧ RelV v u ∧ ∀ F, Rl K F v d)
    (tab : ∀ (x : Str) (j ar : Nat), C.ns.lookup x = some (j, ar) → ∃ (f : Addr) (fd : FuncData) (ps : List Str) (fn : Fn) (L : Nat), C.T[j]? = some fn ∧ FnG P w K mg base L f fd ps (spF K fn ar) ∧ L ≤ k ∧
    mg x = some (.ref f) ∧ PySem.W.keepIn K (.ref f) = true ∧ Binds K fd ps []) :
    FnG P w K mg base (k + 1) f fd ps (spF K (evalDef C.T ps.length N.length m) ps.length) := by
  obtain ⟨oc, od, kV, doc, pm, an, cdv, ct, osl, rfl, lk, hcd⟩ := F.ex
  refine ⟨fun vs H Q E h => h.choose_spec.choose_spec.choose_spec.choose_spec.1, fun A outer s H args us vs Q E hgd hr e0 hb r hsp => ?_⟩
  obtain ⟨F0, as, rr, os, hl, er, kn, ev, q⟩ := hsp
  have KX : K.In s.heap := e0.mod.kin.keeps fun b o e => (e0.bs b o e).1
  have lim : s.heap.NoLimit := e0.mod.nolimit.keeps fun b o e => (e0.bs b o e).1
  have hkind : ∀ y ∈ ps.zip us, (defScope st).names.lookup y.1 = some .local ∨ ((defScope st).names.lookup y.1 = some .cell ∧ ((cellsFrom (s.heap.objs.size + 1) (defScope st).names []).lookup y.1).isSome = true) := fun ⟨n, v⟩ hy => by
    rcases S.par n (List.of_mem_zip hy).1 with z | z
    · exact .inl z
    · exact .inr ⟨z, PySem.W.cellsFrom_some _ _ _ (.inl z)⟩
  refine codeAny_call_function hr.depth (KX _ _ lk) rfl S.co S.gen rfl (PySem.W.codeRec_of KX hcd) (hb _ _ _ _ ?_)
  refine wpAny_newFunctionEnv_cells S.kind hkind fun env he s1 xx => ?_
  subst he
  refine ⟨lim.keeps xx.toInCall.keep, codeAny_func ?_⟩
  have hal : vs.length = as.length := by have := er.len; simpa using this
  have I : L2.Inv (cxOf CX0 P w K mg base N qual (defScope st) f cdv A outer s H E) [] (L2.start N vs) H s1 := inv_start S hr.hd e0 hl r xx
  have hrd := hr.deeper (envOfC qual (defScope st) s.heap.objs.size f cdv)
  have X : XS C N (defScope st) (cxOf CX0 P w K mg base N qual (defScope st) f cdv A outer s H E).nox := by
    refine ⟨⟨rfl, S.nd, rfl, bi.b, ?_, ?_, fun x _ => rfl, con, fun x j ar h => ?_, bi.d⟩, rfl, PassesOwn.never, S.kind⟩
    · have := hrd.un
      show (A.deeper _).units + 65 < cLine
      omega
    · show (A.deeper _).guards = some []
      exact hgd
    · obtain ⟨f', fd', ps', fn, L, h1, h2, h3, h4, h5, h6⟩ := tab x j ar h
      exact ⟨f', fd', ps', fn, L, h1, h2, hrd.mono h3, h4, h5, h6⟩
  have ht := (cBody_ok hm _ X).nox
  have lenN : as.length = ps.length := by omega
  have hev : evalDef C.T ps.length N.length m as = some (rr, os) := ev
  unfold evalDef at hev
  rw [if_pos lenN] at hev
  have hst : List.replicate (N.length - ps.length) SV.no = List.replicate (N.length - vs.length) SV.no := by rw [hl]
  rw [hst] at hev
  have er' : ER K F0 H (L2.start N vs) (as ++ List.replicate (N.length - vs.length) .no) := er_start er
  have sk0 := SK.refl er'
  have body : tSs K C.T m { nx := fun _ H' => Q .non H', rt := Q } (L2.start N vs) H := by
    cases eb : evalB C.T m (as ++ List.replicate (N.length - vs.length) SV.no) with
    | none => rw [eb] at hev; cases hev
    | some o =>
      rw [eb] at hev
      refine ⟨F0, H, L2.start N vs, _, F0, F0, _, o, sk0, (fun _ _ z => z), eb, ?_⟩
      cases o with
      | nx s' =>
        cases hev
        intro F' H' σ' k' sm
        exact q .non F' H' (k'.st.iff (ownA_start hal)) (out_of hal hl.symm k') .non
      | ret r s' =>
        cases hev
        intro v F' H' σ' k' sm ro
        refine q v F' H' (k'.st.iff (ownA_start hal)) (out_of hal hl.symm k') ?_
        cases rr with
        | sh d => exact ro
        | own d =>
          obtain ⟨o1, o2⟩ := ro
          refine ⟨o1, fun a hv => ?_⟩
          obtain ⟨p1, p2⟩ := o2 a hv
          constructor
          · rcases p1 with p1 | ⟨j, d', p1, p3⟩
            · exact .inl p1
            · rcases no_of p1 with p1 | ⟨_, z⟩
              · have hj := (List.getElem?_eq_some_iff.mp p1).1
                unfold L2.start at p3
                rw [List.getElem?_append_left (by simpa using (by omega : j < vs.length))] at p3
                obtain ⟨v', e1, e2⟩ := argV_get p3
                cases e2
                subst hv
                exact .inr ⟨j, d', p1, e1⟩
              · cases z
          · intro i d2 hi ⟨d3, h3⟩ hvi
            subst hv
            apply p2
            have a1 : (as ++ List.replicate (N.length - vs.length) SV.no)[i]? = some (.inp d3) := app_low h3
            have sm2 := k'.same i (by rw [a1]; rfl)
            have hi' : i < ps.length := by
              have := (List.getElem?_eq_some_iff.mp h3).1
              omega
            rw [List.getElem?_take_of_lt hi'] at hi
            refine ⟨i, ?_, _, hi, rfl⟩
            rw [sm2]
            unfold L2.start
            exact app_low (by rw [List.getElem?_map, hvi]; rfl)
        | no => exact ro
        | inp d => exact ro
        | ins d => exact ro
      | brk s' => cases hev
      | cont s' => cases hev
  refine wpAny_mono (ht.run [] s1 (L2.start N vs) H _ I body) (fun fl s' hs => ?_) fun e s' hs => hs
  have fin : ∀ {σ' : Sl} {H' : Hp} {v : V} {u : Value}, L2.Inv (cxOf CX0 P w K mg base N qual (defScope st) f cdv A outer s H E) [] σ' H' s' → RelV v u → Q v H' → CE outer P w H s Q u s' :=
    fun {σ' H' v u} J rv q => ⟨v, H', J.os, J.bare, J.base, J.hok, rv, q⟩
  cases fl with
  | ret u =>
    obtain ⟨v, σ', H', J, rv, q⟩ := hs
    exact fin J rv q
  | next =>
    obtain ⟨σ', H', J, q⟩ := hs
    exact fin (v := V.non) (u := Value.none) J rfl q
  | brk =>
    obtain ⟨_, _, _, q⟩ := hs
    exact False.elim q
  | cont =>
    obtain ⟨_, _, _, q⟩ := hs
    exact False.elim q
end
end Tw

set_option linter.all false
set_option maxRecDepth 100000
set_option maxHeartbeats 8000000
set_option autoImplicit false
/-! The module's defs one behind the other; the law's own call. -/
namespace Tw
open PySem PySem.Spec PyProof.Rows L2
section
variable {P : Program} {w : World} {K : PySem.W.Frag} {mg : Str → Option Value} {base : Heap}
def bnames : List Str := ["len", "abs", "int", "str", "repr", "sum", "max", "min", "all", "any", "tuple", "list", "isinstance", "range", "bool", "dict", "enumerate", "zip", "reversed", "sorted", "set", "type"]
/-- a def of the module, under its name, all its parameters given -/
structure DefI (K : PySem.W.Frag) (mg : Str → Option Value) (x : Str) (st : Stmt) (ps : List Str) (f : Addr) (fd : FuncData) : Prop where
  fn : ∃ z : Str, L2.Fun K z z st f fd
  mgf : mg x = some (.ref f)
  bnd : Binds K fd ps []
/-- what may be called: C's table, of n defs, k calls deep -/
def Tab (P : Program) (w : World) (K : PySem.W.Frag) (mg : Str → Option Value) (base : Heap) (C : Defs) (n k : Nat) : Prop := (C.T.length = n ∧ ∀ (x : Str) (d : D), C.gl.lookup x = some d → ∃ v u, mg x = some u ∧ RelV v u ∧ ∀ F, Rl K F v d) ∧ ∀ (x : Str) (j ar : Nat), C.ns.lookup x = some (j, ar) →
  ∃ (f : Addr) (fd : FuncData) (ps : List Str) (fn : Fn) (L : Nat), C.T[j]? = some fn ∧ FnG P w K mg base L f fd ps (spF K fn ar) ∧ L ≤ k ∧ mg x = some (.ref f) ∧ PySem.W.keepIn K (.ref f) = true ∧ Binds K fd ps []
theorem Tab.nil {gl : List (Str × D)} (con : ∀ (x : Str) (d : D), gl.lookup x = some d → ∃ v u, mg x = some u ∧ RelV v u ∧ ∀ F, Rl K F v d) : Tab P w K mg base ⟨[], [], gl⟩ 0 0 := ⟨⟨rfl, con⟩, fun x j ar h => by cases h⟩
theorem lookup_snoc {β : Type} {x y : Str} {b c : β} : ∀ {l : List (Str × β)}, (l ++ [(y, b)]).lookup x = some c → l.lookup x = some c ∨ (x = y ∧ c = b)
  | [], h => by
    simp only [List.nil_append, List.lookup_cons, List.lookup_nil] at h
    split at h
    · rename_i q
      cases h
      exact .inr ⟨by simpa using q, rfl⟩
    · cases h
  | (z, d) :: r, h => by
    simp only [List.cons_append, List.lookup_cons] at h ⊢
    split at h
    · exact .inl h
    · exact lookup_snoc h
/-- one more def -/
theorem Tab.step {C : Defs} {n k np nl : Nat} {x : Str} {st : Stmt} {N ps : List Str} {f : Addr} {fd : FuncData} {m : MSs} {fn : Fn} (t : Tab P w K mg base C n k) (bi : Bi K mg bnames) (d : DefI K mg x st ps f fd) (S : FnScope N ps (defScope st))
    (hm : cBody C N (defScope st) (defBody st) = some m) (hp : ps.length = np) (hn : N.length = nl) (hf : fn = evalDef C.T np nl m) : FnG P w K mg base (k + 1) f fd ps (spF K fn np) := by
  subst hp
  subst hn
  subst hf
  obtain ⟨z, fz⟩ := d.fn
  exact fnG_of fz S hm bi t.1.2 t.2
/-- the table with one more def, its promise given -/
theorem Tab.put {C : Defs} {n k L np : Nat} {x : Str} {st : Stmt} {ps : List Str} {f : Addr} {fd : FuncData} {fn : Fn} (t : Tab P w K mg base C n k) (d : DefI K mg x st ps f fd) (F : FnG P w K mg base L f fd ps (spF K fn np)) (hL : k ≤ L) : Tab P w K mg base ⟨C.T ++ [fn], C.ns ++ [(x, n, np)], C.gl⟩ (n + 1) L := by
  refine ⟨⟨by simp [t.1.1], t.1.2⟩, fun y j ar h => ?_⟩
  rcases lookup_snoc h with h | ⟨rfl, e⟩
  · obtain ⟨f', fd', ps', fn', L', h1, h2, h3, h4⟩ := t.2 y j ar h
    exact ⟨f', fd', ps', fn', L', app_low h1, h2, by omega, h4⟩
  · cases e
    refine ⟨f, fd, ps, fn, L, ?_, F, Nat.le_refl _, d.mgf, d.fn.choose_spec.kp, d.bnd⟩
    rw [← t.1.1]
    simp
theorem Tab.def {C C' : Defs} {n k np nl : Nat} {x : Str} {st : Stmt} {N ps : List Str} {f : Addr} {fd : FuncData} {m : MSs} {fn : Fn} (t : Tab P w K mg base C n k) (bi : Bi K mg bnames) (d : DefI K mg x st ps f fd) (S : FnScope N ps (defScope st))
    (hm : cBody C N (defScope st) (defBody st) = some m) (hp : ps.length = np) (hn : N.length = nl) (hf : fn = evalDef C.T np nl m) (hC : C' = ⟨C.T ++ [fn], C.ns ++ [(x, n, np)], C.gl⟩) : Tab P w K mg base C' (n + 1) (k + 1) := by
  subst hC
  exact Tab.put t d (Tab.step t bi d S hm hp hn hf) (by omega)
theorem defI_mk {x z : Str} {st : Stmt} {ps : List Str} {f : Addr} {oc : Value} {od an : Option Addr} {osl : Array (Option Value)} {kV doc pm cdv ct : Value} {h : Heap} (X : K.In h) (G : h.Ns mainGlobals mg) (a : PySem.W.nsIn K mainGlobals x = some (some (.ref f)))
    (l : K.lookup f = some ⟨oc, od, .func (PySem.W.fnOf z z (defArgs st) (defBody st) (defScope st) .none kV doc pm an cdv ct), osl⟩) (c : PySem.W.codeIn K cdv z = true) (k : PySem.W.keepIn K (.ref f) = true)
    (hb : ∀ (kV doc pm : Value) (an : Option Addr) (cdv ct : Value) (us : List Value), us.length = ps.length → bindArgs (PySem.W.fnOf z z (defArgs st) (defBody st) (defScope st) .none kV doc pm an cdv ct) ⟨us, []⟩ = pure (ps.zip us)) :
    DefI K mg x st ps f (PySem.W.fnOf z z (defArgs st) (defBody st) (defScope st) .none kV doc pm an cdv ct) := ⟨⟨z, L2.fun_mk l c k⟩, PySem.W.mg_of X G a, (L2.fun_mk l c k).binds hb⟩
theorem con_nil : ∀ (x : Str) (d : D), ([] : List (Str × D)).lookup x = some d → ∃ v u, mg x = some u ∧ RelV v u ∧ ∀ F, Rl K F v d := fun x d h => by cases h
/-! ### the law -/
def scriptD (ns : List Int) : D := .list (ns.map PyData.int)
theorem rl_ints {F : Hp} : ∀ ns : List Int, RlAll K F (ns.map V.int) (ns.map PyData.int)
  | [] => .nil
  | n :: r => .cons (.int n) (rl_ints r)
def spLaw (K : PySem.W.Frag) (fn : Fn) : Sp := fun vs H Q _ => ∃ (a : Addr) (ns : List Int), vs = [.ref a] ∧ SqL K H a (ns.map V.int) ∧ (∃ os, fn [.sh (scriptD ns)] = some (.sh (.bool true), os)) ∧ ∀ H', Q (.bl true) H'
theorem spLaw_of {fn : Fn} {vs : List V} {H : Hp} {Q : VK} {E : XK} (h : spLaw K fn vs H Q E) : spF K fn 1 vs H Q E := by
  obtain ⟨a, ns, rfl, hS, ⟨os, ev⟩, q⟩ := h
  refine ⟨H, [.sh (scriptD ns)], _, os, rfl, ⟨fun _ _ z => z, rfl, fun i x y h1 h2 => ?_, fun i j a n h1 h2 => ?_⟩, fun i x h => ?_, ev, fun v F' H' _ _ r => ?_⟩
  · cases i with
    | zero =>
      cases h1
      cases h2
      exact .lst hS (rl_ints ns)
    | succ i => simp at h2
  · obtain ⟨_, x, h3, h4⟩ := h1
    cases i with
    | zero =>
      cases h3
      cases h4
    | succ i => simp at h3
  · cases i with
    | zero =>
      cases h
      exact .inl ⟨_, rfl⟩
    | succ i => simp at h
  · have r' : Rl K F' v (.bool true) := r
    cases r'
    exact q H'
theorem FnG.imp {k : Nat} {f : Addr} {fd : FuncData} {ps : List Str} {sp sp' : Sp} (F : FnG P w K mg base k f fd ps sp) (h : ∀ (vs : List V) (H : Hp) (Q : VK) (E : XK), sp' vs H Q E → sp vs H Q E) : FnG P w K mg base k f fd ps sp' :=
  ⟨fun vs H Q E q => F.len vs H Q E (h _ _ _ _ q), fun A o s H as us vs Q E hg hr he hb hv hs => F.run A o s H as us vs Q E hg hr he hb hv (h _ _ _ _ hs)⟩
/-- the call of the law at the script, from the law's promise -/
theorem run_law {mb : Str → Option Value} {k : Nat} {fa a : Addr} {fd : FuncData} {x : Str} {s₁ : Shared} {vs : List Value} {ns : List Int} {fn : Fn}
    (hK : K.In s₁.heap) (hns : s₁.heap.Ns mainGlobals mg) (hb : s₁.heap.Ns builtinsNs mb) (hbb : ∀ x : Str, x ≠ "__name__" → mb x = bootBuiltins x) (hlim : s₁.heap.NoLimit) (hgn : s₁.gens = #[])
    (ho : s₁.heap.get? a = some { cls := .type "list", data := .seq vs.toArray }) (hi : IntsAre vs ns) (hl : ns.length ≤ sizeLine) (hr : Room k callerA)
    (F : ∀ base : Heap, K.In base → base.Ns mainGlobals mg → FnG P w K mg base k fa fd [x] (spF K fn 1)) (hbd : ∀ (s : Shared) (u : Value), BindsTo s fd ⟨[u], []⟩ [(x, u)])
    (hsp : ∃ os, fn [.sh (scriptD ns)] = some (.sh (.bool true), os)) :
    codeAny (model P w) callerA (.call (.ref fa) ⟨[.ref a], []⟩) (fun r s' => r = .ok (.ret (.bool true)) ∧ OldK s₁.heap s'.heap ∧ s'.os = s₁.os ∧ AllBare s'.gens) s₁ := by
  have vals := L2.vals_ints hi
  have hlen := hi.length
  suffices core : ∀ H : Hp, L2.Only H → SqL K H a (ns.map V.int) → HOk P w H s₁.heap → (∀ b, H b ≠ none → b = a) → (H a ≠ none → K.lookup a = none) →
      codeAny (model P w) callerA (.call (.ref fa) ⟨[.ref a], []⟩) (fun r s' => r = .ok (.ret (.bool true)) ∧ OldK s₁.heap s'.heap ∧ s'.os = s₁.os ∧ AllBare s'.gens) s₁ by
    cases hk : K.lookup a with
    | some o =>
      have e := hK a o hk
      rw [ho] at e
      cases e
      refine core (fun _ => none) (fun _ => .inl rfl) (.inr ⟨_, vs.toArray, _, hk, rfl, rfl, rfl, ?_, by simpa using vals⟩) (fun b u z => ?_) (fun b z => absurd rfl z) fun z => absurd rfl z
      · rw [List.size_toArray, hlen]
        exact hl
      · have z' : (none : Option HO) = some u := z
        cases z'
    | none =>
      let Hs : Hp := fun b => if b = a then some (.frz { cls := .type "list", data := .seq vs.toArray } (.lst (ns.map V.int))) else none
      have at_a : Hs a = some (.frz { cls := .type "list", data := .seq vs.toArray } (.lst (ns.map V.int))) := if_pos rfl
      have off : ∀ b, b ≠ a → Hs b = none := fun b n => if_neg n
      refine core Hs (fun b => ?_) (.inl (.inr ⟨_, at_a⟩)) (fun b u z => ?_) (fun b z => ?_) fun _ => hk
      · by_cases e : b = a
        · subst e
          exact .inr ⟨_, _, at_a⟩
        · exact .inl (off b e)
      · by_cases e : b = a
        · subst e
          rw [at_a] at z
          cases z
          exact ⟨ho, by rw [List.length_map]; exact hl, vs, _, vals, ho⟩
        · rw [off b e] at z
          cases z
      · by_cases e : b = a
        · exact e
        · exact absurd (off b e) z
  intro H hO hS hok hA hKa
  have und : ∀ {b : Addr}, b ≠ a → H b = none := fun {b} n => by
    cases q : H b with
    | none => rfl
    | some u => exact absurd (hA b (by rw [q]; simp)) n
  have noA : ∀ {b : Addr} {o : Obj} {es : Array DictEntry} {ep : Nat}, s₁.heap.get? b = some o → o.data = .dict es ep → H b = none := fun {b o es ep} e d => und fun z => by
    subst z
    rw [ho] at e
    cases e
    have d' : Data.seq vs.toArray _ = Data.dict es ep := d
    cases d'
  have nsT : ∀ {b : Addr} {m : Str → Option Value}, s₁.heap.Ns b m → (hidT s₁.heap H).Ns b m := fun {b m} ⟨o, es, ep, e, d, r⟩ => ⟨o, es, ep, hidT_get e (noA e d), d, r⟩
  have hKb : K.In (hidT s₁.heap H) := fun b o e => hidT_get (hK b o e) (by
    cases q : H b with
    | none => rfl
    | some u =>
      have z := hA b (by rw [q]; simp)
      subst z
      rw [hKa (by rw [q]; simp)] at e
      cases e)
  have hM : Mod K mg (hidT s₁.heap H) := ⟨hKb, nsT hns, ⟨mb, nsT hb, hbb⟩, let ⟨mc, h1, h2⟩ := hlim; ⟨mc, nsT h1, h2⟩⟩
  have env0 : Env0 P w K mg (hidT s₁.heap H) callerA [] s₁ H := ⟨rfl, hM, fun b o e => of_hidT e, Nat.le_of_eq (hidT_size _ _), trivial, fun b hb => absurd (show b ∈ ([] : List Addr) from hb) (by simp), hok, .of_eq hgn⟩
  have prom : spF K fn 1 [.ref a] H (fun v _ => v = .bl true) E0 := spLaw_of ⟨a, ns, rfl, hS, hsp, fun _ => rfl⟩
  refine codeAny_mono ((F _ hKb (nsT hns)).run callerA [] s₁ H ⟨[.ref a], []⟩ [.ref a] [.ref a] _ _ rfl hr env0 (hbd s₁ (.ref a)) (.cons rfl .nil) prom) fun r s' h => ?_
  match r, h with
  | .error e, h => exact False.elim h
  | .ok .next, h => exact False.elim h
  | .ok .brk, h => exact False.elim h
  | .ok .cont, h => exact False.elim h
  | .ok (.ret u), h =>
    obtain ⟨v, H', os, bare, un, hok', r', q⟩ := h
    have qv : v = .bl true := q
    subst qv
    obtain rfl : u = Value.bool true := r'
    refine ⟨rfl, OldK.of_keep fun b o e => ?_, os, bare⟩
    cases q : H b with
    | none => exact un.keep b o e q (by intro z; exact absurd (show b ∈ ([] : List Addr) from z) (by simp)) (by simp)
    | some u =>
      rcases hO b with z | ⟨ob, xs, z⟩
      · rw [q] at z
        cases z
      · have z2 := un.frzs b ob _ z
        obtain ⟨e1, _⟩ := hok b _ z
        obtain ⟨e2, _⟩ := hok' b _ z2
        rw [e] at e1
        cases e1
        exact e2
end
/-- the goal that k_head leaves, from the law's function -/
theorem walk_law {l : PySem.W.OpenLaw} {n k : Nat} {q : Program} {loose : List Str} {XP : (Str → Option Value) → Heap → Prop} {YP : World → Heap → Prop} {d : DefRec} {K : Params → PySem.W.Frag} {x : Str} {fn : Fn}
    (hn : l.most = some n) (hn2 : n ≤ sizeLine) (hdf : d.params.defaults = []) (hr : Room k callerA) (hY : ∀ (w : World) (h : Heap), YP w h → (K w.params).In h)
    (F : ∀ (w : World) (mg : Str → Option Value) (fa : Addr) (h : Heap), (K w.params).In h → h.Ns mainGlobals mg → mg d.name = some (.ref fa) →
      ∃ fd : FuncData, (∀ (s : Shared) (u : Value), BindsTo s fd ⟨[u], []⟩ [(x, u)]) ∧ ∀ base : Heap, (K w.params).In base → base.Ns mainGlobals mg → FnG l.prog w (K w.params) mg base k fa fd [x] (spF (K w.params) fn 1))
    (hfn : ∀ ns : List Int, ns.length ≤ n → ∃ os, fn [.sh (scriptD ns)] = some (.sh (.bool true), os)) :
    PySem.W.WalkO q loose XP YP l.row.toRowW d [] (fun f vs => PySem.call f vs) := by
  refine Att.attach_call hn hdf fun w s₀ s₁ mg mb fa o pm cd doc a vs ns G Y ho hd hcd hmg hobj hints hlen hg => ?_
  have KX := hY w _ Y
  obtain ⟨fd, hb, hF⟩ := F w mg fa _ KX G.T.g hmg
  exact run_law KX G.T.g G.T.b G.T.builtins G.T.nolimit hg hobj hints (Nat.le_trans hlen hn2) hr hF hb (hfn ns hlen)
end Tw

set_option linter.all false
set_option maxRecDepth 100000
set_option maxHeartbeats 4000000
set_option autoImplicit false
/-! Tools for the plain laws. -/
namespace Tw
open PySem
section
variable {T : List Fn} {s s1 s2 : En} {a : MS} {r x y b : MSs} {o : Out} {v : SV} {c e : ME}
theorem B_nx (h : evalS T a s = some (.nx s1)) (h2 : evalB T r s1 = some o) : evalB T (.cons a r) s = some o := by
  simp only [evalB, h, h2]
theorem B_ret (h : evalS T a s = some (.ret v s1)) : evalB T (.cons a r) s = some (.ret v s1) := by
  simp only [evalB, h]
theorem S_iteT (h : evalE T c s = some (.sh (.bool true), s1)) : evalS T (.ite c x y) s = evalB T x s1 := by
  simp only [evalS, h]
theorem S_iteF (h : evalE T c s = some (.sh (.bool false), s1)) : evalS T (.ite c x y) s = evalB T y s1 := by
  simp only [evalS, h]
theorem whileGo_more {f : En → Option (EV × En)} {g : En → Option Out} : ∀ {n m : Nat} {s : En} {o : Out}, whileGo f g n s = some o → n ≤ m → whileGo f g m s = some o
  | 0, _, _, _, h, _ => by cases h
  | n + 1, 0, _, _, _, l => by omega
  | n + 1, m + 1, s, o, h, l => by
    unfold whileGo at h ⊢
    split at h
    · exact h
    · rename_i s1 hc
      split at h
      · rename_i s2 hb
        exact whileGo_more h (by omega)
      · rename_i s2 hb
        exact whileGo_more h (by omega)
      · rename_i s2 hb
        exact h
      · rename_i r' s2 hb
        exact h
      · cases h
    · cases h
theorem whileDen_of {f : En → Option (EV × En)} {g : En → Option Out} {n : Nat} {s : En} {o : Out} (h : whileGo f g n s = some o) : whileDen f g s = some o := by
  unfold whileDen
  have ex : ∃ n, (whileGo f g n s).isSome = true := ⟨n, by rw [h]; rfl⟩
  rw [dif_pos ex]
  cases e : whileGo f g ex.choose s with
  | none =>
    have := ex.choose_spec
    rw [e] at this
    cases this
  | some o' =>
    have h1 := whileGo_more e (Nat.le_max_left ex.choose n)
    have h2 := whileGo_more h (Nat.le_max_right ex.choose n)
    rw [h1] at h2
    exact h2
theorem S_for {t : MT} {it : MI} {ds : List D} (h : evalI T it s = some (ds, s1)) (h2 : forGo (fun d s => match assignT T t d s with
      | some s1 => evalB T b s1
      | none => none) ds s1 = some o) : evalS T (.for t it b) s = some o := by
  simp only [evalS, h]
  exact h2
theorem S_while {n : Nat} (h : whileGo (evalE T c) (evalB T b) n s = some o) : evalS T (.while c b) s = some o := by
  simp only [evalS]
  exact whileDen_of h
/-- slots that may be bound anew -/
def SV.free : SV → Bool
  | .no => true
  | .sh _ => true
  | .own _ => true
  | _ => false
theorem bind_free {i : Nat} {w v : SV} {s : En} (h : s[i]? = some w) (f : w.free = true) : bindN i v s = some (s.set i v) := by
  unfold bindN
  rw [h]
  cases w <;> first
    | rfl
    | cases f
end
section
variable {T : List Fn} {s s1 s2 s3 : En} {o : Op} {a b c e : ME} {ea eb : EV} {da db d : D} {i : Nat}
theorem E_op2 (ha : evalE T a s = some (ea, s1)) (hb : evalE T b s1 = some (eb, s2)) (la : ea.look s2 = some da) (lb : eb.look s2 = some db) (h : o.eval [da, db] = some d) :
    evalE T (.op o (.cons a (.cons b .nil))) s = some (if o.fresh d then .own d else .sh d, s2) := by
  simp only [evalE, evalEs, ha, hb, lookAll, la, lb, h]
theorem E_op1 (ha : evalE T a s = some (ea, s1)) (la : ea.look s1 = some da) (h : o.eval [da] = some d) : evalE T (.op o (.cons a .nil)) s = some (if o.fresh d then .own d else .sh d, s1) := by
  simp only [evalE, evalEs, ha, lookAll, la, h]
theorem E2 (ha : evalE T a s = some (ea, s1)) (hb : evalE T b s1 = some (eb, s2)) (la : ea.look s2 = some da) (lb : eb.look s2 = some db) (h : o.eval [da, db] = some d) (hf : o.fresh d = false := by rfl) :
    evalE T (.op o (.cons a (.cons b .nil))) s = some (.sh d, s2) := by
  rw [E_op2 ha hb la lb h, hf]
  rfl
theorem S_asg (h : evalE T e s = some (.sh d, s1)) (hb : bindN i (.sh d) s1 = some s2) : evalS T (.asg i e) s = some (.nx s2) := by
  simp only [evalS, h, hb]
theorem S_ret (h : evalE T e s = some (.sh d, s1)) : evalS T (.ret e) s = some (.ret (.sh d) s1) := by
  simp only [evalS, h]
theorem S_asgT {t : MT} (h : evalE T e s = some (ea, s1)) (h2 : ea.take s1 = some (d, s2)) (h3 : assignT T t d s2 = some s3) : evalS T (.asgT t e) s = some (.nx s3) := by
  simp only [evalS, h, h2, h3]
theorem E_or {p q : Bool} (ha : evalE T a s = some (.sh (.bool p), s1)) (hb : p = false → evalE T b s1 = some (.sh (.bool q), s1)) : evalE T (.or a b) s = some (.sh (.bool (p || q)), s1) := by
  cases p
  · simp [evalE, ha, hb rfl]
  · simp [evalE, ha]
theorem E_not {p : Bool} (ha : evalE T a s = some (.sh (.bool p), s1)) : evalE T (.not a) s = some (.sh (.bool (!p)), s1) := by
  simp only [evalE, ha]
end
section
variable {T : List Fn} {s s1 s2 s3 : En} {k : Nat} {as r : MEs} {a : ME} {f : Fn} {es : List EV} {ev : EV} {av os : List SV} {d : D}
theorem Es_cons (ha : evalE T a s = some (ev, s1)) (hr : evalEs T r s1 = some (es, s2)) : evalEs T (.cons a r) s = some (ev :: es, s2) := by
  simp only [evalEs, ha, hr]
theorem Ts_cons {ds : List D} (ha : evalE T a s = some (ev, s1)) (ht : ev.take s1 = some (d, s2)) (hr : evalTs T r s2 = some (ds, s3)) : evalTs T (.cons a r) s = some (d :: ds, s3) := by
  simp only [evalTs, ha, ht, hr]
theorem E_tup {ds : List D} (h : evalTs T as s = some (ds, s1)) (hl : ds.length ≤ BIG) : evalE T (.tup as) s = some (.sh (.tuple ds), s1) := by
  simp only [evalE, h, if_pos hl]
theorem E_lst {ds : List D} (h : evalTs T as s = some (ds, s1)) (hl : ds.length ≤ BIG) : evalE T (.lst as) s = some (.own (.list ds), s1) := by
  simp only [evalE, h, if_pos hl]
end
theorem ev_mul {a b : Int} (h : mulOk a b = true) : Op.eval .mul [.int a, .int b] = some (.int (a * b)) := if_pos h
theorem ev_fdiv {a b : Int} (h : divOk b = true) : Op.eval .fdiv [.int a, .int b] = some (.int (a.fdiv b)) := if_pos h
theorem ev_mod {a b : Int} (h : b ≠ 0) : Op.eval .mod [.int a, .int b] = some (.int (a.fmod b)) := if_pos h
theorem ev_pow {a b : Int} (h : powOk a b = true) : Op.eval .pow [.int a, .int b] = some (.int (a ^ b.toNat)) := if_pos h
theorem ev_str {a : Int} (h : showOk a = true) : Op.eval .str [.int a] = some (.str (toString a)) := if_pos h
/-! ### sizes -/
theorem log2_lt {n k : Nat} (h : n < 2 ^ k) : n.log2 < k ∨ k = 0 := by
  by_cases h0 : n = 0
  · subst h0
    cases k with
    | zero => exact .inr rfl
    | succ k => exact .inl (by simp [Nat.log2_zero])
  · exact .inl ((Nat.log2_lt h0).mpr h)
theorem mulOk_of {a b : Int} {j k : Nat} (ha : a.natAbs < 2 ^ j) (hb : b.natAbs < 2 ^ k) (h : j + k < 1000000) : mulOk a b = true := by
  have h1 := log2_lt ha
  have h2 := log2_lt hb
  have h3 : a.natAbs.log2 ≤ j := by
    rcases h1 with h | h
    · omega
    · subst h
      have : a.natAbs = 0 := by simpa using ha
      rw [this]
      simp
  have h4 : b.natAbs.log2 ≤ k := by
    rcases h2 with h | h
    · omega
    · subst h
      have : b.natAbs = 0 := by simpa using hb
      rw [this]
      simp
  simp only [mulOk, decide_eq_true_eq]
  omega
theorem divOk_of {b : Int} {k : Nat} (h0 : b ≠ 0) (hb : b.natAbs < 2 ^ k) (h : k < 9000) : divOk b = true := by
  have h1 := log2_lt hb
  simp only [divOk, Bool.and_eq_true, decide_eq_true_eq]
  refine ⟨h0, ?_⟩
  rcases h1 with h1 | h1
  · omega
  · subst h1
    have : b.natAbs = 0 := by simpa using hb
    rw [this]
    decide
end Tw

set_option linter.all false
set_option maxRecDepth 100000
set_option maxHeartbeats 4000000
set_option autoImplicit false
/-! The pen of the laws: numbers drawn from a script. -/
namespace Tw
open PySem
def penM : MSs :=
  MSs.cons (MS.ret (ME.dic (MEs.cons (ME.cst (PyData.str ⟨#[115, 99, 114, 105, 112, 116]⟩)) (MEs.cons (ME.op Op.list (MEs.cons (ME.slc Bool.false Bool.true (ME.var 0) (ME.cst
    PyData.none) (ME.cst (PyData.int (Int.ofNat 63)))) MEs.nil)) (MEs.cons (ME.cst (PyData.str ⟨#[97, 116]⟩)) (MEs.cons (ME.cst (PyData.int (Int.ofNat 0))) (MEs.cons (ME.cst
    (PyData.str ⟨#[108, 101, 102, 116]⟩)) (MEs.cons (ME.cst (PyData.int (Int.ofNat 0))) MEs.nil)))))))) MSs.nil
def drawM : MSs :=
  MSs.cons (MS.asg 2 (ME.op Op.idx (MEs.cons (ME.var 0) (MEs.cons (ME.cst (PyData.str ⟨#[115, 99, 114, 105, 112, 116]⟩)) MEs.nil)))) (MSs.cons (MS.asg 3 (ME.op Op.idx (MEs.cons
    (ME.var 0) (MEs.cons (ME.cst (PyData.str ⟨#[97, 116]⟩)) MEs.nil)))) (MSs.cons (MS.ite (ME.op Op.eq (MEs.cons (ME.op Op.idx (MEs.cons (ME.var 0) (MEs.cons (ME.cst (PyData.str
    ⟨#[108, 101, 102, 116]⟩)) MEs.nil))) (MEs.cons (ME.cst (PyData.int (Int.ofNat 0))) MEs.nil))) (MSs.cons (MS.asgT (MT.sub 0 (ME.cst (PyData.str ⟨#[97, 116]⟩))) (ME.op Op.add
    (MEs.cons (ME.var 3) (MEs.cons (ME.cst (PyData.int (Int.ofNat 1))) MEs.nil)))) (MSs.cons (MS.asg 4 (ME.cst (PyData.int (Int.ofNat 17)))) (MSs.cons (MS.ite (ME.op Op.ne
    (MEs.cons (ME.var 2) (MEs.cons (ME.lst MEs.nil) MEs.nil))) (MSs.cons (MS.asg 4 (ME.op Op.idx (MEs.cons (ME.var 2) (MEs.cons (ME.op Op.mod (MEs.cons (ME.var 3) (MEs.cons (ME.op
    Op.len (MEs.cons (ME.var 2) MEs.nil)) MEs.nil))) MEs.nil)))) MSs.nil) MSs.nil) (MSs.cons (MS.ite (ME.or (ME.op Op.ge (MEs.cons (ME.var 3) (MEs.cons (ME.op Op.len (MEs.cons
    (ME.var 2) MEs.nil)) MEs.nil))) (ME.op Op.lt (MEs.cons (ME.op Op.abs (MEs.cons (ME.var 4) MEs.nil)) (MEs.cons (ME.op Op.pow (MEs.cons (ME.cst (PyData.int (Int.ofNat 10)))
    (MEs.cons (ME.cst (PyData.int (Int.ofNat 18))) MEs.nil))) MEs.nil)))) (MSs.cons (MS.asg 5 (ME.op Op.idx (MEs.cons (ME.lst (MEs.cons (ME.cst (PyData.int (Int.ofNat 2147483647)))
    (MEs.cons (ME.cst (PyData.int (Int.ofNat 2147483629))) (MEs.cons (ME.cst (PyData.int (Int.ofNat 2147483587))) (MEs.cons (ME.cst (PyData.int (Int.ofNat 2147483579))) (MEs.cons
    (ME.cst (PyData.int (Int.ofNat 2147483563))) (MEs.cons (ME.cst (PyData.int (Int.ofNat 2147483549))) (MEs.cons (ME.cst (PyData.int (Int.ofNat 2147483543))) MEs.nil))))))))
    (MEs.cons (ME.op Op.mod (MEs.cons (ME.var 3) (MEs.cons (ME.cst (PyData.int (Int.ofNat 7))) MEs.nil))) MEs.nil)))) (MSs.cons (MS.asg 6 (ME.op Op.mod (MEs.cons (ME.op Op.pow
    (MEs.cons (ME.op Op.add (MEs.cons (ME.op Op.add (MEs.cons (ME.op Op.mul (MEs.cons (ME.op Op.add (MEs.cons (ME.op Op.mod (MEs.cons (ME.var 4) (MEs.cons (ME.var 5) MEs.nil)))
    (MEs.cons (ME.cst (PyData.int (Int.ofNat 7919))) MEs.nil))) (MEs.cons (ME.op Op.add (MEs.cons (ME.op Op.mul (MEs.cons (ME.cst (PyData.int (Int.ofNat 2))) (MEs.cons (ME.var 3)
    MEs.nil))) (MEs.cons (ME.cst (PyData.int (Int.ofNat 3))) MEs.nil))) MEs.nil))) (MEs.cons (ME.op Op.mul (MEs.cons (ME.cst (PyData.int (Int.ofNat 104729))) (MEs.cons (ME.var 3)
    MEs.nil))) MEs.nil))) (MEs.cons (ME.cst (PyData.int (Int.ofNat 5))) MEs.nil))) (MEs.cons (ME.cst (PyData.int (Int.ofNat 5))) MEs.nil))) (MEs.cons (ME.var 5) MEs.nil))))
    (MSs.cons (MS.asg 6 (ME.op Op.mod (MEs.cons (ME.op Op.add (MEs.cons (ME.op Op.mul (MEs.cons (ME.var 6) (MEs.cons (ME.op Op.add (MEs.cons (ME.op Op.add (MEs.cons (ME.op Op.mod
    (MEs.cons (ME.var 6) (MEs.cons (ME.cst (PyData.int (Int.ofNat 65521))) MEs.nil))) (MEs.cons (ME.var 3) MEs.nil))) (MEs.cons (ME.cst (PyData.int (Int.ofNat 3))) MEs.nil)))
    MEs.nil))) (MEs.cons (ME.op Op.mul (MEs.cons (ME.cst (PyData.int (Int.ofNat 30011))) (MEs.cons (ME.var 3) MEs.nil))) MEs.nil))) (MEs.cons (ME.cst (PyData.int (Int.ofNat
    2147483497))) MEs.nil)))) (MSs.cons (MS.ret (ME.op Op.mod (MEs.cons (ME.op Op.fdiv (MEs.cons (ME.var 6) (MEs.cons (ME.cst (PyData.int (Int.ofNat 32))) MEs.nil))) (MEs.cons
    (ME.var 1) MEs.nil)))) MSs.nil)))) MSs.nil) (MSs.cons (MS.asgT (MT.sub 0 (ME.cst (PyData.str ⟨#[108, 101, 102, 116]⟩))) (ME.op Op.abs (MEs.cons (ME.var 4) MEs.nil)))
    MSs.nil))))) MSs.nil) (MSs.cons (MS.asg 7 (ME.op Op.mod (MEs.cons (ME.op Op.idx (MEs.cons (ME.var 0) (MEs.cons (ME.cst (PyData.str ⟨#[108, 101, 102, 116]⟩)) MEs.nil)))
    (MEs.cons (ME.var 1) MEs.nil)))) (MSs.cons (MS.asgT (MT.sub 0 (ME.cst (PyData.str ⟨#[108, 101, 102, 116]⟩))) (ME.op Op.fdiv (MEs.cons (ME.op Op.idx (MEs.cons (ME.var 0)
    (MEs.cons (ME.cst (PyData.str ⟨#[108, 101, 102, 116]⟩)) MEs.nil))) (MEs.cons (ME.var 1) MEs.nil)))) (MSs.cons (MS.ret (ME.var 7)) MSs.nil)))))
abbrev kScript : D := .str ⟨#[115, 99, 114, 105, 112, 116]⟩
abbrev kAt : D := .str ⟨#[97, 116]⟩
abbrev kLeft : D := .str ⟨#[108, 101, 102, 116]⟩
abbrev intsD (sc : List Int) : D := .list (sc.map PyData.int)
def pen (sc : List Int) (a l : Int) : D := .dict [(kScript, intsD sc), (kAt, .int a), (kLeft, .int l)]
section
variable {T : List Fn} {sc : List Int} {a l most : Int} {x2 x3 x4 x5 x6 x7 x8 : SV}
theorem draw_1 : evalS T (.asg 2 (.op .idx (.cons (.var 0) (.cons (.cst kScript) .nil)))) [.inp (pen sc a l), .sh (.int most), .no, .no, .no, .no, .no, .no] = some (.nx [.inp (pen sc a l), .sh (.int most), .sh (intsD sc), .no, .no, .no, .no, .no]) := by rfl
theorem draw_3 : evalE T (ME.op Op.eq (MEs.cons (ME.op Op.idx (MEs.cons (ME.var 0) (MEs.cons (ME.cst kLeft) MEs.nil))) (MEs.cons (ME.cst (PyData.int (Int.ofNat 0))) MEs.nil))) [.inp (pen sc a l), .sh (.int most), .sh (intsD sc), .sh (.int a), .no, .no, .no, .no] = some (.sh (.bool (decide (l = 0))), [.inp (pen sc a l), .sh (.int most), .sh (intsD sc), .sh (.int a), .no, .no, .no, .no]) := by rfl
theorem draw_4 : evalS T (MS.asgT (MT.sub 0 (ME.cst kAt)) (ME.op Op.add (MEs.cons (ME.var 3) (MEs.cons (ME.cst (PyData.int (Int.ofNat 1))) MEs.nil)))) [.inp (pen sc a l), .sh (.int most), .sh (intsD sc), .sh (.int a), .no, .no, .no, .no] = some (.nx [.inp (pen sc (a + 1) l), .sh (.int most), .sh (intsD sc), .sh (.int a), .no, .no, .no, .no]) := by rfl
theorem lay_ints : ∀ sc : List Int, PyData.canLayAll0 (sc.map PyData.int) = true ∧ PyData.depthAll (sc.map PyData.int) = 0
  | [] => by simp [PyData.canLayAll0, PyData.depthAll]
  | x :: r => by
    obtain ⟨h1, h2⟩ := lay_ints r
    simp [PyData.canLayAll0, PyData.depthAll, PyData.canLay0, PyData.depth, h1, h2]
theorem shaped_ints (sc : List Int) : SeqAt.shaped (intsD sc) = true := by
  obtain ⟨h1, h2⟩ := lay_ints sc
  simp [SeqAt.shaped, PyData.canLay0, PyData.depth, h1, h2]
theorem eqv_nil : ∀ sc : List Int, PyData.eqv (intsD sc) (.list []) = decide (sc = [])
  | [] => by rfl
  | x :: r => by rfl
theorem at_ints {i : Int} (h0 : 0 ≤ i) (h : i < sc.length) : ∃ c : Int, L2.atI (sc.map PyData.int) i = some (.int c) := by
  obtain ⟨j, rfl⟩ := Int.eq_ofNat_of_zero_le h0
  have hj : j < sc.length := by omega
  exact ⟨sc[j], L2.atI_nat (by rw [List.getElem?_map, List.getElem?_eq_getElem hj]; rfl)⟩
/-- the last three rows -/
def tailM : MSs := (MSs.cons (MS.asg 7 (ME.op Op.mod (MEs.cons (ME.op Op.idx (MEs.cons (ME.var 0) (MEs.cons (ME.cst kLeft) MEs.nil)))
    (MEs.cons (ME.var 1) MEs.nil)))) (MSs.cons (MS.asgT (MT.sub 0 (ME.cst kLeft)) (ME.op Op.fdiv (MEs.cons (ME.op Op.idx (MEs.cons (ME.var 0)
    (MEs.cons (ME.cst kLeft) MEs.nil))) (MEs.cons (ME.var 1) MEs.nil)))) (MSs.cons (MS.ret (ME.var 7)) MSs.nil)))
theorem tail_ev {x2 x3 x4 x5 x6 : SV} (h0 : most ≠ 0) (hd : divOk most = true) : evalB T tailM [.inp (pen sc a l), .sh (.int most), x2, x3, x4, x5, x6, .no] = some (.ret (.sh (.int (l.fmod most))) [.inp (pen sc a (l.fdiv most)), .sh (.int most), x2, x3, x4, x5, x6, .sh (.int (l.fmod most))]) :=
  B_nx (S_asg (E_op2 rfl rfl rfl rfl (ev_mod h0)) rfl) (B_nx (S_asgT (E_op2 rfl rfl rfl rfl (ev_fdiv hd)) rfl rfl) (B_ret rfl))
/-- the number that is mixed -/
def mixM : MSs := (MSs.cons (MS.asg 5 (ME.op Op.idx (MEs.cons (ME.lst (MEs.cons (ME.cst (PyData.int (Int.ofNat 2147483647)))
    (MEs.cons (ME.cst (PyData.int (Int.ofNat 2147483629))) (MEs.cons (ME.cst (PyData.int (Int.ofNat 2147483587))) (MEs.cons (ME.cst (PyData.int (Int.ofNat 2147483579))) (MEs.cons
    (ME.cst (PyData.int (Int.ofNat 2147483563))) (MEs.cons (ME.cst (PyData.int (Int.ofNat 2147483549))) (MEs.cons (ME.cst (PyData.int (Int.ofNat 2147483543))) MEs.nil))))))))
    (MEs.cons (ME.op Op.mod (MEs.cons (ME.var 3) (MEs.cons (ME.cst (PyData.int (Int.ofNat 7))) MEs.nil))) MEs.nil)))) (MSs.cons (MS.asg 6 (ME.op Op.mod (MEs.cons (ME.op Op.pow
    (MEs.cons (ME.op Op.add (MEs.cons (ME.op Op.add (MEs.cons (ME.op Op.mul (MEs.cons (ME.op Op.add (MEs.cons (ME.op Op.mod (MEs.cons (ME.var 4) (MEs.cons (ME.var 5) MEs.nil)))
    (MEs.cons (ME.cst (PyData.int (Int.ofNat 7919))) MEs.nil))) (MEs.cons (ME.op Op.add (MEs.cons (ME.op Op.mul (MEs.cons (ME.cst (PyData.int (Int.ofNat 2))) (MEs.cons (ME.var 3)
    MEs.nil))) (MEs.cons (ME.cst (PyData.int (Int.ofNat 3))) MEs.nil))) MEs.nil))) (MEs.cons (ME.op Op.mul (MEs.cons (ME.cst (PyData.int (Int.ofNat 104729))) (MEs.cons (ME.var 3)
    MEs.nil))) MEs.nil))) (MEs.cons (ME.cst (PyData.int (Int.ofNat 5))) MEs.nil))) (MEs.cons (ME.cst (PyData.int (Int.ofNat 5))) MEs.nil))) (MEs.cons (ME.var 5) MEs.nil))))
    (MSs.cons (MS.asg 6 (ME.op Op.mod (MEs.cons (ME.op Op.add (MEs.cons (ME.op Op.mul (MEs.cons (ME.var 6) (MEs.cons (ME.op Op.add (MEs.cons (ME.op Op.add (MEs.cons (ME.op Op.mod
    (MEs.cons (ME.var 6) (MEs.cons (ME.cst (PyData.int (Int.ofNat 65521))) MEs.nil))) (MEs.cons (ME.var 3) MEs.nil))) (MEs.cons (ME.cst (PyData.int (Int.ofNat 3))) MEs.nil)))
    MEs.nil))) (MEs.cons (ME.op Op.mul (MEs.cons (ME.cst (PyData.int (Int.ofNat 30011))) (MEs.cons (ME.var 3) MEs.nil))) MEs.nil))) (MEs.cons (ME.cst (PyData.int (Int.ofNat
    2147483497))) MEs.nil)))) (MSs.cons (MS.ret (ME.op Op.mod (MEs.cons (ME.op Op.fdiv (MEs.cons (ME.var 6) (MEs.cons (ME.cst (PyData.int (Int.ofNat 32))) MEs.nil))) (MEs.cons
    (ME.var 1) MEs.nil)))) MSs.nil))))
theorem mix_ev {p0 : D} {c : Int} {x2 : SV} (h0 : most ≠ 0) (ha : 0 ≤ a) (ha2 : a < 2 ^ 30) : ∃ (p m : Int) (r : Int), evalB T mixM [.inp p0, .sh (.int most), x2, .sh (.int a), .sh (.int c), .no, .no, .no] = some (.ret (.sh (.int (r.fmod most))) [.inp p0, .sh (.int most), x2, .sh (.int a), .sh (.int c), .sh (.int p), .sh (.int m), .no]) := by
  obtain ⟨p, hp, hp0, hp1⟩ : ∃ p : Int, Op.eval .idx [.list [.int 2147483647, .int 2147483629, .int 2147483587, .int 2147483579, .int 2147483563, .int 2147483549, .int 2147483543], .int (a.fmod 7)] = some (.int p) ∧ 0 < p ∧ p < 2 ^ 31 := by
    have h7 : 0 ≤ a.fmod 7 ∧ a.fmod 7 < 7 := ⟨Int.fmod_nonneg ha (by decide), Int.fmod_lt_of_pos _ (by decide)⟩
    rcases (by omega : a.fmod 7 = 0 ∨ a.fmod 7 = 1 ∨ a.fmod 7 = 2 ∨ a.fmod 7 = 3 ∨ a.fmod 7 = 4 ∨ a.fmod 7 = 5 ∨ a.fmod 7 = 6) with e | e | e | e | e | e | e <;> rw [e] <;> exact ⟨_, rfl, by decide, by decide⟩
  have c0 : 0 ≤ c.fmod p := Int.fmod_nonneg_of_pos c hp0
  have c1 : c.fmod p < p := Int.fmod_lt_of_pos _ hp0
  have m1 : mulOk 2 a = true := mulOk_of (j := 2) (k := 30) (by decide) (by omega) (by decide)
  have m2 : mulOk (c.fmod p + 7919) (2 * a + 3) = true := mulOk_of (j := 32) (k := 32) (by omega) (by omega) (by decide)
  have m3 : mulOk 104729 a = true := mulOk_of (j := 20) (k := 30) (by decide) (by omega) (by decide)
  have b0 : 0 ≤ (c.fmod p + 7919) * (2 * a + 3) := Int.mul_nonneg (by omega) (by omega)
  have b1 : (c.fmod p + 7919) * (2 * a + 3) ≤ 2147491566 * 2147483651 := Int.mul_le_mul (by omega) (by omega) (by omega) (by decide)
  have m4 : powOk ((c.fmod p + 7919) * (2 * a + 3) + 104729 * a + 5) 5 = true := by
    simp only [powOk, Bool.and_eq_true, decide_eq_true_eq]
    refine ⟨by decide, ?_⟩
    omega
  have mm0 : ∀ z : Int, 0 ≤ z.fmod p ∧ z.fmod p < p := fun z => ⟨Int.fmod_nonneg_of_pos z hp0, Int.fmod_lt_of_pos _ hp0⟩
  generalize hz : (((c.fmod p + 7919) * (2 * a + 3) + 104729 * a + 5) ^ (5 : Int).toNat).fmod p = z
  have z01 : 0 ≤ z ∧ z < p := by
    rw [← hz]
    exact mm0 _
  have y01 : 0 ≤ z.fmod 65521 ∧ z.fmod 65521 < 65521 := ⟨Int.fmod_nonneg_of_pos z (by decide), Int.fmod_lt_of_pos _ (by decide)⟩
  have m5 : mulOk z (z.fmod 65521 + a + 3) = true := mulOk_of (j := 31) (k := 32) (by omega) (by omega) (by decide)
  have m6 : mulOk 30011 a = true := mulOk_of (j := 20) (k := 30) (by decide) (by omega) (by decide)
  refine ⟨p, (z * (z.fmod 65521 + a + 3) + 30011 * a).fmod 2147483497, ((z * (z.fmod 65521 + a + 3) + 30011 * a).fmod 2147483497).fdiv 32, ?_⟩
  refine B_nx (S_asg (E_op2 (ea := .own (.list [.int 2147483647, .int 2147483629, .int 2147483587, .int 2147483579, .int 2147483563, .int 2147483549, .int 2147483543])) rfl (E_op2 rfl rfl rfl rfl (ev_mod (by decide))) rfl rfl hp) rfl) ?_
  refine B_nx (s1 := [.inp p0, .sh (.int most), x2, .sh (.int a), .sh (.int c), .sh (.int p), .sh (.int z), .no]) (S_asg (E_op2 (E_op2 (E_op2 (E_op2 (E_op2 (E_op2 (E_op2 rfl rfl rfl rfl (ev_mod (by omega))) rfl rfl rfl rfl) (E_op2 (E_op2 rfl rfl rfl rfl (ev_mul m1)) rfl rfl rfl rfl) rfl rfl (ev_mul m2)) (E_op2 rfl rfl rfl rfl (ev_mul m3)) rfl rfl rfl) rfl rfl rfl rfl) rfl rfl rfl (ev_pow m4)) rfl rfl rfl (ev_mod (by omega))) (by rw [← hz]; rfl)) ?_
  refine B_nx (S_asg (E_op2 (E_op2 (E_op2 rfl (E_op2 (E_op2 (E_op2 rfl rfl rfl rfl (ev_mod (by decide))) rfl rfl rfl rfl) rfl rfl rfl rfl) rfl rfl (ev_mul m5)) (E_op2 rfl rfl rfl rfl (ev_mul m6)) rfl rfl rfl) rfl rfl rfl (ev_mod (by decide))) rfl) ?_
  exact B_ret (S_ret (E_op2 (E_op2 rfl rfl rfl rfl (ev_fdiv (by decide))) rfl rfl rfl (ev_mod h0)))
theorem ev_ne {x y : D} (h1 : SeqAt.shaped x = true) (h2 : SeqAt.shaped y = true) : Op.eval .ne [x, y] = some (.bool (!PyData.eqv x y)) := by
  simp only [Op.eval, eqGo_shaped h1 h2]
def cellM : MSs := MSs.cons (MS.ite (ME.op Op.ne
    (MEs.cons (ME.var 2) (MEs.cons (ME.lst MEs.nil) MEs.nil))) (MSs.cons (MS.asg 4 (ME.op Op.idx (MEs.cons (ME.var 2) (MEs.cons (ME.op Op.mod (MEs.cons (ME.var 3) (MEs.cons (ME.op
    Op.len (MEs.cons (ME.var 2) MEs.nil)) MEs.nil))) MEs.nil)))) MSs.nil) MSs.nil) (MSs.cons (MS.ite (ME.or (ME.op Op.ge (MEs.cons (ME.var 3) (MEs.cons (ME.op Op.len (MEs.cons
    (ME.var 2) MEs.nil)) MEs.nil))) (ME.op Op.lt (MEs.cons (ME.op Op.abs (MEs.cons (ME.var 4) MEs.nil)) (MEs.cons (ME.op Op.pow (MEs.cons (ME.cst (PyData.int (Int.ofNat 10)))
    (MEs.cons (ME.cst (PyData.int (Int.ofNat 18))) MEs.nil))) MEs.nil)))) mixM MSs.nil) (MSs.cons (MS.asgT (MT.sub 0 (ME.cst kLeft)) (ME.op Op.abs (MEs.cons (ME.var 4) MEs.nil)))
    MSs.nil))
theorem cell_ev {l : Int} (h0 : most ≠ 0) (ha : 0 ≤ a) (ha2 : a < 2 ^ 30) : (∃ (x4 x5 x6 : SV) (r : Int), evalB T cellM [.inp (pen sc (a + 1) l), .sh (.int most), .sh (intsD sc), .sh (.int a), .sh (.int 17), .no, .no, .no] = some (.ret (.sh (.int (r.fmod most))) [.inp (pen sc (a + 1) l), .sh (.int most), .sh (intsD sc), .sh (.int a), x4, x5, x6, .no])) ∨
    ∃ (x4 : SV) (l' : Int), 0 ≤ l' ∧ evalB T cellM [.inp (pen sc (a + 1) l), .sh (.int most), .sh (intsD sc), .sh (.int a), .sh (.int 17), .no, .no, .no] = some (.nx [.inp (pen sc (a + 1) l'), .sh (.int most), .sh (intsD sc), .sh (.int a), x4, .no, .no, .no]) := by
  -- the cell
  obtain ⟨c, hc⟩ : ∃ c : Int, evalS T (MS.ite (ME.op Op.ne (MEs.cons (ME.var 2) (MEs.cons (ME.lst MEs.nil) MEs.nil))) (MSs.cons (MS.asg 4 (ME.op Op.idx (MEs.cons (ME.var 2) (MEs.cons (ME.op Op.mod (MEs.cons (ME.var 3) (MEs.cons (ME.op
    Op.len (MEs.cons (ME.var 2) MEs.nil)) MEs.nil))) MEs.nil)))) MSs.nil) MSs.nil) [.inp (pen sc (a + 1) l), .sh (.int most), .sh (intsD sc), .sh (.int a), .sh (.int 17), .no, .no, .no] = some (.nx [.inp (pen sc (a + 1) l), .sh (.int most), .sh (intsD sc), .sh (.int a), .sh (.int c), .no, .no, .no]) := by
    by_cases e : sc = []
    · refine ⟨17, (S_iteF (E_op2 rfl rfl rfl rfl ((ev_ne (shaped_ints sc) (by rfl)).trans ?_))).trans rfl⟩
      rw [eqv_nil, decide_eq_true e]
      rfl
    · have hl : (0 : Int) < (sc.length : Nat) := by
        have := List.length_pos_iff.mpr e
        omega
      have hl2 : ((sc.map PyData.int).length : Int) = (sc.length : Nat) := by rw [List.length_map]
      have f0 := Int.fmod_nonneg_of_pos a hl
      have f1 := Int.fmod_lt_of_pos a hl
      obtain ⟨c, hc⟩ := at_ints (sc := sc) f0 f1
      refine ⟨c, (S_iteT (E_op2 rfl rfl rfl rfl ((ev_ne (shaped_ints sc) (by rfl)).trans ?_))).trans (B_nx (S_asg (E_op2 rfl (E_op2 rfl (E_op1 rfl rfl rfl) rfl rfl ((ev_mod (b := ((sc.map PyData.int).length : Nat)) (by rw [hl2]; omega)).trans (by rw [hl2]))) rfl rfl (show Op.eval .idx [intsD sc, .int (a.fmod (sc.length : Nat))] = some (.int c) from hc)) rfl) rfl)⟩
      rw [eqv_nil, decide_eq_false e]
      rfl
  obtain ⟨q, hq⟩ : ∃ q : Bool, evalE T (ME.or (ME.op Op.ge (MEs.cons (ME.var 3) (MEs.cons (ME.op Op.len (MEs.cons
    (ME.var 2) MEs.nil)) MEs.nil))) (ME.op Op.lt (MEs.cons (ME.op Op.abs (MEs.cons (ME.var 4) MEs.nil)) (MEs.cons (ME.op Op.pow (MEs.cons (ME.cst (PyData.int (Int.ofNat 10)))
    (MEs.cons (ME.cst (PyData.int (Int.ofNat 18))) MEs.nil))) MEs.nil)))) [.inp (pen sc (a + 1) l), .sh (.int most), .sh (intsD sc), .sh (.int a), .sh (.int c), .no, .no, .no] = some (.sh (.bool q), [.inp (pen sc (a + 1) l), .sh (.int most), .sh (intsD sc), .sh (.int a), .sh (.int c), .no, .no, .no]) :=
    ⟨_, E_or rfl fun _ => E_op2 (E_op1 rfl rfl rfl) (E_op2 rfl rfl rfl rfl (ev_pow (by decide))) rfl rfl rfl⟩
  cases q with
  | true =>
    obtain ⟨p, m, r, hm⟩ := mix_ev (T := T) (p0 := pen sc (a + 1) l) (c := c) (x2 := .sh (intsD sc)) h0 ha ha2
    exact .inl ⟨_, _, _, r, B_nx hc (B_ret ((S_iteT hq).trans hm))⟩
  | false =>
    refine .inr ⟨.sh (.int c), if c < 0 then -c else c, by split <;> omega, B_nx hc (B_nx ((S_iteF hq).trans rfl) (B_nx (S_asgT (E_op1 rfl rfl rfl) rfl rfl) rfl))⟩
theorem draw_body (ha : 0 ≤ a) (ha2 : a < 2 ^ 30) (hl : 0 ≤ l) (hm : 0 < most) (hd : divOk most = true) : ∃ (r a' l' : Int) (s' : En), evalB T drawM [.inp (pen sc a l), .sh (.int most), .no, .no, .no, .no, .no, .no] = some (.ret (.sh (.int r)) (.inp (pen sc a' l') :: .sh (.int most) :: s')) ∧
    0 ≤ r ∧ r < most ∧ a ≤ a' ∧ a' ≤ a + 1 ∧ 0 ≤ l' := by
  have h0 : most ≠ 0 := by omega
  have fm : ∀ z : Int, 0 ≤ z.fmod most ∧ z.fmod most < most := fun z => ⟨Int.fmod_nonneg_of_pos z hm, Int.fmod_lt_of_pos z hm⟩
  have fd : ∀ z : Int, 0 ≤ z → 0 ≤ z.fdiv most := fun z hz => Int.fdiv_nonneg hz (by omega)
  by_cases e : l = 0
  · have c3 : evalE T (ME.op Op.eq (MEs.cons (ME.op Op.idx (MEs.cons (ME.var 0) (MEs.cons (ME.cst kLeft) MEs.nil))) (MEs.cons (ME.cst (PyData.int (Int.ofNat 0))) MEs.nil))) [.inp (pen sc a l), .sh (.int most), .sh (intsD sc), .sh (.int a), .no, .no, .no, .no] = some (.sh (.bool true), [.inp (pen sc a l), .sh (.int most), .sh (intsD sc), .sh (.int a), .no, .no, .no, .no]) := by
      rw [draw_3, decide_eq_true e]
    rcases cell_ev (T := T) (sc := sc) (l := l) h0 ha ha2 with ⟨x4, x5, x6, r, h⟩ | ⟨x4, l', hl', h⟩
    · exact ⟨_, a + 1, l, _, B_nx draw_1 (B_nx rfl (B_ret ((S_iteT c3).trans (B_nx draw_4 (B_nx rfl h))))), (fm r).1, (fm r).2, by omega, by omega, hl⟩
    · exact ⟨_, a + 1, _, _, B_nx draw_1 (B_nx rfl (B_nx ((S_iteT c3).trans (B_nx draw_4 (B_nx rfl h))) (tail_ev h0 hd))), (fm l').1, (fm l').2, by omega, by omega, fd l' hl'⟩
  · have c3 : evalE T (ME.op Op.eq (MEs.cons (ME.op Op.idx (MEs.cons (ME.var 0) (MEs.cons (ME.cst kLeft) MEs.nil))) (MEs.cons (ME.cst (PyData.int (Int.ofNat 0))) MEs.nil))) [.inp (pen sc a l), .sh (.int most), .sh (intsD sc), .sh (.int a), .no, .no, .no, .no] = some (.sh (.bool false), [.inp (pen sc a l), .sh (.int most), .sh (intsD sc), .sh (.int a), .no, .no, .no, .no]) := by
      rw [draw_3, decide_eq_false e]
    exact ⟨_, a, _, _, B_nx draw_1 (B_nx rfl (B_nx ((S_iteF c3).trans rfl) (tail_ev h0 hd))), (fm l).1, (fm l).2, by omega, by omega, fd l hl⟩
/-- one number drawn -/
theorem draw_ev (ha : 0 ≤ a) (ha2 : a < 2 ^ 30) (hl : 0 ≤ l) (hm : 0 < most) (hd : divOk most = true) : ∃ r a' l' : Int, evalDef T 2 8 drawM [.inp (pen sc a l), .sh (.int most)] = some (.sh (.int r), [.inp (pen sc a' l'), .sh (.int most)]) ∧
    0 ≤ r ∧ r < most ∧ a ≤ a' ∧ a' ≤ a + 1 ∧ 0 ≤ l' := by
  obtain ⟨r, a', l', s', h, h1⟩ := draw_body (T := T) (sc := sc) ha ha2 hl hm hd
  refine ⟨r, a', l', ?_, h1⟩
  show (match evalB T drawM [.inp (pen sc a l), .sh (.int most), .no, .no, .no, .no, .no, .no] with
    | some (.nx s) => some (SV.sh .none, s.take 2)
    | some (.ret r s) => some (r, s.take 2)
    | _ => none) = _
  rw [h]
  rfl
theorem cut63 (sc : List Int) (h : sc.length ≤ 63) : cut (sc.map PyData.int) none (some 63) = sc.map PyData.int := by
  unfold cut
  have e1 : HT.sIx (sc.map PyData.int).length 0 none = 0 := HT.sIx_none ..
  have e2 : HT.sIx (sc.map PyData.int).length (sc.map PyData.int).length (some 63) = min 63 (sc.map PyData.int).length := HT.sIx_nat _ _ 63
  rw [e1, e2, List.length_map, Nat.min_eq_right h]
  simp only [List.drop_zero, Nat.sub_zero]
  exact List.take_of_length_le (by simp)
theorem pen_ev (h : sc.length ≤ 63) : evalDef T 1 1 penM [.sh (scriptD sc)] = some (.own (pen sc 0 0), [.sh (scriptD sc)]) := by
  have e : evalDef T 1 1 penM [.sh (scriptD sc)] = some (.own (.dict [(kScript, .list (cut (sc.map PyData.int) none (some 63))), (kAt, .int 0), (kLeft, .int 0)]), [.sh (scriptD sc)]) := by rfl
  rw [e, cut63 sc h]
  rfl
end
end Tw

set_option linter.all false
set_option maxRecDepth 100000
set_option maxHeartbeats 4000000
set_option autoImplicit false
/-! What repr may be asked of. -/
namespace Tw
open PySem
theorem reprOk_of {d : D} (h1 : d.showable = true) (h2 : d.leavesShort 400 = true) (h3 : d.bulk ≤ 2400) (h4 : d.depth ≤ 50) (h5 : (!d.hasDict || noLst d) = true) : reprOk d = true := by
  have h6 := PyData.shown_le_bulk 400 (by decide) d h2
  simp only [reprOk, Bool.and_eq_true, decide_eq_true_eq]
  refine ⟨⟨⟨h1, ?_⟩, h4⟩, h5⟩
  unfold BIG
  omega
theorem ofStr_len (s : String) : (Str.ofString s).length = s.length := by
  exact ofString_length s
theorem int_short {i : Int} (h : i.natAbs < 2 ^ 300) : i.natAbs.log2 < 1920 ∧ (PyData.shown (.int i)).length ≤ 301 := by
  have h1 : i.natAbs.log2 < 300 := by
    rcases log2_lt h with h | h
    · exact h
    · cases h
  refine ⟨by omega, ?_⟩
  show (Str.ofString (toString i)).length ≤ 301
  rw [ofStr_len]
  exact int_text_length_le (by decide) h1
/-- small: n signs of text, k deep -/
structure Sm (n k : Nat) (d : D) : Prop where
  h1 : d.showable = true
  h2 : d.leavesShort 400 = true
  h3 : d.bulk ≤ n
  h4 : d.depth ≤ k
theorem Sm.ok {n k : Nat} {d : D} (h : Sm n k d) (hn : n ≤ 2400) (hk : k ≤ 50) (h5 : (!d.hasDict || noLst d) = true) : reprOk d = true := reprOk_of h.h1 h.h2 (Nat.le_trans h.h3 hn) (Nat.le_trans h.h4 hk) h5
theorem Sm.mono {n k n' k' : Nat} {d : D} (h : Sm n k d) (hn : n ≤ n') (hk : k ≤ k') : Sm n' k' d := ⟨h.h1, h.h2, Nat.le_trans h.h3 hn, Nat.le_trans h.h4 hk⟩
theorem Sm.alls {n k : Nat} : ∀ {xs : List D}, (∀ x ∈ xs, Sm n k x) → PyData.showableAll xs = true ∧ PyData.leavesShortAll 400 xs = true ∧ PyData.bulkAll xs ≤ xs.length * (n + 1) ∧ PyData.depthAll xs ≤ k
  | [], _ => by simp [PyData.showableAll, PyData.leavesShortAll, PyData.bulkAll, PyData.depthAll]
  | x :: r, h => by
    have hx := h x (by simp)
    obtain ⟨q1, q2, q3, q4⟩ := Sm.alls (xs := r) fun y m => h y (by simp [m])
    have h3 := hx.h3
    have h4 := hx.h4
    simp only [PyData.showableAll, PyData.leavesShortAll, PyData.bulkAll, PyData.depthAll, hx.h1, hx.h2, q1, q2, Bool.and_self, true_and, List.length_cons, Nat.add_mul]
    omega
theorem Sm.tup {n k : Nat} {xs : List D} (h : ∀ x ∈ xs, Sm n k x) : Sm (xs.length * (n + 1)) (k + 1) (.tuple xs) := by
  obtain ⟨q1, q2, q3, q4⟩ := Sm.alls h
  exact ⟨by simpa only [PyData.showable] using q1, by simpa only [PyData.leavesShort] using q2, by simpa only [PyData.bulk] using q3, by simp only [PyData.depth]; omega⟩
theorem Sm.lst {n k : Nat} {xs : List D} (h : ∀ x ∈ xs, Sm n k x) : Sm (xs.length * (n + 1)) (k + 1) (.list xs) := by
  obtain ⟨q1, q2, q3, q4⟩ := Sm.alls h
  exact ⟨by simpa only [PyData.showable] using q1, by simpa only [PyData.leavesShort] using q2, by simpa only [PyData.bulk] using q3, by simp only [PyData.depth]; omega⟩
theorem Sm.int {i : Int} (h : i.natAbs < 2 ^ 300) : Sm 0 0 (.int i) := by
  obtain ⟨q1, q2⟩ := int_short h
  exact ⟨by simpa only [PyData.showable, decide_eq_true_eq] using q1, by simp only [PyData.leavesShort, decide_eq_true_eq]; omega, by simp [PyData.bulk], by simp [PyData.depth]⟩
theorem Sm.non : Sm 0 0 .none := ⟨rfl, rfl, Nat.le_refl _, Nat.le_refl _⟩
theorem Sm.bool (b : Bool) : Sm 0 0 (.bool b) := ⟨rfl, rfl, Nat.le_refl _, Nat.le_refl _⟩
theorem Sm.str {x : Str} (h : (x.cps.toList.all fun c => decide (c < 16 ^ 8)) = true) : Sm x.length 0 (.str x) := ⟨rfl, by simpa only [PyData.leavesShort] using h, Nat.le_refl _, Nat.le_refl _⟩
/-! ### the pen's budget -/
def PenR (sc : List Int) (n : Int) (d : D) : Prop := ∃ a l : Int, d = pen sc a l ∧ 0 ≤ a ∧ a ≤ n ∧ 0 ≤ l
theorem PenR.mono {sc : List Int} {n m : Int} {d : D} (h : PenR sc n d) (e : n ≤ m) : PenR sc m d := by
  obtain ⟨a, l, h1, h2, h3, h4⟩ := h
  exact ⟨a, l, h1, h2, by omega, h4⟩
theorem draw_pen {T : List Fn} {sc : List Int} {n most : Int} {d : D} (hd : PenR sc n d) (hn : n < 2 ^ 30) (hm : 0 < most) (hm2 : divOk most = true) : ∃ (r : Int) (d' : D), evalDef T 2 8 drawM [.inp d, .sh (.int most)] = some (.sh (.int r), [.inp d', .sh (.int most)]) ∧ 0 ≤ r ∧ r < most ∧ PenR sc (n + 1) d' := by
  obtain ⟨a, l, rfl, h1, h2, h3⟩ := hd
  obtain ⟨r, a', l', e, q1, q2, q3, q4, q5⟩ := draw_ev (T := T) (sc := sc) h1 (Int.lt_of_le_of_lt h2 hn) h3 hm hm2
  exact ⟨r, pen sc a' l', e, q1, q2, a', l', rfl, by omega, by omega, q5⟩
theorem nd0 : ([0] : List Nat).Nodup := by decide
theorem nd1 : ([1] : List Nat).Nodup := by decide
theorem I_rg1 {T : List Fn} {s s1 : En} {e : ME} {n : Int} (h : evalE T e s = some (.sh (.int n), s1)) (hn : -(10 ^ 15) < n ∧ n < 10 ^ 15) : evalI T (.range (.cons e .nil)) s = some ((List.range n.toNat).map fun i => .int (i : Nat), s1) := by
  have hg : rangeOf [.int n] = some ((List.range n.toNat).map fun i => .int (i : Nat)) := if_pos hn
  simp only [evalI, evalEs, h, lookAll, EV.look, hg]
theorem I_rg2 {T : List Fn} {s s1 s2 : En} {e f : ME} {a b : Int} (h : evalE T e s = some (.sh (.int a), s1)) (h2 : evalE T f s1 = some (.sh (.int b), s2)) (hn : -(10 ^ 15) < a ∧ a < 10 ^ 15 ∧ -(10 ^ 15) < b ∧ b < 10 ^ 15) :
    evalI T (.range (.cons e (.cons f .nil))) s = some ((List.range (b - a).toNat).map fun i => .int (a + (i : Nat)), s2) := by
  have hg : rangeOf [.int a, .int b] = some ((List.range (b - a).toNat).map fun i => .int (a + (i : Nat))) := if_pos hn
  simp only [evalI, evalEs, h, h2, lookAll, EV.look, hg]
theorem ev_repr {d : D} (h : reprOk d = true) : Op.eval .repr [d] = some (.str d.shown) := if_pos (by rw [h]; rfl)
theorem ev_reprB {d : D} (h : bigPair d = true) : Op.eval .repr [d] = some (.str d.shown) := if_pos (by rw [h, Bool.or_true])
end Tw

set_option linter.all false
set_option maxRecDepth 100000
set_option maxHeartbeats 4000000
set_option autoImplicit false
/-! Stepping through a body: what must hold ahead, for what shall hold behind. -/
namespace Tw
open PySem
/-- the greater one, the lesser one, as the model takes them -/
def mx (x y : Int) : Int := if y > x then y else x
def mn (x y : Int) : Int := if y < x then y else x
structure WE (T : List Fn) (e : ME) (s : En) (Q : EV → En → Prop) : Prop where
  h : ∃ ev s', evalE T e s = some (ev, s') ∧ Q ev s'
structure WEs (T : List Fn) (e : MEs) (s : En) (Q : List EV → En → Prop) : Prop where
  h : ∃ ev s', evalEs T e s = some (ev, s') ∧ Q ev s'
structure WTs (T : List Fn) (e : MEs) (s : En) (Q : List D → En → Prop) : Prop where
  h : ∃ ev s', evalTs T e s = some (ev, s') ∧ Q ev s'
structure WI (T : List Fn) (e : MI) (s : En) (Q : List D → En → Prop) : Prop where
  h : ∃ ev s', evalI T e s = some (ev, s') ∧ Q ev s'
structure WT (T : List Fn) (t : MT) (d : D) (s : En) (Q : En → Prop) : Prop where
  h : ∃ s', assignT T t d s = some s' ∧ Q s'
structure WTT (T : List Fn) (t : MTs) (d : List D) (s : En) (Q : En → Prop) : Prop where
  h : ∃ s', assignTs T t d s = some s' ∧ Q s'
def KOn (N : En → Prop) (R : SV → En → Prop) (B C : En → Prop) : Out → Prop
  | .nx s => N s
  | .ret v s => R v s
  | .brk s => B s
  | .cont s => C s
structure WB (T : List Fn) (b : MSs) (s : En) (N : En → Prop) (R : SV → En → Prop) (B C : En → Prop) : Prop where
  h : ∃ o, evalB T b s = some o ∧ KOn N R B C o
structure WBind (i : Nat) (v : SV) (s : En) (Q : En → Prop) : Prop where
  h : ∃ s', bindN i v s = some s' ∧ Q s'
structure WAsg (i : Nat) (ev : EV) (s : En) (Q : En → Prop) : Prop where
  h : ∃ s', (match ev with
    | .sh d => bindN i (.sh d) s
    | .own d => bindN i (.own d) s
    | .slot j => match moveD i j s with
      | some s3 => some s3
      | none => match (EV.slot j).take s with
        | some (d, s2) => bindN i (.sh d) s2
        | none => none) = some s' ∧ Q s'
structure WTake (ev : EV) (s : En) (Q : D → En → Prop) : Prop where
  h : ∃ d s', ev.take s = some (d, s') ∧ Q d s'
structure WLook (ev : EV) (s : En) (Q : D → Prop) : Prop where
  h : ∃ d, ev.look s = some d ∧ Q d
structure WOp (o : Op) (ds : List D) (Q : EV → Prop) : Prop where
  h : ∃ d, o.eval ds = some d ∧ Q (if o.fresh d then .own d else .sh d)
structure WIf (ev : EV) (A B : Prop) : Prop where
  h : ∃ q : Bool, ev = .sh (.bool q) ∧ (q = true → A) ∧ (q = false → B)
/-- a def asked -/
structure FS (f : Fn) (av : List SV) (P : SV → List SV → Prop) : Prop where
  h : ∃ v os, f av = some (v, os) ∧ P v os
structure WApp (T : List Fn) (k : Nat) (es : List EV) (s : En) (Q : EV → En → Prop) : Prop where
  h : ∃ ev s', (match T[k]? with
    | some f => callFn f es s
    | none => none) = some (ev, s') ∧ Q ev s'
structure WBack (v : SV) (es : List EV) (os : List SV) (s : En) (Q : EV → En → Prop) : Prop where
  h : ∃ s', putBack es os s = some s' ∧ ((∃ d, v = .sh d ∧ Q (.sh d) s') ∨ ∃ d, v = .own d ∧ Q (.own d) s')
structure WFor (T : List Fn) (t : MT) (b : MSs) (ds : List D) (s : En) (N : En → Prop) (R : SV → En → Prop) : Prop where
  h : ∃ o, forGo (fun d s => match assignT T t d s with
      | some s1 => evalB T b s1
      | none => none) ds s = some o ∧ KOn N R (fun _ => False) (fun _ => False) o
structure WWhile (T : List Fn) (c : ME) (b : MSs) (s : En) (N : En → Prop) (R : SV → En → Prop) : Prop where
  h : ∃ o n, whileGo (evalE T c) (evalB T b) n s = some o ∧ KOn N R (fun _ => False) (fun _ => False) o
def compF (T : List Fn) (own : List Nat) (tg : MT) (cnd elt : ME) (d : D) (s : En) : Option (Option D × En) := match assignT T tg d s with
        | some s1 => match evalE T cnd s1 with
          | some (.sh (.bool true), s2) => match evalE T elt s2 with
            | some (e, s3) => match e.take s3 with
              | some (y, s4) => some (some y, wipeE own s4)
              | none => none
            | none => none
          | some (.sh (.bool false), s2) => some (none, wipeE own s2)
          | _ => none
        | none => none
structure WComp (T : List Fn) (own : List Nat) (tg : MT) (cnd elt : ME) (ds : List D) (s : En) (Q : List D → En → Prop) : Prop where
  h : ∃ ys s', compGo (compF T own tg cnd elt) ds s = some (ys, s') ∧ Q ys s'
section
variable {T : List Fn} {s s1 s2 s3 : En} {a b c e : ME} {x y r : MSs} {as : MEs} {Q : EV → En → Prop} {N : En → Prop} {R : SV → En → Prop} {B C : En → Prop} {i j : Nat} {d : D}
/-! ### expressions -/
theorem WE.mono {Q' : EV → En → Prop} (h : WE T e s Q) (m : ∀ ev s, Q ev s → Q' ev s) : WE T e s Q' := by
  obtain ⟨ev, s', h1, h2⟩ := h
  exact ⟨ev, s', h1, m _ _ h2⟩
theorem we_cst (q : Q (.sh d) s) : WE T (.cst d) s Q := ⟨_, _, rfl, q⟩
theorem we_sh (h : s[i]? = some (.sh d)) (q : Q (.sh d) s) : WE T (.var i) s Q := ⟨_, _, by simp only [evalE, h], q⟩
theorem we_ins (h : s[i]? = some (.ins d)) (q : Q (.sh d) s) : WE T (.var i) s Q := ⟨_, _, by simp only [evalE, h], q⟩
theorem we_own (h : s[i]? = some (.own d)) (q : Q (.slot i) s) : WE T (.var i) s Q := ⟨_, _, by simp only [evalE, h], q⟩
theorem we_inp (h : s[i]? = some (.inp d)) (q : Q (.slot i) s) : WE T (.var i) s Q := ⟨_, _, by simp only [evalE, h], q⟩
theorem wl_sh {Q : D → Prop} (q : Q d) : WLook (.sh d) s Q := ⟨_, rfl, q⟩
theorem wl_own {Q : D → Prop} (q : Q d) : WLook (.own d) s Q := ⟨_, rfl, q⟩
theorem wl_slot {Q : D → Prop} (h : (EV.slot i).look s = some d) (q : Q d) : WLook (.slot i) s Q := ⟨_, h, q⟩
theorem wt_sh {Q : D → En → Prop} (q : Q d s) : WTake (.sh d) s Q := ⟨_, _, rfl, q⟩
theorem wt_own {Q : D → En → Prop} (q : Q d s) : WTake (.own d) s Q := ⟨_, _, rfl, q⟩
theorem wt_slot {Q : D → En → Prop} (h : (EV.slot i).take s = some (d, s1)) (hs : s1 = s2) (q : Q d s2) : WTake (.slot i) s Q := by
  subst hs
  exact ⟨_, _, h, q⟩
theorem wo_mk {o : Op} {ds : List D} {Q : EV → Prop} (h : o.eval ds = some d) (hf : o.fresh d = false) (q : Q (.sh d)) : WOp o ds Q := ⟨d, h, by rw [hf]; exact q⟩
theorem wo_mkO {o : Op} {ds : List D} {Q : EV → Prop} (h : o.eval ds = some d) (hf : o.fresh d = true) (q : Q (.own d)) : WOp o ds Q := ⟨d, h, by rw [hf]; exact q⟩
theorem we_op1 {o : Op} (h : WE T a s fun ea s1 => WLook ea s1 fun da => WOp o [da] fun ev => Q ev s1) : WE T (.op o (.cons a .nil)) s Q := by
  obtain ⟨ea, s1, h1, da, h2, d, h3, q⟩ := h
  exact ⟨_, _, E_op1 h1 h2 h3, q⟩
theorem we_op2 {o : Op} (h : WE T a s fun ea s1 => WE T b s1 fun eb s2 => WLook ea s2 fun da => WLook eb s2 fun db => WOp o [da, db] fun ev => Q ev s2) : WE T (.op o (.cons a (.cons b .nil))) s Q := by
  obtain ⟨ea, s1, h1, eb, s2, h2, da, h3, db, h4, d, h5, q⟩ := h
  exact ⟨_, _, E_op2 h1 h2 h3 h4 h5, q⟩
theorem wes_nil {Q : List EV → En → Prop} (q : Q [] s) : WEs T .nil s Q := ⟨_, _, rfl, q⟩
theorem wes_cons {Q : List EV → En → Prop} (h : WE T a s fun ea s1 => WEs T as s1 fun es s2 => Q (ea :: es) s2) : WEs T (.cons a as) s Q := by
  obtain ⟨ea, s1, h1, es, s2, h2, q⟩ := h
  exact ⟨_, _, Es_cons h1 h2, q⟩
theorem wts_nil {Q : List D → En → Prop} (q : Q [] s) : WTs T .nil s Q := ⟨_, _, rfl, q⟩
theorem wts_cons {Q : List D → En → Prop} (h : WE T a s fun ea s1 => WTake ea s1 fun d s2 => WTs T as s2 fun ds s3 => Q (d :: ds) s3) : WTs T (.cons a as) s Q := by
  obtain ⟨ea, s1, h1, d, s2, h2, ds, s3, h3, q⟩ := h
  exact ⟨_, _, Ts_cons h1 h2 h3, q⟩
structure WBig (n : Nat) (A : Prop) : Prop where
  h : n ≤ BIG ∧ A
theorem wbig {n : Nat} {A : Prop} (h : n ≤ BIG) (q : A) : WBig n A := ⟨h, q⟩
theorem we_tup (h : WTs T as s fun ds s1 => WBig ds.length (Q (.sh (.tuple ds)) s1)) : WE T (.tup as) s Q := by
  obtain ⟨ds, s1, h1, h2, q⟩ := h
  exact ⟨_, _, E_tup h1 h2, q⟩
theorem we_lst (h : WTs T as s fun ds s1 => WBig ds.length (Q (.own (.list ds)) s1)) : WE T (.lst as) s Q := by
  obtain ⟨ds, s1, h1, h2, q⟩ := h
  exact ⟨_, _, E_lst h1 h2, q⟩
structure WDic (ds : List D) (Q : EV → Prop) : Prop where
  h : ∃ kvs, pairUp ds = some kvs ∧ ds.length ≤ 30 ∧ Q (.own (.dict (mergeUp [] kvs)))
theorem wdic {ds : List D} {kvs kvs' : List (D × D)} {Q : EV → Prop} (hp : pairUp ds = some kvs) (hl : Nat.ble ds.length 30 = true) (hm : mergeUp [] kvs = kvs') (q : Q (.own (.dict kvs'))) : WDic ds Q := ⟨kvs, hp, Nat.le_of_ble_eq_true hl, by rw [hm]; exact q⟩
theorem we_dic (h : WTs T as s fun ds s1 => WDic ds fun ev => Q ev s1) : WE T (.dic as) s Q := by
  obtain ⟨ds, s1, h1, kvs, h2, h3, q⟩ := h
  exact ⟨_, _, by simp only [evalE, h1, h2, if_pos h3], q⟩
theorem we_and (h : WE T a s fun ea s1 => WIf ea (WE T b s1 Q) (Q (.sh (.bool false)) s1)) : WE T (.and a b) s Q := by
  obtain ⟨ea, s1, h1, q, rfl, h2, h3⟩ := h
  cases q
  · exact ⟨_, _, by simp only [evalE, h1], h3 rfl⟩
  · obtain ⟨eb, s2, h4, h5⟩ := h2 rfl
    exact ⟨_, _, by simp only [evalE, h1, h4], h5⟩
theorem we_or (h : WE T a s fun ea s1 => WIf ea (Q (.sh (.bool true)) s1) (WE T b s1 Q)) : WE T (.or a b) s Q := by
  obtain ⟨ea, s1, h1, q, rfl, h2, h3⟩ := h
  cases q
  · obtain ⟨eb, s2, h4, h5⟩ := h3 rfl
    exact ⟨_, _, by simp only [evalE, h1, h4], h5⟩
  · exact ⟨_, _, by simp only [evalE, h1], h2 rfl⟩
structure WNot (ev : EV) (Q : EV → Prop) : Prop where
  h : ∃ p, ev = .sh (.bool p) ∧ Q (.sh (.bool (!p)))
theorem wnot {p : Bool} {Q : EV → Prop} (q : Q (.sh (.bool (!p)))) : WNot (.sh (.bool p)) Q := ⟨_, rfl, q⟩
theorem we_not (h : WE T a s fun ea s1 => WNot ea fun ev => Q ev s1) : WE T (.not a) s Q := by
  obtain ⟨ea, s1, h1, p, rfl, q⟩ := h
  exact ⟨_, _, E_not h1, q⟩
def cutE (bo : Bool) (T : List Fn) (a : ME) (s : En) : Option (Option Int × En) := if bo then (match evalE T a s with
        | some (.sh (.int i), s2) => some (some i, s2)
        | _ => none) else some (none, s)
structure WCut (bo : Bool) (T : List Fn) (a : ME) (s : En) (Q : Option Int → En → Prop) : Prop where
  h : ∃ l s', cutE bo T a s = some (l, s') ∧ Q l s'
theorem wc_no {Q : Option Int → En → Prop} (q : Q none s) : WCut false T a s Q := ⟨_, _, rfl, q⟩
structure WInt (ev : EV) (Q : Int → Prop) : Prop where
  h : ∃ i, ev = .sh (.int i) ∧ Q i
theorem wint {n : Int} {Q : Int → Prop} (q : Q n) : WInt (.sh (.int n)) Q := ⟨_, rfl, q⟩
theorem wc_yes {Q : Option Int → En → Prop} (h : WE T a s fun ea s1 => WInt ea fun i => Q (some i) s1) : WCut true T a s Q := by
  obtain ⟨ea, s1, h1, i, rfl, q⟩ := h
  exact ⟨_, _, by simp only [cutE, h1, if_true], q⟩
structure WSl (d : D) (l h : Option Int) (Q : EV → Prop) : Prop where
  h : ∃ r, sliceD d l h = some r ∧ Q (if isList r then .own r else .sh r)
theorem wsl_t {xs : List D} {l h : Option Int} {Q : EV → Prop} (q : Q (.sh (.tuple (cut xs l h)))) : WSl (.tuple xs) l h Q := ⟨_, rfl, q⟩
theorem wsl_l {xs : List D} {l h : Option Int} {Q : EV → Prop} (q : Q (.own (.list (cut xs l h)))) : WSl (.list xs) l h Q := ⟨_, rfl, q⟩
theorem we_slc {bl bh : Bool} (h : WE T a s fun ea s1 => WCut bl T b s1 fun l s2 => WCut bh T c s2 fun r s3 => WLook ea s3 fun d => WSl d l r fun ev => Q ev s3) : WE T (.slc bl bh a b c) s Q := by
  obtain ⟨ea, s1, h1, l, s2, h2, r, s3, h3, d, h4, e, h5, q⟩ := h
  refine ⟨_, _, ?_, q⟩
  have key : evalE T (.slc bl bh a b c) s = (match evalE T a s with
    | some (e, s1) => match cutE bl T b s1 with
      | some (l, s2) => match cutE bh T c s2 with
        | some (h, s3) => match e.look s3 with
          | some d => match sliceD d l h with
            | some r => some (if isList r then .own r else .sh r, s3)
            | none => none
          | none => none
        | none => none
      | none => none
    | none => none) := by
    simp only [evalE]
    rfl
  simp only [key, h1, h2, h3, h4, h5]
structure WBool (ev : EV) (A : Prop) : Prop where
  h : ∃ q, ev = .sh (.bool q) ∧ A
theorem wbool {p : Bool} {A : Prop} (q : A) : WBool (.sh (.bool p)) A := ⟨_, rfl, q⟩
theorem wop_b {o : Op} {ds : List D} {q : Bool} (h : (∃ d, o.eval ds = some d ∧ (if o.fresh d then EV.own d else .sh d) = .sh (.bool q))) : o.eval ds = some (.bool q) := by
  obtain ⟨d, h1, h2⟩ := h
  split at h2
  · cases h2
  · cases h2
    exact h1
theorem we_chain {o1 o2 : Op} (h : WE T a s fun ea s1 => WE T b s1 fun eb s2 => WLook ea s2 fun da => WLook eb s2 fun db => WOp o1 [da, db] fun ev => WIf ev (WE T c s2 fun ec s3 => WLook eb s3 fun db => WLook ec s3 fun dc => WOp o2 [db, dc] fun ev => WBool ev (Q ev s3)) (Q (.sh (.bool false)) s2)) : WE T (.chain o1 o2 a b c) s Q := by
  obtain ⟨ea, s1, h1, eb, s2, h2, da, h3, db, h4, dd, h5, q, h5', h6, h7⟩ := h
  have h5 := wop_b ⟨dd, h5, h5'⟩
  cases q
  · exact ⟨_, _, by simp only [evalE, h1, h2, h3, h4, h5], h7 rfl⟩
  · obtain ⟨ec, s3, h8, db', h9, dc, h10, d2, h11, r, h12, q⟩ := h6 rfl
    have h11 := wop_b ⟨d2, h11, h12⟩
    refine ⟨.sh (.bool r), s3, by simp only [evalE, h1, h2, h3, h4, h5, h8, h9, h10, h11], ?_⟩
    rw [← h12]
    exact q
theorem we_chain3 {o1 o2 o3 : Op} {d : ME} (h : WE T a s fun ea s1 => WE T b s1 fun eb s2 => WLook ea s2 fun da => WLook eb s2 fun db => WOp o1 [da, db] fun ev => WIf ev (WE T c s2 fun ec s3 => WLook eb s3 fun db => WLook ec s3 fun dc => WOp o2 [db, dc] fun ev => WIf ev (WE T d s3 fun ed s4 => WLook ec s4 fun dc => WLook ed s4 fun dd => WOp o3 [dc, dd] fun ev => WBool ev (Q ev s4)) (Q (.sh (.bool false)) s3)) (Q (.sh (.bool false)) s2)) : WE T (.chain3 o1 o2 o3 a b c d) s Q := by
  obtain ⟨ea, s1, h1, eb, s2, h2, da, h3, db, h4, dd, h5, q, h5', h6, h7⟩ := h
  have h5 := wop_b ⟨dd, h5, h5'⟩
  cases q
  · exact ⟨_, _, by simp only [evalE, h1, h2, h3, h4, h5], h7 rfl⟩
  · obtain ⟨ec, s3, h8, db', h9, dc, h10, d2, h11, q2, h12, h13, h14⟩ := h6 rfl
    have h11 := wop_b ⟨d2, h11, h12⟩
    cases q2
    · exact ⟨_, _, by simp only [evalE, h1, h2, h3, h4, h5, h8, h9, h10, h11], h14 rfl⟩
    · obtain ⟨ed, s4, h15, dc', h16, dd', h17, d3, h18, r, h19, q⟩ := h13 rfl
      have h18 := wop_b ⟨d3, h18, h19⟩
      refine ⟨.sh (.bool r), s4, by simp only [evalE, h1, h2, h3, h4, h5, h8, h9, h10, h11, h15, h16, h17, h18], ?_⟩
      rw [← h19]
      exact q
theorem we_call {k : Nat} (h : WEs T as s fun es s1 => WApp T k es s1 Q) : WE T (.call k as) s Q := by
  obtain ⟨es, s1, h1, ev, s2, h2, q⟩ := h
  refine ⟨ev, s2, ?_, q⟩
  simp only [evalE]
  split at h2
  · rename_i f hf
    simp only [hf, h1, h2]
  · cases h2
theorem wapp {k : Nat} {es : List EV} {f : Fn} {av : List SV} (hT : T[k]? = some f) (ha : argsOf s es = some av) (hn : (slotsIn es).Nodup) (h : FS f av fun v os => WBack v es os s Q) : WApp T k es s Q := by
  obtain ⟨v, os, h1, s', h2, h3⟩ := h
  rcases h3 with ⟨d, rfl, q⟩ | ⟨d, rfl, q⟩
  · refine ⟨.sh d, s', ?_, q⟩
    simp only [hT, callFn, ha, if_pos hn, h1, h2]
  · refine ⟨.own d, s', ?_, q⟩
    simp only [hT, callFn, ha, if_pos hn, h1, h2]
theorem wback_sh {es : List EV} {os : List SV} (hp : putBack es os s = some s1) (hs : s1 = s2) (q : Q (.sh d) s2) : WBack (.sh d) es os s Q := by
  subst hs
  exact ⟨_, hp, .inl ⟨_, rfl, q⟩⟩
theorem wback_own {es : List EV} {os : List SV} (hp : putBack es os s = some s1) (hs : s1 = s2) (q : Q (.own d) s2) : WBack (.own d) es os s Q := by
  subst hs
  exact ⟨_, hp, .inr ⟨_, rfl, q⟩⟩
theorem FS.imp {f : Fn} {av : List SV} {P P' : SV → List SV → Prop} (h : FS f av P) (i : ∀ v os, P v os → P' v os) : FS f av P' := by
  obtain ⟨v, os, h1, h2⟩ := h
  exact ⟨v, os, h1, i _ _ h2⟩
/-- a def that only looks: what it tells of plain things -/
structure PF (f : Fn) (av : List SV) (d : D) : Prop where
  h : ∃ os, f av = some (.sh d, os) ∧ os.length = av.length
theorem argsOf_len {es : List EV} : ∀ {av : List SV}, argsOf s es = some av → av.length = es.length := by
  induction es with
  | nil =>
    intro av h
    cases h
    rfl
  | cons e r ih =>
    intro av h
    unfold argsOf at h
    split at h
    · split at h
      · rename_i q
        cases h
        simp [ih q]
      · cases h
    · cases h
theorem putBack_no : ∀ {es : List EV} {os : List SV}, slotsIn es = [] → os.length = es.length → putBack es os s = some s
  | [], _, _, _ => rfl
  | .sh d :: es, o :: os, h, l => by
    unfold putBack
    exact putBack_no (es := es) h (by simpa using l)
  | .own d :: es, o :: os, h, l => by
    unfold putBack
    exact putBack_no (es := es) h (by simpa using l)
  | .slot i :: es, o :: os, h, l => by cases h
  | .sh d :: es, [], h, l => by simp at l
  | .own d :: es, [], h, l => by simp at l
  | .slot d :: es, [], h, l => by simp at l
theorem wapp_pf {k : Nat} {es : List EV} {f : Fn} {av : List SV} (hT : T[k]? = some f) (h : PF f av d) (ha : argsOf s es = some av) (hn : slotsIn es = []) (q : Q (.sh d) s) : WApp T k es s Q := by
  obtain ⟨os, h1, h2⟩ := h
  exact wapp hT ha (by rw [hn]; exact List.nodup_nil) ⟨_, _, h1, s, putBack_no hn (by rw [h2, argsOf_len ha]), .inl ⟨_, rfl, q⟩⟩
structure WIs (x : En) (Q : En → Prop) : Prop where
  h : ∃ y, x = y ∧ Q y
theorem wis {Q : En → Prop} (h : s = s1) (q : Q s1) : WIs s Q := ⟨_, h, q⟩
theorem we_comp {own : List Nat} {tg : MT} {it : MI} (h : WI T it s fun ds s1 => WIs (wipeE own s1) fun s2 => WComp T own tg a b ds s2 fun ys s3 => WBig ys.length (WIs (restore own s1 s3) fun s4 => Q (.own (.list ys)) s4)) : WE T (.comp own tg it a b) s Q := by
  obtain ⟨ds, s1, h1, s2, rfl, ys, s3, h2, h3, s4, rfl, q⟩ := h
  have h2' : compGo (compF T own tg a b) ds (wipeE own s1) = some (ys, s3) := h2
  refine ⟨.own (.list ys), restore own s1 s3, ?_, q⟩
  simp only [evalE, h1]
  show (match compGo (compF T own tg a b) ds (wipeE own s1) with
      | some (ys, s2) => if ys.length ≤ BIG then some (EV.own (.list ys), restore own s1 s2) else none
      | none => none) = _
  rw [h2']
  simp only [if_pos h3]
/-- each thing looked at by itself, nothing changed -/
theorem wcomp_map {own : List Nat} {tg : MT} {Q : List D → En → Prop} {α : Type} {g : α → D} {xs : List α} (f : α → D) (h : ∀ x ∈ xs, WT T tg (g x) s fun s1 => WE T b s1 fun e s3 => WTake e s3 fun y s4 => y = f x ∧ wipeE own s4 = s) (q : Q (xs.map f) s) : WComp T own tg (.cst (.bool true)) b (xs.map g) s Q := by
  refine ⟨xs.map f, s, ?_, q⟩
  clear q
  induction xs with
  | nil => rfl
  | cons x r ih =>
    obtain ⟨s1, h1, e, s3, h2, y, s4, h3, rfl, h4⟩ := h x (by simp)
    have : compF T own tg (.cst (.bool true)) b (g x) s = some (some (f x), s) := by simp only [compF, h1, evalE, h2, h3, h4]
    simp only [List.map_cons, compGo, this, ih fun y m => h y (by simp [m])]
/-! ### what is gone through -/
structure WItems (d : D) (Q : List D → Prop) : Prop where
  h : ∃ ds, itemsOf d = some ds ∧ Q ds
theorem wit_l {ds : List D} {Q : List D → Prop} (q : Q ds) : WItems (.list ds) Q := ⟨_, rfl, q⟩
theorem wit_t {ds : List D} {Q : List D → Prop} (q : Q ds) : WItems (.tuple ds) Q := ⟨_, rfl, q⟩
structure WSeq (d : D) (Q : List D → Prop) : Prop where
  h : ∃ ds, seqOf d = some ds ∧ Q ds
theorem wsq_l {ds : List D} {Q : List D → Prop} (q : Q ds) : WSeq (.list ds) Q := ⟨_, rfl, q⟩
theorem wsq_t {ds : List D} {Q : List D → Prop} (q : Q ds) : WSeq (.tuple ds) Q := ⟨_, rfl, q⟩
theorem wi_seq {Q : List D → En → Prop} (h : WE T a s fun ea s1 => WTake ea s1 fun d s2 => WItems d fun ds => Q ds s2) : WI T (.seq a) s Q := by
  obtain ⟨ea, s1, h1, d, s2, h2, ds, h3, q⟩ := h
  exact ⟨_, _, by simp only [evalI, h1, h2, h3], q⟩
theorem wi_keys {i : Nat} {kvs : List (D × D)} {Q : List D → En → Prop} (h : s[i]? = some (.own (.dict kvs))) (hk : (kvs.all fun p => isKey p.1) = true) (q : Q (kvs.map Prod.fst) (s.set i (.sh (.dict kvs)))) : WI T (.seq (.var i)) s Q := by
  refine ⟨_, _, ?_, q⟩
  simp only [evalI, evalE, h, EV.take, itemsOf, dkeys, hk, if_true]
structure WRg1 (ev : EV) (Q : List D → Prop) : Prop where
  h : ∃ n, ev = .sh (.int n) ∧ (-(10 ^ 15) < n ∧ n < 10 ^ 15) ∧ Q ((List.range n.toNat).map fun i => .int (i : Nat))
structure WRg2 (ev ev' : EV) (Q : List D → Prop) : Prop where
  h : ∃ m n, ev = .sh (.int m) ∧ ev' = .sh (.int n) ∧ (-(10 ^ 15) < m ∧ m < 10 ^ 15 ∧ -(10 ^ 15) < n ∧ n < 10 ^ 15) ∧ Q ((List.range (n - m).toNat).map fun i => .int (m + (i : Nat)))
theorem wrg1 {n : Int} {Q : List D → Prop} (h : -(10 ^ 15) < n ∧ n < 10 ^ 15) (q : Q ((List.range n.toNat).map fun i => .int (i : Nat))) : WRg1 (.sh (.int n)) Q := ⟨n, rfl, h, q⟩
theorem wrg2 {m n : Int} {Q : List D → Prop} (h : -(10 ^ 15) < m ∧ m < 10 ^ 15 ∧ -(10 ^ 15) < n ∧ n < 10 ^ 15) (q : Q ((List.range (n - m).toNat).map fun i => .int (m + (i : Nat)))) : WRg2 (.sh (.int m)) (.sh (.int n)) Q := ⟨m, n, rfl, rfl, h, q⟩
theorem wi_range1 {Q : List D → En → Prop} (h : WE T a s fun ea s1 => WRg1 ea fun ds => Q ds s1) : WI T (.range (.cons a .nil)) s Q := by
  obtain ⟨ea, s1, h1, n, rfl, h2, q⟩ := h
  exact ⟨_, _, I_rg1 h1 h2, q⟩
theorem wi_range2 {Q : List D → En → Prop} (h : WE T a s fun ea s1 => WE T b s1 fun eb s2 => WRg2 ea eb fun ds => Q ds s2) : WI T (.range (.cons a (.cons b .nil))) s Q := by
  obtain ⟨ea, s1, h1, eb, s2, h2, m, n, rfl, rfl, h3, q⟩ := h
  exact ⟨_, _, I_rg2 h1 h2 h3, q⟩
theorem wi_enum {Q : List D → En → Prop} (h : WE T a s fun ea s1 => WTake ea s1 fun d s2 => WSeq d fun ds => Q (enumOf ds) s2) : WI T (.enum a) s Q := by
  obtain ⟨ea, s1, h1, d, s2, h2, ds, h3, q⟩ := h
  exact ⟨_, _, by simp only [evalI, h1, h2, h3], q⟩
theorem wi_rev {Q : List D → En → Prop} (h : WE T a s fun ea s1 => WTake ea s1 fun d s2 => WSeq d fun ds => Q ds.reverse s2) : WI T (.rev a) s Q := by
  obtain ⟨ea, s1, h1, d, s2, h2, ds, h3, q⟩ := h
  exact ⟨_, _, by simp only [evalI, h1, h2, h3], q⟩
theorem wi_zip {Q : List D → En → Prop} (h : WE T a s fun ea s1 => WTake ea s1 fun d s2 => WE T b s2 fun eb s3 => WTake eb s3 fun d' s4 => WSeq d fun ds => WSeq d' fun ds' => Q (pairs2 ds ds') s4) : WI T (.zip a b) s Q := by
  obtain ⟨ea, s1, h1, d, s2, h2, eb, s3, h3, d', s4, h4, ds, h5, ds', h6, q⟩ := h
  exact ⟨_, _, by simp only [evalI, h1, h2, h3, h4, h5, h6], q⟩
structure WZr (d d' : D) (Q : List D → Prop) : Prop where
  h : ∃ xs ys, d = .tuple xs ∧ d' = .tuple ys ∧ xs.length = ys.length ∧ Q (pairs2 xs.reverse ys.reverse)
theorem wi_ziprev {Q : List D → En → Prop} (h : WE T a s fun ea s1 => WTake ea s1 fun d s2 => WE T b s2 fun eb s3 => WTake eb s3 fun d' s4 => WZr d d' fun ds => Q ds s4) : WI T (.ziprev a b) s Q := by
  obtain ⟨ea, s1, h1, d, s2, h2, eb, s3, h3, d', s4, h4, xs, ys, rfl, rfl, hl, q⟩ := h
  exact ⟨_, _, by simp only [evalI, h1, h2, h3, h4, if_pos hl], q⟩
/-! ### targets -/
theorem wbind {v w : SV} {Q : En → Prop} (h : s[i]? = some w) (f : w.free = true) (hs : s.set i v = s1) (q : Q s1) : WBind i v s Q := by
  subst hs
  exact ⟨_, bind_free h f, q⟩
theorem wt_name {Q : En → Prop} (h : WBind i (.sh d) s Q) : WT T (.name i) d s Q := ⟨h.h⟩
theorem wt_tup {ts : MTs} {ds : List D} {Q : En → Prop} (h : WTT T ts ds s Q) : WT T (.tup ts) (.tuple ds) s Q := ⟨h.h⟩
theorem wt_tupL {ts : MTs} {ds : List D} {Q : En → Prop} (h : WTT T ts ds s Q) : WT T (.tup ts) (.list ds) s Q := ⟨h.h⟩
theorem wtt_nil {Q : En → Prop} (q : Q s) : WTT T .nil [] s Q := ⟨_, rfl, q⟩
theorem wtt_cons {t : MT} {ts : MTs} {ds : List D} {Q : En → Prop} (h : WT T t d s fun s1 => WTT T ts ds s1 Q) : WTT T (.cons t ts) (d :: ds) s Q := by
  obtain ⟨s1, h1, s2, h2, q⟩ := h
  exact ⟨_, by simp only [assignTs, h1, h2], q⟩
structure WSub (i : Nat) (dk d : D) (s : En) (Q : En → Prop) : Prop where
  h : ∃ s', subPut i dk d s = some s' ∧ Q s'
theorem wt_sub {Q : En → Prop} (ho : ownsAt s i = true) (h : WE T a s fun e s1 => WLook e s1 fun dk => WSub i dk d s1 Q) : WT T (.sub i a) d s Q := by
  obtain ⟨e, s1, h1, dk, h2, s', h3, q⟩ := h
  exact ⟨s', by simp only [assignT, ho, if_true, h1, h2, h3], q⟩
theorem wsub_mk {dk : D} {Q : En → Prop} (h : subPut i dk d s = some s1) (hs : s1 = s2) (q : Q s2) : WSub i dk d s Q := by
  subst hs
  exact ⟨_, h, q⟩
theorem wasg_sh {Q : En → Prop} (h : WBind i (.sh d) s Q) : WAsg i (.sh d) s Q := ⟨h.h⟩
theorem wasg_own {Q : En → Prop} (h : WBind i (.own d) s Q) : WAsg i (.own d) s Q := ⟨h.h⟩
theorem wasg_slot {Q : En → Prop} (hm : moveD i j s = none) (h : WTake (.slot j) s fun d s1 => WBind i (.sh d) s1 Q) : WAsg i (.slot j) s Q := by
  obtain ⟨d, s1, h1, s2, h2, q⟩ := h
  refine ⟨s2, ?_, q⟩
  show (match moveD i j s with
      | some s3 => some s3
      | none => match (EV.slot j).take s with
        | some (d, s2) => bindN i (.sh d) s2
        | none => none) = some s2
  rw [hm]
  simp only
  rw [h1]
  exact h2
theorem wasg_move {kvs : List (D × D)} {Q : En → Prop} (h : s[j]? = some (.own (.dict kvs))) (q : WBind i (.own (.dict kvs)) (s.set j .no) Q) : WAsg i (.slot j) s Q := by
  obtain ⟨s2, h2, q⟩ := q
  refine ⟨s2, ?_, q⟩
  show (match moveD i j s with
      | some s3 => some s3
      | none => match (EV.slot j).take s with
        | some (d, s2) => bindN i (.sh d) s2
        | none => none) = some s2
  rw [show moveD i j s = some s2 by unfold moveD; rw [h]; exact h2]
theorem wif_t {ev : EV} {A B : Prop} (h : ev = .sh (.bool true)) (a : A) : WIf ev A B := ⟨true, h, fun _ => a, fun z => by cases z⟩
theorem wif_f {ev : EV} {A B : Prop} (h : ev = .sh (.bool false)) (b : B) : WIf ev A B := ⟨false, h, fun z => (by cases z), fun _ => b⟩
theorem wif_dec {p : Prop} [Decidable p] {A B : Prop} (a : p → A) (b : ¬ p → B) : WIf (.sh (.bool (decide p))) A B := ⟨_, rfl, fun z => a (of_decide_eq_true z), fun z => b (of_decide_eq_false z)⟩
theorem wif_ndec {p : Prop} [Decidable p] {A B : Prop} (a : ¬ p → A) (b : p → B) : WIf (.sh (.bool (!decide p))) A B := ⟨_, rfl, fun z => a (by simpa using z), fun z => b (by simpa using z)⟩
theorem wif_df {p : Prop} [Decidable p] {A B : Prop} (h : ¬ p) (b : B) : WIf (.sh (.bool (decide p))) A B := wif_f (by rw [decide_eq_false h]) b
theorem wif_nesame {α : Type} [DecidableEq α] {z : α} {A B : Prop} (b : B) : WIf (.sh (.bool (!decide (z = z)))) A B := wif_f (by simp) b
theorem wif_eqsame {α : Type} [DecidableEq α] {z : α} {A B : Prop} (b : A) : WIf (.sh (.bool (decide (z = z)))) A B := wif_t (by simp) b
theorem wb_nil (q : N s) : WB T .nil s N R B C := ⟨_, rfl, q⟩
theorem WB.mono {N' : En → Prop} {R' : SV → En → Prop} {B' C' : En → Prop} (h : WB T x s N R B C) (hn : ∀ s, N s → N' s) (hr : ∀ v s, R v s → R' v s) (hb : ∀ s, B s → B' s) (hc : ∀ s, C s → C' s) : WB T x s N' R' B' C' := by
  obtain ⟨o, h1, h2⟩ := h
  refine ⟨o, h1, ?_⟩
  cases o
  · exact hn _ h2
  · exact hr _ _ h2
  · exact hb _ h2
  · exact hc _ h2
theorem wb_asg (h : WE T e s fun ev s1 => WAsg i ev s1 fun s2 => WB T r s2 N R B C) : WB T (.cons (.asg i e) r) s N R B C := by
  obtain ⟨ev, s1, h1, s2, h2, o, h3, q⟩ := h
  refine ⟨o, ?_, q⟩
  have : evalS T (.asg i e) s = some (.nx s2) := by
    cases ev with
    | sh d => simp only [evalS, h1] ; rw [show bindN i (.sh d) s1 = some s2 from h2]
    | own d => simp only [evalS, h1] ; rw [show bindN i (.own d) s1 = some s2 from h2]
    | slot j =>
      simp only [evalS, h1]
      have h2 : (match moveD i j s1 with
      | some s3 => some s3
      | none => match (EV.slot j).take s1 with
        | some (d, s2) => bindN i (.sh d) s2
        | none => none) = some s2 := h2
      cases mv : moveD i j s1 with
      | some s3 =>
        rw [mv] at h2
        cases h2
        rfl
      | none =>
        rw [mv] at h2
        simp only at h2 ⊢
        cases e : (EV.slot j).take s1 with
        | none => rw [e] at h2; cases h2
        | some p =>
          rw [e] at h2
          simp only at h2 ⊢
          rw [h2]
  exact B_nx this h3
theorem wb_asgT {t : MT} (h : WE T e s fun ev s1 => WTake ev s1 fun d s2 => WT T t d s2 fun s3 => WB T r s3 N R B C) : WB T (.cons (.asgT t e) r) s N R B C := by
  obtain ⟨ev, s1, h1, d, s2, h2, s3, h3, o, h4, q⟩ := h
  exact ⟨o, B_nx (S_asgT h1 h2 h3) h4, q⟩
theorem wb_expr (h : WE T e s fun ev s1 => WB T r s1 N R B C) : WB T (.cons (.expr e) r) s N R B C := by
  obtain ⟨ev, s1, h1, o, h4, q⟩ := h
  exact ⟨o, B_nx (by simp only [evalS, h1]) h4, q⟩
structure WRet (ev : EV) (s : En) (R : SV → En → Prop) : Prop where
  h : ∃ v s2, (match ev with
    | .sh d => some (SV.sh d, s)
    | .own d => some (SV.own d, s)
    | .slot j => (match s[j]? with
      | some (.own d) => some (SV.own d, s.set j .no)
      | some (.inp d) => some (SV.sh d, s.set j (.ins d))
      | _ => none)) = some (v, s2) ∧ R v s2
theorem wret_sh (q : R (.sh d) s) : WRet (.sh d) s R := ⟨_, _, rfl, q⟩
theorem wret_own (q : R (.own d) s) : WRet (.own d) s R := ⟨_, _, rfl, q⟩
theorem wret_slot {v : SV} (h : (match s[j]? with
      | some (.own d) => some (SV.own d, s.set j .no)
      | some (.inp d) => some (SV.sh d, s.set j (.ins d))
      | _ => none) = some (v, s1)) (hs : s1 = s2) (q : R v s2) : WRet (.slot j) s R := by
  subst hs
  exact ⟨_, _, h, q⟩
theorem wb_ret (h : WE T e s fun ev s1 => WRet ev s1 R) : WB T (.cons (.ret e) r) s N R B C := by
  obtain ⟨ev, s1, h1, v, s2, h2, q⟩ := h
  refine ⟨.ret v s2, B_ret ?_, q⟩
  cases ev with
  | sh d => cases h2; simp only [evalS, h1]
  | own d => cases h2; simp only [evalS, h1]
  | slot j =>
    simp only [evalS, h1]
    simp only at h2
    split at h2
    · rename_i z; cases h2; simp only [z]
    · rename_i z; cases h2; simp only [z]
    · cases h2
theorem wb_retN (q : R (.sh .none) s) : WB T (.cons .retN r) s N R B C := ⟨.ret (.sh .none) s, B_ret rfl, q⟩
theorem wb_pass (h : WB T r s N R B C) : WB T (.cons .pass r) s N R B C := by
  obtain ⟨o, h1, q⟩ := h
  exact ⟨o, B_nx rfl h1, q⟩
theorem wb_brk (q : B s) : WB T (.cons .brk r) s N R B C := ⟨.brk s, by simp only [evalB, evalS], q⟩
theorem wb_cont (q : C s) : WB T (.cons .cont r) s N R B C := ⟨.cont s, by simp only [evalB, evalS], q⟩
theorem wb_of {a : MS} {o : Out} (h : evalS T a s = some o) (q : KOn (fun s1 => WB T r s1 N R B C) R B C o) : WB T (.cons a r) s N R B C := by
  cases o with
  | nx s1 =>
    obtain ⟨o, h1, q⟩ := q
    exact ⟨o, B_nx h h1, q⟩
  | ret v s1 => exact ⟨_, B_ret h, q⟩
  | brk s1 => exact ⟨.brk s1, by simp only [evalB, h], q⟩
  | cont s1 => exact ⟨.cont s1, by simp only [evalB, h], q⟩
theorem wb_ite (h : WE T c s fun ev s1 => WIf ev (WB T x s1 (fun s2 => WB T r s2 N R B C) R B C) (WB T y s1 (fun s2 => WB T r s2 N R B C) R B C)) : WB T (.cons (.ite c x y) r) s N R B C := by
  obtain ⟨ev, s1, h1, q, rfl, h2, h3⟩ := h
  cases q
  · obtain ⟨o, h4, h5⟩ := h3 rfl
    exact wb_of ((S_iteF h1).trans h4) h5
  · obtain ⟨o, h4, h5⟩ := h2 rfl
    exact wb_of ((S_iteT h1).trans h4) h5
structure WMut (m : Mu) (i : Nat) (ds : List D) (s : En) (Q : En → Prop) : Prop where
  h : ∃ xs ys, lstAt s i = some xs ∧ m.run xs ds = some ys ∧ Q (setAt s i (.list ys))
theorem wb_mut {m : Mu} (h0 : (lstAt s i).isSome = true) (h : WTs T as s fun ds s1 => WMut m i ds s1 fun s2 => WB T r s2 N R B C) : WB T (.cons (.mut m i as) r) s N R B C := by
  obtain ⟨ds, s1, h1, xs, ys, h2, h3, o, h4, q⟩ := h
  obtain ⟨zs, hz⟩ := Option.isSome_iff_exists.mp h0
  exact ⟨o, B_nx (by simp only [evalS, hz, h1, h2, h3]) h4, q⟩
theorem wmut_app {xs : List D} {Q : En → Prop} (h : lstAt s i = some xs) (hl : xs.length < BIG) (hs : setAt s i (.list (xs ++ [d])) = s1) (hs2 : s1 = s2) (q : Q s2) : WMut .append i [d] s Q := by
  subst hs2
  subst hs
  exact ⟨xs, _, h, if_pos hl, q⟩
theorem wmut_mk {m : Mu} {ds xs ys : List D} {Q : En → Prop} (h : lstAt s i = some xs) (hr : m.run xs ds = some ys) (hs : setAt s i (.list ys) = s1) (hs2 : s1 = s2) (q : Q s2) : WMut m i ds s Q := by
  subst hs2
  subst hs
  exact ⟨xs, _, h, hr, q⟩
structure WExt (i : Nat) (ev : EV) (s : En) (Q : En → Prop) : Prop where
  h : ∃ xs ys, ev = .own (.list ys) ∧ lstAt s i = some xs ∧ xs.length + ys.length ≤ BIG ∧ Q (setAt s i (.list (xs ++ ys)))
theorem wb_ext (h0 : (lstAt s i).isSome = true) (h : WE T e s fun ev s1 => WExt i ev s1 fun s2 => WB T r s2 N R B C) : WB T (.cons (.ext i e) r) s N R B C := by
  obtain ⟨ev, s1, h1, xs, ys, rfl, h2, h3, o, h4, q⟩ := h
  obtain ⟨zs, hz⟩ := Option.isSome_iff_exists.mp h0
  exact ⟨o, B_nx (by simp only [evalS, hz, h1, h2, if_pos h3]) h4, q⟩
theorem wext {xs ys : List D} {Q : En → Prop} (h : lstAt s i = some xs) (hl : xs.length + ys.length ≤ BIG) (hs : setAt s i (.list (xs ++ ys)) = s1) (hs2 : s1 = s2) (q : Q s2) : WExt i (.own (.list ys)) s Q := by
  subst hs2
  subst hs
  exact ⟨xs, ys, rfl, h, hl, q⟩
theorem wb_for {t : MT} {it : MI} (h : WI T it s fun ds s1 => WFor T t x ds s1 (fun s2 => WB T r s2 N R B C) R) : WB T (.cons (.for t it x) r) s N R B C := by
  obtain ⟨ds, s1, h1, o, h2, q⟩ := h
  refine wb_of (S_for h1 h2) ?_
  cases o <;> first
    | exact q
    | exact False.elim q
theorem wb_while (h : WWhile T c x s (fun s2 => WB T r s2 N R B C) R) : WB T (.cons (.while c x) r) s N R B C := by
  obtain ⟨o, n, h2, q⟩ := h
  refine wb_of (S_while h2) ?_
  cases o <;> first
    | exact q
    | exact False.elim q
theorem wfor_map {t : MT} {α : Type} {g : α → D} (P : List α → En → Prop) (hs : ∀ a r s, P (a :: r) s → WT T t (g a) s fun s1 => WB T x s1 (P r) R N (P r)) (hN : ∀ s, P [] s → N s) : ∀ {xs : List α} {s : En}, P xs s → WFor T t x (xs.map g) s N R
  | [], s, h => ⟨.nx s, rfl, hN _ h⟩
  | a :: r, s, h => by
    obtain ⟨s1, h1, o, h2, q⟩ := hs a r s h
    have go : ∀ s', P r s' → (∃ o, forGo (fun d s => match assignT T t d s with
      | some s1 => evalB T x s1
      | none => none) (r.map g) s' = some o ∧ KOn N R (fun _ => False) (fun _ => False) o) := fun s' h' => (wfor_map P hs hN h').h
    refine ⟨?_⟩
    show ∃ o, forGo _ (g a :: r.map g) s = some o ∧ _
    unfold forGo
    simp only [h1, h2]
    cases o with
    | nx s2 => exact go s2 q
    | cont s2 => exact go s2 q
    | brk s2 => exact ⟨_, rfl, q⟩
    | ret v s2 => exact ⟨_, rfl, q⟩
/-- counted turns -/
theorem wfor_range {t : MT} {n : Nat} {g : Nat → D} (P : Nat → En → Prop) (hs : ∀ i s, i < n → P i s → WT T t (g i) s fun s1 => WB T x s1 (P (i + 1)) R N (P (i + 1))) (hN : ∀ s, P n s → N s) {s : En} (h0 : P 0 s) : WFor T t x ((List.range n).map g) s N R := by
  refine wfor_map (P := fun r s => ∃ i, r = (List.range' i (n - i)) ∧ i ≤ n ∧ P i s) (fun a r s h => ?_) (fun s h => ?_) ⟨0, by simp [List.range_eq_range'], Nat.zero_le _, h0⟩
  · obtain ⟨i, e, hi, h⟩ := h
    have hin : i < n := by
      by_cases z : i = n
      · subst z; simp at e
      · omega
    obtain ⟨k, hk⟩ : ∃ k, n - i = k + 1 := ⟨n - i - 1, by omega⟩
    rw [hk, List.range'_succ] at e
    obtain ⟨rfl, rfl⟩ := List.cons.inj e
    have key : ∀ s, P (a + 1) s → ∃ j, List.range' (a + 1) k = List.range' j (n - j) ∧ j ≤ n ∧ P j s := fun s h => ⟨a + 1, by rw [show n - (a + 1) = k by omega], by omega, h⟩
    obtain ⟨s1, h1, o, h2, h3⟩ := hs a s hin h
    refine ⟨s1, h1, o, h2, ?_⟩
    cases o with
    | nx s2 => exact key _ h3
    | cont s2 => exact key _ h3
    | brk s2 => exact h3
    | ret v s2 => exact h3
  · obtain ⟨i, e, hi, h⟩ := h
    have : n - i = 0 := by
      have := congrArg List.length e
      simpa using this.symm
    rw [show i = n by omega] at h
    exact hN s h
theorem wfor_nil {t : MT} (q : N s) : WFor T t x [] s N R := ⟨.nx s, rfl, q⟩
theorem wfor_cons {t : MT} {ds : List D} (h : WT T t d s fun s1 => WB T x s1 (fun s2 => WFor T t x ds s2 N R) R N (fun s2 => WFor T t x ds s2 N R)) : WFor T t x (d :: ds) s N R := by
  obtain ⟨s1, h1, o, h2, q⟩ := h
  cases o with
  | nx s2 =>
    obtain ⟨o, h3, q⟩ := q
    exact ⟨o, by simp only [forGo, h1, h2, h3], q⟩
  | cont s2 =>
    obtain ⟨o, h3, q⟩ := q
    exact ⟨o, by simp only [forGo, h1, h2, h3], q⟩
  | brk s2 => exact ⟨.nx s2, by simp only [forGo, h1, h2], q⟩
  | ret v s2 => exact ⟨.ret v s2, by simp only [forGo, h1, h2], q⟩
theorem wwhile {M : Nat} (P : Nat → En → Prop) (hs : ∀ m s, P m s → WE T c s fun ev s1 => WIf ev (WB T x s1 (fun s2 => ∃ k, k < m ∧ P k s2) R N (fun s2 => ∃ k, k < m ∧ P k s2)) (N s1)) : ∀ {s : En}, P M s → WWhile T c x s N R := by
  induction M using Nat.strongRecOn with
  | ind m ih =>
    intro s h
    obtain ⟨ev, s1, h1, q, rfl, h2, h3⟩ := hs m s h
    cases q
    · exact ⟨.nx s1, 1, by simp only [whileGo, h1], h3 rfl⟩
    · obtain ⟨o, h4, h5⟩ := h2 rfl
      have go : ∀ s2, (∃ k, k < m ∧ P k s2) → ∃ o n, whileGo (evalE T c) (evalB T x) n s2 = some o ∧ KOn N R (fun _ => False) (fun _ => False) o := fun s2 ⟨k, hk, hp⟩ => (ih k hk hp).h
      cases o with
      | nx s2 =>
        obtain ⟨o, n, h6, h7⟩ := go s2 h5
        exact ⟨o, n + 1, by simp only [whileGo, h1, h4, h6], h7⟩
      | cont s2 =>
        obtain ⟨o, n, h6, h7⟩ := go s2 h5
        exact ⟨o, n + 1, by simp only [whileGo, h1, h4, h6], h7⟩
      | brk s2 => exact ⟨.nx s2, 1, by simp only [whileGo, h1, h4], h5⟩
      | ret v s2 => exact ⟨.ret v s2, 1, by simp only [whileGo, h1, h4], h5⟩
theorem WFor.mono {t : MT} {ds : List D} {N' : En → Prop} {R' : SV → En → Prop} (h : WFor T t x ds s N R) (hn : ∀ s, N s → N' s) (hr : ∀ v s, R v s → R' v s) : WFor T t x ds s N' R' := by
  obtain ⟨o, h1, h2⟩ := h
  refine ⟨o, h1, ?_⟩
  cases o with
  | nx s => exact hn _ h2
  | ret v s => exact hr _ _ h2
  | brk s => exact h2
  | cont s => exact h2
/-! ### defs -/
theorem fs_of {np nl : Nat} {body : MSs} {as : List SV} {P : SV → List SV → Prop} (hl : as.length = np) (hs : as ++ List.replicate (nl - np) .no = s) (h : WB T body s (fun s => P (.sh .none) (s.take np)) (fun v s => P v (s.take np)) (fun _ => False) (fun _ => False)) : FS (evalDef T np nl body) as P := by
  subst hs
  obtain ⟨o, h1, q⟩ := h
  cases o with
  | nx s =>
    refine ⟨_, _, ?_, q⟩
    unfold evalDef
    rw [if_pos hl, h1]
  | ret v s =>
    refine ⟨_, _, ?_, q⟩
    unfold evalDef
    rw [if_pos hl, h1]
  | brk s => exact False.elim q
  | cont s => exact False.elim q
theorem pf_of {np nl : Nat} {body : MSs} {as : List SV} (hl : as.length = np) (hs : as ++ List.replicate (nl - np) .no = s) (h : WB T body s (fun s => d = .none ∧ (s.take np).length = np) (fun v s => v = .sh d ∧ (s.take np).length = np) (fun _ => False) (fun _ => False)) : PF (evalDef T np nl body) as d := by
  have h' : FS (evalDef T np nl body) as fun v os => v = .sh d ∧ os.length = np := fs_of hl hs (h.mono (fun s h => ⟨by rw [h.1], h.2⟩) (fun v s h => h) (fun _ h => h) fun _ h => h)
  obtain ⟨v, os, h1, rfl, h2⟩ := h'
  exact ⟨os, h1, h2.trans hl.symm⟩
/-! ### guards -/
theorem wo_mul {m n : Int} {Q : EV → Prop} (h : mulOk m n = true) (q : Q (.sh (.int (m * n)))) : WOp .mul [.int m, .int n] Q := wo_mk (ev_mul h) rfl q
theorem wo_mulT {x : D} {r : List D} {b : Int} {Q : EV → Prop} (h : 0 ≤ b ∧ b ≤ 1000 ∧ r.length < 1000) (q : Q (.sh (.tuple (List.replicate b.toNat (x :: r)).flatten))) : WOp .mul [.tuple (x :: r), .int b] Q := wo_mk (if_pos h) rfl q
theorem wo_fdiv {m n : Int} {Q : EV → Prop} (h : divOk n = true) (q : Q (.sh (.int (m.fdiv n)))) : WOp .fdiv [.int m, .int n] Q := wo_mk (ev_fdiv h) rfl q
theorem wo_mod {m n : Int} {Q : EV → Prop} (h : n ≠ 0) (q : Q (.sh (.int (m.fmod n)))) : WOp .mod [.int m, .int n] Q := wo_mk (ev_mod h) rfl q
theorem wo_pow {m n : Int} {Q : EV → Prop} (h : powOk m n = true) (q : Q (.sh (.int (m ^ n.toNat)))) : WOp .pow [.int m, .int n] Q := wo_mk (ev_pow h) rfl q
theorem wo_reprB {Q : EV → Prop} (h : bigPair d = true) (q : Q (.sh (.str d.shown))) : WOp .repr [d] Q := wo_mk (ev_reprB h) rfl q
theorem wo_repr {Q : EV → Prop} (h : reprOk d = true) (q : Q (.sh (.str d.shown))) : WOp .repr [d] Q := wo_mk (ev_repr h) rfl q
theorem wo_str {m : Int} {Q : EV → Prop} (h : showOk m = true) (q : Q (.sh (.str (toString m)))) : WOp .str [.int m] Q := wo_mk (ev_str h) rfl q
theorem wo_abs {m : Int} {Q : EV → Prop} (q : Q (.sh (.int (if m < 0 then -m else m)))) : WOp .abs [.int m] Q := wo_mk rfl rfl q
theorem wo_addL {xs ys : List D} {Q : EV → Prop} (h : xs.length + ys.length ≤ BIG) (q : Q (.own (.list (xs ++ ys)))) : WOp .add [.list xs, .list ys] Q := wo_mkO (if_pos h) rfl q
theorem wo_addT {xs ys : List D} {Q : EV → Prop} (h : xs.length + ys.length ≤ BIG) (q : Q (.sh (.tuple (xs ++ ys)))) : WOp .add [.tuple xs, .tuple ys] Q := wo_mk (if_pos h) rfl q
theorem wo_neS {x y : Str} {Q : EV → Prop} (q : Q (.sh (.bool (!decide (x = y))))) : WOp .ne [.str x, .str y] Q := wo_mk rfl rfl q
theorem wo_eqS {x y : Str} {Q : EV → Prop} (q : Q (.sh (.bool (decide (x = y))))) : WOp .eq [.str x, .str y] Q := wo_mk rfl rfl q
theorem wo_neI {x y : Int} {Q : EV → Prop} (q : Q (.sh (.bool (!decide (x = y))))) : WOp .ne [.int x, .int y] Q := wo_mk rfl rfl q
theorem wo_eqI {x y : Int} {Q : EV → Prop} (q : Q (.sh (.bool (decide (x = y))))) : WOp .eq [.int x, .int y] Q := wo_mk rfl rfl q
theorem wo_eqsame {Q : EV → Prop} (h : SeqAt.shaped d = true) (q : Q (.sh (.bool true))) : WOp .eq [d, d] Q := wo_mk (by
  show (match eqGo d d with
  | some r => some (PyData.bool r)
  | none => none) = _
  rw [eqGo_shaped h h, SeqAt.eqv_refl d (SeqAt.canLay_of_shaped h)]) rfl q
theorem wo_nesame {Q : EV → Prop} (h : SeqAt.shaped d = true) (q : Q (.sh (.bool false))) : WOp .ne [d, d] Q := wo_mk (by
  show (match eqGo d d with
  | some r => some (PyData.bool (!r))
  | none => none) = _
  rw [eqGo_shaped h h, SeqAt.eqv_refl d (SeqAt.canLay_of_shaped h)]
  rfl) rfl q
theorem wo_intB {p : Prop} [Decidable p] {Q : EV → Prop} (q : Q (.sh (.int (if p then 1 else 0)))) : WOp .int [.bool (decide p)] Q := wo_mk (by
  show some (PyData.int (if decide p = true then 1 else 0)) = _
  simp only [decide_eq_true_eq]) rfl q
theorem wo_lrange {m n : Int} {Q : EV → Prop} (h : rgOk m n = true) (q : Q (.own (.list (rgD m n)))) : WOp .lrange [.int m, .int n] Q := wo_mkO (if_pos h) rfl q
theorem wo_trange {m n : Int} {Q : EV → Prop} (h : rgOk m n = true) (q : Q (.sh (.tuple (rgD m n)))) : WOp .trange [.int m, .int n] Q := wo_mk (if_pos h) rfl q
theorem rgOk_by {m n : Int} (h : -1000000 ≤ m ∧ m ≤ 1000000 ∧ -1000000 ≤ n ∧ n ≤ 1000000 ∧ n - m ≤ 1000000) : rgOk m n = true := by
  unfold rgOk BIG
  simp only [Bool.and_eq_true, decide_eq_true_eq]
  omega
theorem wo_max2 {m n : Int} {Q : EV → Prop} (q : Q (.sh (.int (mx m n)))) : WOp .max2 [.int m, .int n] Q := wo_mk rfl rfl q
theorem wo_min2 {m n : Int} {Q : EV → Prop} (q : Q (.sh (.int (mn m n)))) : WOp .min2 [.int m, .int n] Q := wo_mk rfl rfl q
theorem wo_pick2I {x y : Int} {p : Prop} [Decidable p] {Q : EV → Prop} (q : Q (.sh (.int (if p then y else x)))) : WOp .idx [.list [.int x, .int y], .int (if p then 1 else 0)] Q := wo_mk (by
  by_cases z : p
  · rw [if_pos z, if_pos z]
    rfl
  · rw [if_neg z, if_neg z]
    rfl) rfl q
/-- reading by place -/
theorem atI_map {α : Type} {g : α → D} {xs : List α} {k : Nat} {x : α} {n : Int} (hn : n = (k : Nat)) (h : xs[k]? = some x) : L2.atI (xs.map g) n = some (g x) := by
  subst hn
  exact L2.atI_nat (by rw [List.getElem?_map, h]; rfl)
theorem wo_ixL {α : Type} {g : α → D} {xs : List α} {k : Nat} {x : α} {n : Int} {Q : EV → Prop} (hn : n = (k : Nat)) (h : xs[k]? = some x) (q : Q (.sh (g x))) : WOp .idx [.list (xs.map g), .int n] Q := wo_mk (atI_map hn h) rfl q
end
theorem g_WDic {ds : List D} {Q : EV → Prop} (hh0 : WDic ds Q) : WDic ds Q := hh0
theorem g_WE {T : List Fn} {e : ME} {s : En} {Q : EV → En → Prop} (hh0 : WE T e s Q) : WE T e s Q := hh0
theorem g_WEs {T : List Fn} {e : MEs} {s : En} {Q : List EV → En → Prop} (hh0 : WEs T e s Q) : WEs T e s Q := hh0
theorem g_WTs {T : List Fn} {e : MEs} {s : En} {Q : List D → En → Prop} (hh0 : WTs T e s Q) : WTs T e s Q := hh0
theorem g_WI {T : List Fn} {e : MI} {s : En} {Q : List D → En → Prop} (hh0 : WI T e s Q) : WI T e s Q := hh0
theorem g_WT {T : List Fn} {t : MT} {d : D} {s : En} {Q : En → Prop} (hh0 : WT T t d s Q) : WT T t d s Q := hh0
theorem g_WTT {T : List Fn} {t : MTs} {d : List D} {s : En} {Q : En → Prop} (hh0 : WTT T t d s Q) : WTT T t d s Q := hh0
theorem g_WB {T : List Fn} {b : MSs} {s : En} {N : En → Prop} {R : SV → En → Prop} {B C : En → Prop} (hh0 : WB T b s N R B C) : WB T b s N R B C := hh0
theorem g_WBind {i : Nat} {v : SV} {s : En} {Q : En → Prop} (hh0 : WBind i v s Q) : WBind i v s Q := hh0
theorem g_WAsg {i : Nat} {ev : EV} {s : En} {Q : En → Prop} (hh0 : WAsg i ev s Q) : WAsg i ev s Q := hh0
theorem g_WTake {ev : EV} {s : En} {Q : D → En → Prop} (hh0 : WTake ev s Q) : WTake ev s Q := hh0
theorem g_WLook {ev : EV} {s : En} {Q : D → Prop} (hh0 : WLook ev s Q) : WLook ev s Q := hh0
theorem g_WOp {o : Op} {ds : List D} {Q : EV → Prop} (hh0 : WOp o ds Q) : WOp o ds Q := hh0
theorem g_WIf {ev : EV} {A B : Prop} (hh0 : WIf ev A B) : WIf ev A B := hh0
theorem g_WBig {n : Nat} {A : Prop} (hh0 : WBig n A) : WBig n A := hh0
theorem g_WNot {ev : EV} {Q : EV → Prop} (hh0 : WNot ev Q) : WNot ev Q := hh0
theorem g_WCut {bo : Bool} {T : List Fn} {a : ME} {s : En} {Q : Option Int → En → Prop} (hh0 : WCut bo T a s Q) : WCut bo T a s Q := hh0
theorem g_WInt {ev : EV} {Q : Int → Prop} (hh0 : WInt ev Q) : WInt ev Q := hh0
theorem g_WSl {d : D} {l h : Option Int} {Q : EV → Prop} (hh0 : WSl d l h Q) : WSl d l h Q := hh0
theorem g_WBool {ev : EV} {A : Prop} (hh0 : WBool ev A) : WBool ev A := hh0
theorem g_WIs {x : En} {Q : En → Prop} (hh0 : WIs x Q) : WIs x Q := hh0
theorem g_WItems {d : D} {Q : List D → Prop} (hh0 : WItems d Q) : WItems d Q := hh0
theorem g_WSeq {d : D} {Q : List D → Prop} (hh0 : WSeq d Q) : WSeq d Q := hh0
theorem g_WRg1 {ev : EV} {Q : List D → Prop} (hh0 : WRg1 ev Q) : WRg1 ev Q := hh0
theorem g_WRg2 {ev ev' : EV} {Q : List D → Prop} (hh0 : WRg2 ev ev' Q) : WRg2 ev ev' Q := hh0
theorem g_WSub {i : Nat} {dk d : D} {s : En} {Q : En → Prop} (hh0 : WSub i dk d s Q) : WSub i dk d s Q := hh0
theorem g_WRet {ev : EV} {s : En} {R : SV → En → Prop} (hh0 : WRet ev s R) : WRet ev s R := hh0
theorem g_WMut {m : Mu} {i : Nat} {ds : List D} {s : En} {Q : En → Prop} (hh0 : WMut m i ds s Q) : WMut m i ds s Q := hh0
theorem g_WExt {i : Nat} {ev : EV} {s : En} {Q : En → Prop} (hh0 : WExt i ev s Q) : WExt i ev s Q := hh0
/-! ### sizes by themselves -/
class Bd (x : Int) (k : outParam Nat) : Prop where
  h : x.natAbs < 2 ^ k
theorem Bd.up {x : Int} {k m : Nat} (h : Bd x k) (hm : k ≤ m) : x.natAbs < 2 ^ m := Nat.lt_of_lt_of_le h.h (Nat.pow_le_pow_right (by decide) hm)
theorem lit_lt (n : Nat) : n < 2 ^ (n.log2 + 1) := Nat.lt_log2_self
instance bdLit (n : Nat) : Bd (no_index (@OfNat.ofNat Int n _)) (n.log2 + 1) := ⟨by
  show ((n : Int)).natAbs < _
  rw [Int.natAbs_natCast]
  exact lit_lt n⟩
instance bdOfNat (n : Nat) : Bd (Int.ofNat n) (n.log2 + 1) := ⟨lit_lt n⟩
instance bdAdd {x y : Int} {j k : Nat} [a : Bd x j] [b : Bd y k] : Bd (x + y) (max j k + 1) := ⟨by
  have h1 := a.up (Nat.le_max_left j k)
  have h2 := b.up (Nat.le_max_right j k)
  have := Int.natAbs_add_le x y
  rw [Nat.pow_succ]
  omega⟩
instance bdSub {x y : Int} {j k : Nat} [a : Bd x j] [b : Bd y k] : Bd (x - y) (max j k + 1) := ⟨by
  have h1 := a.up (Nat.le_max_left j k)
  have h2 := b.up (Nat.le_max_right j k)
  have := Int.natAbs_sub_le x y
  rw [Nat.pow_succ]
  omega⟩
instance bdNeg {x : Int} {j : Nat} [a : Bd x j] : Bd (-x) j := ⟨by rw [Int.natAbs_neg]; exact a.h⟩
instance bdMul {x y : Int} {j k : Nat} [a : Bd x j] [b : Bd y k] : Bd (x * y) (j + k) := ⟨by
  rw [Int.natAbs_mul, Nat.pow_add]
  exact Nat.mul_lt_mul'' a.h b.h⟩
instance bdIte {x y : Int} {j k : Nat} {p : Prop} [Decidable p] [a : Bd x j] [b : Bd y k] : Bd (if p then x else y) (max j k) := ⟨by
  split
  · exact a.up (Nat.le_max_left j k)
  · exact b.up (Nat.le_max_right j k)⟩
instance bdMx {x y : Int} {j k : Nat} [a : Bd x j] [b : Bd y k] : Bd (mx x y) (max k j) := bdIte (a := b) (b := a)
instance bdMn {x y : Int} {j k : Nat} [a : Bd x j] [b : Bd y k] : Bd (mn x y) (max k j) := bdIte (a := b) (b := a)
theorem mulOk_bd {x y : Int} {j k : Nat} [a : Bd x j] [b : Bd y k] (h : Nat.blt (j + k) 1000000 = true) : mulOk x y = true := mulOk_of a.h b.h (by simpa [Nat.blt_eq] using h)
theorem divOk_bd {x : Int} {k : Nat} [a : Bd x k] (h0 : x ≠ 0) (h : Nat.blt k 9000 = true) : divOk x = true := divOk_of h0 a.h (by simpa [Nat.blt_eq] using h)
theorem reprI_bd {x : Int} {k : Nat} [a : Bd x k] (h : Nat.ble k 300 = true) : reprOk (.int x) = true := (Sm.int (a.up (by simpa using h))).ok (by decide) (by decide) rfl
theorem Bd.to {x : Int} {j k : Nat} (h : Bd x j) (e : Nat.ble j k = true) : Bd x k := ⟨h.up (Nat.le_of_ble_eq_true e)⟩
theorem Bd.small {x : Int} (h : -1048576 < x ∧ x < 1048576) : Bd x 20 := ⟨by omega⟩
end Tw

set_option linter.all false
set_option maxRecDepth 100000
set_option maxHeartbeats 4000000
set_option autoImplicit false
namespace Lb
open PySem Tw
local macro_rules
  | `(tactic| array_get_dec) => `(tactic| repeat (first
    | (refine g_WE ?_; first
      | refine we_cst ?_
      | refine we_sh (by exact rfl) ?_
      | refine we_own (by exact rfl) ?_
      | refine we_inp (by exact rfl) ?_
      | refine we_ins (by exact rfl) ?_
      | refine we_op2 ?_
      | refine we_op1 ?_
      | refine we_dic ?_
      | refine we_tup ?_
      | refine we_lst ?_
      | refine we_not ?_
      | refine we_or ?_
      | refine we_and ?_
      | refine we_chain ?_
      | refine we_chain3 ?_
      | refine we_slc ?_
      | refine we_call ?_
      | refine we_comp ?_)
    | (refine g_WOp ?_; first
      | refine wo_abs ?_
      | with_reducible refine wo_eqsame (by exact shaped_cl rfl) ?_
      | with_reducible refine wo_nesame (by exact shaped_cl rfl) ?_
      | refine wo_neS ?_
      | refine wo_eqS ?_
      | refine wo_neI ?_
      | refine wo_eqI ?_
      | refine wo_intB ?_
      | refine wo_max2 ?_
      | refine wo_pick2I ?_
      | refine wo_min2 ?_
      | refine wo_mul (by first | exact mulOk_bd rfl | assumption) ?_
      | refine wo_mulT (by refine ⟨?_, ?_, ?_⟩ <;> first | omega | (simp only [List.length_nil, List.length_cons]; omega)) ?_
      | refine wo_fdiv (by first | exact divOk_bd (by decide) rfl | assumption) ?_
      | refine wo_mod (by first | decide | assumption) ?_
      | refine wo_pow (by decide) ?_
      | refine wo_repr (by first | exact reprI_bd rfl | assumption | exact repr_rgT (by omega) | exact repr_rgL (by omega) | exact repr_rp rfl) ?_
      | refine wo_str (by assumption) ?_
      | refine wo_addL (by exact Nat.le_of_ble_eq_true rfl) ?_
      | refine wo_addT (by exact Nat.le_of_ble_eq_true rfl) ?_
      | refine wo_lrange (by first | assumption | exact rgOk_by (by omega)) ?_
      | refine wo_trange (by first | assumption | exact rgOk_by (by omega)) ?_
      | refine wo_rgLm (by omega) ?_
      | refine wo_rgTm (by omega) ?_
      | refine wo_rgL (by omega) ?_
      | refine wo_rgT (by omega) ?_
      | with_reducible refine wo_lenrgL (by omega) ?_
      | with_reducible refine wo_lenrgT (by omega) ?_
      | refine wo_sortI ?_
      | refine wo_sumL ?_
      | refine wo_sumT ?_
      | refine wo_lenT ?_
      | refine wo_lenL ?_
      | refine wo_mk (by exact rfl) (by exact rfl) ?_
      | refine wo_mkO (by exact rfl) (by exact rfl) ?_)
    | (refine g_WLook ?_; first
      | refine wl_sh ?_
      | refine wl_own ?_
      | refine wl_slot (by exact rfl) ?_)
    | (refine g_WB ?_; first
      | refine wb_asg ?_
      | refine wb_asgT ?_
      | refine wb_ret ?_
      | refine wb_retN ?_
      | refine wb_ite ?_
      | refine wb_expr ?_
      | refine wb_mut (by exact rfl) ?_
      | refine wb_ext (by exact rfl) ?_
      | refine wb_for ?_
      | refine wb_while ?_
      | refine wb_pass ?_
      | refine wb_brk ?_
      | refine wb_cont ?_
      | refine wb_nil ?_)
    | (refine g_WAsg ?_; first
      | refine wasg_sh ?_
      | refine wasg_own ?_
      | refine wasg_slot (by exact rfl) ?_
      | refine wasg_move (by exact rfl) ?_)
    | (refine g_WBind ?_; first
      | refine wbind (by exact rfl) (by first | exact rfl | assumption) (by first | (dsimp only [List.set_cons_zero, List.set_cons_succ, wipeE, restore, List.getElem?_cons_zero, List.getElem?_cons_succ, setAt]; done) | exact rfl) ?_)
    | (refine g_WEs ?_; first
      | refine wes_cons ?_
      | refine wes_nil ?_)
    | (refine g_WIf ?_; first
      | with_reducible refine wif_nesame ?_
      | with_reducible refine wif_eqsame ?_
      | refine wif_t (by exact rfl) ?_
      | refine wif_f (by exact rfl) ?_)
    | (refine g_WTake ?_; first
      | refine wt_sh ?_
      | refine wt_own ?_
      | refine wt_slot (by exact rfl) (by first | (dsimp only [List.set_cons_zero, List.set_cons_succ, wipeE, restore, List.getElem?_cons_zero, List.getElem?_cons_succ, setAt]; done) | exact rfl) ?_)
    | (refine g_WT ?_; first
      | refine wt_name ?_
      | refine wt_tup ?_
      | refine wt_tupL ?_
      | refine wt_sub (by exact rfl) ?_)
    | (refine g_WTT ?_; first
      | refine wtt_cons ?_
      | refine wtt_nil ?_)
    | (refine g_WTs ?_; first
      | refine wts_cons ?_
      | refine wts_nil ?_)
    | (refine g_WRet ?_; first
      | refine wret_sh ?_
      | refine wret_own ?_
      | refine wret_slot (by exact rfl) (by first | (dsimp only [List.set_cons_zero, List.set_cons_succ, wipeE, restore, List.getElem?_cons_zero, List.getElem?_cons_succ, setAt]; done) | exact rfl) ?_)
    | (refine g_WI ?_; first
      | refine wi_range1 ?_
      | refine wi_range2 ?_
      | refine wi_enum ?_
      | refine wi_zip ?_
      | refine wi_ziprev ?_
      | refine wi_rev ?_
      | refine wi_keys (by exact rfl) (by assumption) ?_
      | refine wi_seq ?_)
    | (refine g_WItems ?_; first
      | refine wit_l ?_
      | refine wit_t ?_)
    | (refine g_WIs ?_; first
      | refine wis (by first | (dsimp only [List.set_cons_zero, List.set_cons_succ, wipeE, restore, List.getElem?_cons_zero, List.getElem?_cons_succ, setAt]; done) | exact rfl) ?_)
    | (refine g_WBig ?_; first
      | refine wbig (by exact Nat.le_of_ble_eq_true rfl) ?_)
    | (refine g_WNot ?_; first
      | refine wnot ?_)
    | (refine g_WBool ?_; first
      | refine wbool ?_)
    | (refine g_WRg1 ?_; first
      | refine wrg1 (by constructor <;> omega) ?_)
    | (refine g_WRg2 ?_; first
      | refine wrg2 (by refine ⟨?_, ?_, ?_, ?_⟩ <;> omega) ?_)
    | (refine g_WSeq ?_; first
      | refine wsq_l ?_
      | refine wsq_t ?_)
    | (refine g_WMut ?_; first
      | refine wmut_app (by exact rfl) (by exact Nat.le_of_ble_eq_true rfl) (by exact rfl) (by first | (dsimp only [List.set_cons_zero, List.set_cons_succ, wipeE, restore, List.getElem?_cons_zero, List.getElem?_cons_succ, setAt]; done) | exact rfl) ?_
      | refine wmut_mk (by exact rfl) (by exact rfl) (by exact rfl) (by first | (dsimp only [List.set_cons_zero, List.set_cons_succ, wipeE, restore, List.getElem?_cons_zero, List.getElem?_cons_succ, setAt]; done) | exact rfl) ?_)
    | (refine g_WExt ?_; first
      | refine wext (by exact rfl) (by exact Nat.le_of_ble_eq_true rfl) (by exact rfl) (by first | (dsimp only [List.set_cons_zero, List.set_cons_succ, wipeE, restore, List.getElem?_cons_zero, List.getElem?_cons_succ, setAt]; done) | exact rfl) ?_)
    | (refine g_WCut ?_; first
      | refine wc_no ?_
      | refine wc_yes ?_)
    | (refine g_WInt ?_; first
      | refine wint ?_)
    | (refine g_WSl ?_; first
      | refine wsl_t ?_
      | refine wsl_l ?_)
    | (refine g_WSub ?_; first
      | refine wsub_mk (by exact rfl) (by first | (dsimp only [List.set_cons_zero, List.set_cons_succ, wipeE, restore, List.getElem?_cons_zero, List.getElem?_cons_succ, setAt]; done) | exact rfl) ?_)
    | (refine g_WDic ?_; first
      | refine wdic (by exact rfl) (by exact rfl) (by exact rfl) ?_)))
/-! Ranges as lists. -/
theorem rgD_len {a b : Int} (h : a ≤ b) : ((rgD a b).length : Int) = b - a := by
  unfold rgD
  rw [List.length_map, List.length_range]
  omega
theorem rgD_lenN {a b : Int} : (rgD a b).length = (b - a).toNat := by
  unfold rgD
  rw [List.length_map, List.length_range]
theorem rgD_at {a b i : Int} (h : 0 ≤ i ∧ i < b - a) : L2.atI (rgD a b) i = some (.int (a + i)) := by
  obtain ⟨k, rfl⟩ := Int.eq_ofNat_of_zero_le h.1
  exact atI_map (g := fun i : Nat => PyData.int (a + (i : Nat))) (xs := List.range (b - a).toNat) (k := k) rfl (by rw [List.getElem?_range (by omega)])
theorem atI_last {α : Type} {xs : List α} {x : α} (h : xs[xs.length - 1]? = some x) : L2.atI xs (-1) = some x := by
  have hl : xs.length ≠ 0 := by
    intro z
    rw [List.getElem?_eq_none (by omega)] at h
    cases h
  have e : L2.ixN xs.length (-1) = some (xs.length - 1) := by
    unfold L2.ixN
    rw [if_neg (by decide), if_pos (by omega)]
    congr 1
    omega
  unfold L2.atI
  rw [e]
  exact h
theorem rgD_last {a b : Int} (h : a < b) : L2.atI (rgD a b) (-1) = some (.int (b - 1)) := by
  refine atI_last ?_
  rw [rgD_lenN]
  unfold rgD
  rw [List.getElem?_map, List.getElem?_range (by omega)]
  show some (PyData.int _) = _
  congr 2
  omega
theorem wo_rgL {a b i : Int} {Q : EV → Prop} (h : 0 ≤ i ∧ i < b - a) (q : Q (.sh (.int (a + i)))) : WOp .idx [.list (rgD a b), .int i] Q := wo_mk (rgD_at h) rfl q
theorem wo_rgT {a b i : Int} {Q : EV → Prop} (h : 0 ≤ i ∧ i < b - a) (q : Q (.sh (.int (a + i)))) : WOp .idx [.tuple (rgD a b), .int i] Q := wo_mk (rgD_at h) rfl q
theorem wo_rgLm {a b : Int} {Q : EV → Prop} (h : a < b) (q : Q (.sh (.int (b - 1)))) : WOp .idx [.list (rgD a b), .int (-1)] Q := wo_mk (rgD_last h) rfl q
theorem wo_rgTm {a b : Int} {Q : EV → Prop} (h : a < b) (q : Q (.sh (.int (b - 1)))) : WOp .idx [.tuple (rgD a b), .int (-1)] Q := wo_mk (rgD_last h) rfl q
theorem wo_lenrgL {a b : Int} {Q : EV → Prop} (h : a ≤ b) (q : Q (.sh (.int (b - a)))) : WOp .len [.list (rgD a b)] Q := wo_mk (by
  show some (PyData.int ((rgD a b).length : Nat)) = _
  rw [rgD_len h]) rfl q
theorem wo_lenrgT {a b : Int} {Q : EV → Prop} (h : a ≤ b) (q : Q (.sh (.int (b - a)))) : WOp .len [.tuple (rgD a b)] Q := wo_mk (by
  show some (PyData.int ((rgD a b).length : Nat)) = _
  rw [rgD_len h]) rfl q
theorem rgD_mem {a b : Int} {d : Tw.D} (h : d ∈ rgD a b) : ∃ i : Int, d = .int i ∧ a ≤ i ∧ i < b := by
  unfold rgD at h
  obtain ⟨k, hk, rfl⟩ := List.mem_map.mp h
  rw [List.mem_range] at hk
  exact ⟨_, rfl, by omega, by omega⟩
/-! ### what repr may be asked of -/
structure SnL (n k : Nat) (xs : List Tw.D) : Prop where
  h1 : PyData.showableAll xs = true
  h2 : PyData.leavesShortAll 400 xs = true
  h3 : PyData.bulkAll xs ≤ n
  h4 : PyData.depthAll xs ≤ k
  h5 : PyData.hasDictAll xs = false
structure Sn (n k : Nat) (d : Tw.D) : Prop where
  sm : Sm n k d
  nd : d.hasDict = false
theorem Sn.mono {n k n' k' : Nat} {d : Tw.D} (h : Sn n k d) (hn : n ≤ n') (hk : k ≤ k') : Sn n' k' d := ⟨h.sm.mono hn hk, h.nd⟩
theorem SnL.mono {n k n' k' : Nat} {d : List Tw.D} (h : SnL n k d) (hn : n ≤ n') (hk : k ≤ k') : SnL n' k' d := ⟨h.h1, h.h2, Nat.le_trans h.h3 hn, Nat.le_trans h.h4 hk, h.h5⟩
theorem Sn.ok {n k : Nat} {d : Tw.D} (h : Sn n k d) (hn : n ≤ 2400) (hk : k ≤ 50) : reprOk d = true := h.sm.ok hn hk (by rw [h.nd]; rfl)
theorem SnL.nil : SnL 0 0 [] := ⟨rfl, rfl, Nat.le_refl _, Nat.le_refl _, rfl⟩
theorem SnL.cons {n k m j : Nat} {x : Tw.D} {xs : List Tw.D} (h : Sn n k x) (t : SnL m j xs) : SnL (n + m + 1) (max k j) (x :: xs) := by
  obtain ⟨⟨a1, a2, a3, a4⟩, a5⟩ := h
  obtain ⟨b1, b2, b3, b4, b5⟩ := t
  refine ⟨?_, ?_, ?_, ?_, ?_⟩
  · simp only [PyData.showableAll, a1, b1, Bool.and_self]
  · simp only [PyData.leavesShortAll, a2, b2, Bool.and_self]
  · simp only [PyData.bulkAll]
    omega
  · simp only [PyData.depthAll]
    omega
  · simp only [PyData.hasDictAll, a5, b5, Bool.or_self]
theorem Sn.tup {n k : Nat} {xs : List Tw.D} (h : SnL n k xs) : Sn n (k + 1) (.tuple xs) :=
  ⟨⟨by simpa only [PyData.showable] using h.h1, by simpa only [PyData.leavesShort] using h.h2, by simpa only [PyData.bulk] using h.h3, by have := h.h4; simp only [PyData.depth]; omega⟩, by simpa only [PyData.hasDict] using h.h5⟩
theorem Sn.lst {n k : Nat} {xs : List Tw.D} (h : SnL n k xs) : Sn n (k + 1) (.list xs) :=
  ⟨⟨by simpa only [PyData.showable] using h.h1, by simpa only [PyData.leavesShort] using h.h2, by simpa only [PyData.bulk] using h.h3, by have := h.h4; simp only [PyData.depth]; omega⟩, by simpa only [PyData.hasDict] using h.h5⟩
theorem Sn.int {i : Int} (h : i.natAbs < 2 ^ 300) : Sn 0 0 (.int i) := ⟨Sm.int h, rfl⟩
theorem Sn.non : Sn 0 0 .none := ⟨Sm.non, rfl⟩
theorem Sn.bool (b : Bool) : Sn 0 0 (.bool b) := ⟨Sm.bool b, rfl⟩
theorem SnL.all {n k : Nat} : ∀ {xs : List Tw.D}, (∀ x ∈ xs, Sn n k x) → SnL (xs.length * (n + 1)) k xs
  | [], _ => ⟨rfl, rfl, by simp [PyData.bulkAll], Nat.zero_le _, rfl⟩
  | x :: r, h => by
    have := SnL.cons (h x (by simp)) (SnL.all (xs := r) fun y m => h y (by simp [m]))
    refine this.mono ?_ (by omega)
    rw [List.length_cons, Nat.add_mul]
    omega
class Rp (d : Tw.D) (m n k : outParam Nat) : Prop where
  h : m ≤ 300 → Sn n k d
class RpL (d : List Tw.D) (m n k : outParam Nat) : Prop where
  h : m ≤ 300 → SnL n k d
instance rpInt {i : Int} {j : Nat} [b : Bd i j] : Rp (.int i) j 0 0 := ⟨fun h => .int (b.up h)⟩
instance rpBool {b : Bool} : Rp (.bool b) 0 0 0 := ⟨fun _ => .bool b⟩
instance rpNone : Rp .none 0 0 0 := ⟨fun _ => .non⟩
instance rpLNil : RpL [] 0 0 0 := ⟨fun _ => .nil⟩
instance rpLCons {x : Tw.D} {xs : List Tw.D} {m n k m2 n2 k2 : Nat} [a : Rp x m n k] [b : RpL xs m2 n2 k2] : RpL (x :: xs) (max m m2) (n + n2 + 1) (max k k2) := ⟨fun h => .cons (a.h (by omega)) (b.h (by omega))⟩
instance rpTup {xs : List Tw.D} {m n k : Nat} [a : RpL xs m n k] : Rp (.tuple xs) m n (k + 1) := ⟨fun h => .tup (a.h h)⟩
instance rpLst {xs : List Tw.D} {m n k : Nat} [a : RpL xs m n k] : Rp (.list xs) m n (k + 1) := ⟨fun h => .lst (a.h h)⟩
theorem repr_rp {d : Tw.D} {m n k : Nat} [a : Rp d m n k] (h : (Nat.ble m 300 && Nat.ble n 2400 && Nat.ble k 50) = true) : reprOk d = true := by
  simp only [Bool.and_eq_true, Nat.ble_eq] at h
  exact (a.h h.1.1).ok h.1.2 h.2
theorem sn_rg {a b : Int} (h : -1000000 < a ∧ a < 1000000 ∧ b - a ≤ 1000) : SnL 1000 0 (rgD a b) := by
  have := SnL.all (n := 0) (k := 0) (xs := rgD a b) fun x m => by
    obtain ⟨i, rfl, h1, h2⟩ := rgD_mem m
    exact Sn.int ((Bd.small (x := i) (by omega)).up (by decide))
  rw [rgD_lenN] at this
  exact this.mono (by omega) (by omega)
theorem repr_rgT {a b : Int} (h : -1000000 < a ∧ a < 1000000 ∧ b - a ≤ 1000) : reprOk (.tuple (rgD a b)) = true := (Sn.tup (sn_rg h)).ok (by decide) (by decide)
theorem repr_rgL {a b : Int} (h : -1000000 < a ∧ a < 1000000 ∧ b - a ≤ 1000) : reprOk (.list (rgD a b)) = true := (Sn.lst (sn_rg h)).ok (by decide) (by decide)
/-! ### what == may be asked of -/
class Cl (d : Tw.D) (k : outParam Nat) : Prop where
  h : d.canLay0 = true ∧ d.depth ≤ k
class ClL (d : List Tw.D) (k : outParam Nat) : Prop where
  h : PyData.canLayAll0 d = true ∧ PyData.depthAll d ≤ k
instance clInt {i : Int} : Cl (.int i) 0 := ⟨by simp [PyData.canLay0, PyData.depth]⟩
instance clBool {i : Bool} : Cl (.bool i) 0 := ⟨by simp [PyData.canLay0, PyData.depth]⟩
instance clNone : Cl .none 0 := ⟨by simp [PyData.canLay0, PyData.depth]⟩
instance clNil : ClL [] 0 := ⟨by simp [PyData.canLayAll0, PyData.depthAll]⟩
instance clCons {x : Tw.D} {xs : List Tw.D} {k j : Nat} [a : Cl x k] [b : ClL xs j] : ClL (x :: xs) (max k j) := ⟨by
  have h1 := a.h
  have h2 := b.h
  simp only [PyData.canLayAll0, PyData.depthAll, h1.1, h2.1, Bool.and_self, true_and]
  omega⟩
instance clTup {xs : List Tw.D} {k : Nat} [a : ClL xs k] : Cl (.tuple xs) (k + 1) := ⟨by
  have h1 := a.h
  simp only [PyData.canLay0, PyData.depth, h1.1, true_and]
  omega⟩
instance clLst {xs : List Tw.D} {k : Nat} [a : ClL xs k] : Cl (.list xs) (k + 1) := ⟨by
  have h1 := a.h
  simp only [PyData.canLay0, PyData.depth, h1.1, true_and]
  omega⟩
theorem ClL.all {k : Nat} : ∀ {xs : List Tw.D}, (∀ x ∈ xs, Cl x k) → ClL xs k
  | [], _ => ⟨by simp [PyData.canLayAll0, PyData.depthAll]⟩
  | x :: r, h => ⟨by
    have h1 := (h x (by simp)).h
    have h2 := (ClL.all (xs := r) fun y m => h y (by simp [m])).h
    simp only [PyData.canLayAll0, PyData.depthAll, h1.1, h2.1, Bool.and_self, true_and]
    omega⟩
theorem shaped_cl {d : Tw.D} {k : Nat} [a : Cl d k] (h : Nat.ble k 64 = true) : SeqAt.shaped d = true := by
  simp only [SeqAt.shaped, Bool.and_eq_true, decide_eq_true_eq]
  exact ⟨a.h.1, Nat.le_trans a.h.2 (Nat.le_of_ble_eq_true h)⟩
instance clInts {α : Type} {xs : List α} {f : α → Int} : ClL (xs.map fun x => PyData.int (f x)) 0 := ClL.all fun x m => by
  obtain ⟨y, _, rfl⟩ := List.mem_map.mp m
  infer_instance
instance clInts' {xs : List Int} : ClL (xs.map PyData.int) 0 := ClL.all fun x m => by
  obtain ⟨y, _, rfl⟩ := List.mem_map.mp m
  infer_instance
instance clRg {a b : Int} : ClL (rgD a b) 0 := clInts
theorem asInts_map : ∀ xs : List Int, asInts (xs.map PyData.int) = some xs
  | [] => rfl
  | x :: r => by
    rw [List.map_cons]
    unfold asInts
    rw [asInts_map r]
theorem wo_sortI {xs : List Int} {Q : EV → Prop} (q : Q (.own (.list ((isort xs).map PyData.int)))) : WOp .sorted [.list (xs.map PyData.int)] Q := wo_mkO (by
  show (match asInts (xs.map PyData.int) with
    | some is => some (PyData.list ((isort is).map PyData.int))
    | none => none) = _
  rw [asInts_map]) rfl q
theorem wo_sumL {xs : List Int} {Q : EV → Prop} (q : Q (.sh (.int xs.sum))) : WOp .sum [.list (xs.map PyData.int)] Q := wo_mk (by
  show (match asInts (xs.map PyData.int) with
    | some is => some (PyData.int is.sum)
    | none => none) = _
  rw [asInts_map]) rfl q
theorem wo_sumT {xs : List Int} {Q : EV → Prop} (q : Q (.sh (.int xs.sum))) : WOp .sum [.tuple (xs.map PyData.int)] Q := wo_mk (by
  show (match asInts (xs.map PyData.int) with
    | some is => some (PyData.int is.sum)
    | none => none) = _
  rw [asInts_map]) rfl q
theorem wo_lenT {α : Type} {f : α → Tw.D} {xs : List α} {Q : EV → Prop} (q : Q (.sh (.int (xs.length : Nat)))) : WOp .len [.tuple (xs.map f)] Q := wo_mk (by
  show some (PyData.int ((xs.map f).length : Nat)) = _
  rw [List.length_map]) rfl q
theorem wo_lenL {α : Type} {f : α → Tw.D} {xs : List α} {Q : EV → Prop} (q : Q (.sh (.int (xs.length : Nat)))) : WOp .len [.list (xs.map f)] Q := wo_mk (by
  show some (PyData.int ((xs.map f).length : Nat)) = _
  rw [List.length_map]) rfl q
/-! ### counted -/
def enumI {α : Type} : Nat → List α → List (Int × α)
  | _, [] => []
  | i, x :: r => ((i : Int), x) :: enumI (i + 1) r
theorem enumI_len {α : Type} : ∀ (i : Nat) (xs : List α), (enumI i xs).length = xs.length
  | _, [] => rfl
  | i, x :: r => by simp [enumI, enumI_len (i + 1) r]
theorem enumI_mem {α : Type} {p : Int × α} : ∀ {xs : List α} {i : Nat}, p ∈ enumI i xs → ∃ k : Nat, xs[k]? = some p.2 ∧ p.1 = ((i + k : Nat) : Int)
  | [], _, h => by simp [enumI] at h
  | x :: r, i, h => by
    rcases List.mem_cons.mp h with rfl | h
    · exact ⟨0, rfl, by simp⟩
    · obtain ⟨k, h1, h2⟩ := enumI_mem h
      exact ⟨k + 1, by simpa using h1, by rw [h2]; congr 1; omega⟩
theorem maxOf_spec : ∀ (r : List Int) (m : Int), (maxOf m r = m ∨ maxOf m r ∈ r) ∧ m ≤ maxOf m r ∧ ∀ x ∈ r, x ≤ maxOf m r
  | [], m => by simp [maxOf]
  | y :: r, m => by
    obtain ⟨h1, h2, h3⟩ := maxOf_spec r (if y > m then y else m)
    unfold maxOf
    refine ⟨?_, ?_, ?_⟩
    · rcases h1 with h1 | h1
      · rw [h1]
        split
        · exact .inr (by simp)
        · exact .inl rfl
      · exact .inr (by simp [h1])
    · split at h2 <;> rename_i z <;> simp only [z, if_true, if_false] <;> omega
    · intro x hx
      rcases List.mem_cons.mp hx with rfl | hx
      · split at h2 <;> rename_i z <;> simp only [z, if_true, if_false] <;> omega
      · exact h3 x hx
end Lb

set_option linter.all false
set_option maxRecDepth 100000
set_option maxHeartbeats 4000000
set_option autoImplicit false
namespace Lb
open PySem Tw
local macro_rules
  | `(tactic| array_get_dec) => `(tactic| repeat (first
    | (refine g_WE ?_; first
      | refine we_cst ?_
      | refine we_sh (by exact rfl) ?_
      | refine we_own (by exact rfl) ?_
      | refine we_inp (by exact rfl) ?_
      | refine we_ins (by exact rfl) ?_
      | refine we_op2 ?_
      | refine we_op1 ?_
      | refine we_dic ?_
      | refine we_tup ?_
      | refine we_lst ?_
      | refine we_not ?_
      | refine we_or ?_
      | refine we_and ?_
      | refine we_chain ?_
      | refine we_chain3 ?_
      | refine we_slc ?_
      | refine we_call ?_
      | refine we_comp ?_)
    | (refine g_WOp ?_; first
      | refine wo_abs ?_
      | with_reducible refine wo_eqsame (by exact shaped_cl rfl) ?_
      | with_reducible refine wo_nesame (by exact shaped_cl rfl) ?_
      | refine wo_neS ?_
      | refine wo_eqS ?_
      | refine wo_neI ?_
      | refine wo_eqI ?_
      | refine wo_intB ?_
      | refine wo_max2 ?_
      | refine wo_pick2I ?_
      | refine wo_min2 ?_
      | refine wo_mul (by first | exact mulOk_bd rfl | assumption) ?_
      | refine wo_mulT (by refine ⟨?_, ?_, ?_⟩ <;> first | omega | (simp only [List.length_nil, List.length_cons]; omega)) ?_
      | refine wo_fdiv (by first | exact divOk_bd (by decide) rfl | assumption) ?_
      | refine wo_mod (by first | decide | assumption) ?_
      | refine wo_pow (by decide) ?_
      | refine wo_repr (by first | exact reprI_bd rfl | assumption | exact repr_rgT (by omega) | exact repr_rgL (by omega) | exact repr_rp rfl) ?_
      | refine wo_str (by assumption) ?_
      | refine wo_addL (by exact Nat.le_of_ble_eq_true rfl) ?_
      | refine wo_addT (by exact Nat.le_of_ble_eq_true rfl) ?_
      | refine wo_lrange (by first | assumption | exact rgOk_by (by omega)) ?_
      | refine wo_trange (by first | assumption | exact rgOk_by (by omega)) ?_
      | refine wo_rgLm (by omega) ?_
      | refine wo_rgTm (by omega) ?_
      | refine wo_rgL (by omega) ?_
      | refine wo_rgT (by omega) ?_
      | with_reducible refine wo_lenrgL (by omega) ?_
      | with_reducible refine wo_lenrgT (by omega) ?_
      | refine wo_sortI ?_
      | refine wo_sumL ?_
      | refine wo_sumT ?_
      | refine wo_lenT ?_
      | refine wo_lenL ?_
      | refine wo_mk (by exact rfl) (by exact rfl) ?_
      | refine wo_mkO (by exact rfl) (by exact rfl) ?_)
    | (refine g_WLook ?_; first
      | refine wl_sh ?_
      | refine wl_own ?_
      | refine wl_slot (by exact rfl) ?_)
    | (refine g_WB ?_; first
      | refine wb_asg ?_
      | refine wb_asgT ?_
      | refine wb_ret ?_
      | refine wb_retN ?_
      | refine wb_ite ?_
      | refine wb_expr ?_
      | refine wb_mut (by exact rfl) ?_
      | refine wb_ext (by exact rfl) ?_
      | refine wb_for ?_
      | refine wb_while ?_
      | refine wb_pass ?_
      | refine wb_brk ?_
      | refine wb_cont ?_
      | refine wb_nil ?_)
    | (refine g_WAsg ?_; first
      | refine wasg_sh ?_
      | refine wasg_own ?_
      | refine wasg_slot (by exact rfl) ?_
      | refine wasg_move (by exact rfl) ?_)
    | (refine g_WBind ?_; first
      | refine wbind (by exact rfl) (by first | exact rfl | assumption) (by first | (dsimp only [List.set_cons_zero, List.set_cons_succ, wipeE, restore, List.getElem?_cons_zero, List.getElem?_cons_succ, setAt]; done) | exact rfl) ?_)
    | (refine g_WEs ?_; first
      | refine wes_cons ?_
      | refine wes_nil ?_)
    | (refine g_WIf ?_; first
      | with_reducible refine wif_nesame ?_
      | with_reducible refine wif_eqsame ?_
      | refine wif_t (by exact rfl) ?_
      | refine wif_f (by exact rfl) ?_)
    | (refine g_WTake ?_; first
      | refine wt_sh ?_
      | refine wt_own ?_
      | refine wt_slot (by exact rfl) (by first | (dsimp only [List.set_cons_zero, List.set_cons_succ, wipeE, restore, List.getElem?_cons_zero, List.getElem?_cons_succ, setAt]; done) | exact rfl) ?_)
    | (refine g_WT ?_; first
      | refine wt_name ?_
      | refine wt_tup ?_
      | refine wt_tupL ?_
      | refine wt_sub (by exact rfl) ?_)
    | (refine g_WTT ?_; first
      | refine wtt_cons ?_
      | refine wtt_nil ?_)
    | (refine g_WTs ?_; first
      | refine wts_cons ?_
      | refine wts_nil ?_)
    | (refine g_WRet ?_; first
      | refine wret_sh ?_
      | refine wret_own ?_
      | refine wret_slot (by exact rfl) (by first | (dsimp only [List.set_cons_zero, List.set_cons_succ, wipeE, restore, List.getElem?_cons_zero, List.getElem?_cons_succ, setAt]; done) | exact rfl) ?_)
    | (refine g_WI ?_; first
      | refine wi_range1 ?_
      | refine wi_range2 ?_
      | refine wi_enum ?_
      | refine wi_zip ?_
      | refine wi_ziprev ?_
      | refine wi_rev ?_
      | refine wi_keys (by exact rfl) (by assumption) ?_
      | refine wi_seq ?_)
    | (refine g_WItems ?_; first
      | refine wit_l ?_
      | refine wit_t ?_)
    | (refine g_WIs ?_; first
      | refine wis (by first | (dsimp only [List.set_cons_zero, List.set_cons_succ, wipeE, restore, List.getElem?_cons_zero, List.getElem?_cons_succ, setAt]; done) | exact rfl) ?_)
    | (refine g_WBig ?_; first
      | refine wbig (by exact Nat.le_of_ble_eq_true rfl) ?_)
    | (refine g_WNot ?_; first
      | refine wnot ?_)
    | (refine g_WBool ?_; first
      | refine wbool ?_)
    | (refine g_WRg1 ?_; first
      | refine wrg1 (by constructor <;> omega) ?_)
    | (refine g_WRg2 ?_; first
      | refine wrg2 (by refine ⟨?_, ?_, ?_, ?_⟩ <;> omega) ?_)
    | (refine g_WSeq ?_; first
      | refine wsq_l ?_
      | refine wsq_t ?_)
    | (refine g_WMut ?_; first
      | refine wmut_app (by exact rfl) (by exact Nat.le_of_ble_eq_true rfl) (by exact rfl) (by first | (dsimp only [List.set_cons_zero, List.set_cons_succ, wipeE, restore, List.getElem?_cons_zero, List.getElem?_cons_succ, setAt]; done) | exact rfl) ?_
      | refine wmut_mk (by exact rfl) (by exact rfl) (by exact rfl) (by first | (dsimp only [List.set_cons_zero, List.set_cons_succ, wipeE, restore, List.getElem?_cons_zero, List.getElem?_cons_succ, setAt]; done) | exact rfl) ?_)
    | (refine g_WExt ?_; first
      | refine wext (by exact rfl) (by exact Nat.le_of_ble_eq_true rfl) (by exact rfl) (by first | (dsimp only [List.set_cons_zero, List.set_cons_succ, wipeE, restore, List.getElem?_cons_zero, List.getElem?_cons_succ, setAt]; done) | exact rfl) ?_)
    | (refine g_WCut ?_; first
      | refine wc_no ?_
      | refine wc_yes ?_)
    | (refine g_WInt ?_; first
      | refine wint ?_)
    | (refine g_WSl ?_; first
      | refine wsl_t ?_
      | refine wsl_l ?_)
    | (refine g_WSub ?_; first
      | refine wsub_mk (by exact rfl) (by first | (dsimp only [List.set_cons_zero, List.set_cons_succ, wipeE, restore, List.getElem?_cons_zero, List.getElem?_cons_succ, setAt]; done) | exact rfl) ?_)
    | (refine g_WDic ?_; first
      | refine wdic (by exact rfl) (by exact rfl) (by exact rfl) ?_)))
/-! Shops, and what a day costs. -/
/-- a shop -/
structure Shp where
  t : Int
  d : Int
  a : Int
  b : Int
  c : Int
  e : Int
  g : Int
  h : Int
  k : Int
def Shp.D (s : Shp) : Tw.D := .tuple [.int s.t, .int s.d, .int s.a, .int s.b, .int s.c, .int s.e, .int s.g, .int s.h, .int s.k]
/-- what an order costs -/
def ordC (s : Shp) (x l : Int) : Int := if l = x then 0 else s.a + s.b * (l - x)
def endC (s : Shp) (x : Int) : Int := if 0 < x then 0 - s.h * x else 0 - s.k * x
def nxt (s : Shp) (l f : Int) : Int := mx (l - f) (0 - s.d)
def dayC (s : Shp) (l f : Int) : Int := s.c * mx (nxt s l f) 0 + s.e * mx (0 - nxt s l f) 0 + s.g * (nxt s l f - (l - f))
variable {T : List Fn}
/-- not too large to be reckoned with -/
structure Shp.Sz (s : Shp) : Prop where
  t : Bd s.t 120
  d : Bd s.d 120
  a : Bd s.a 120
  b : Bd s.b 120
  c : Bd s.c 120
  e : Bd s.e 120
  g : Bd s.g 120
  h : Bd s.h 120
  k : Bd s.k 120
def OrderSp (f : Fn) : Prop := ∀ (s : Shp) (x l : Int), s.Sz → Bd x 120 → Bd l 120 → PF f [.sh s.D, .sh (.int x), .sh (.int l)] (.int (ordC s x l))
theorem ordC_bd {s : Shp} {x l : Int} (h : s.Sz) (hx : Bd x 120) (hl : Bd l 120) : Bd (ordC s x l) 250 := by
  obtain ⟨_, _, _, _, _, _, _, _, _⟩ := h
  unfold ordC
  exact Bd.to inferInstance rfl
abbrev stD (s : Shp) : List Tw.D := rgD (0 - s.d) (s.t + 1)
structure Shp.Ok (s : Shp) : Prop where
  t0 : 0 ≤ s.t
  d0 : 0 ≤ s.d
  td : s.t + s.d ≤ 39
  a : 0 ≤ s.a ∧ s.a ≤ 1000000
  b : 0 ≤ s.b ∧ s.b ≤ 1000000
  c : 0 ≤ s.c ∧ s.c ≤ 1000000
  e : 0 ≤ s.e ∧ s.e ≤ 1000000
  g : 0 ≤ s.g ∧ s.g ≤ 1000000
  h : 0 ≤ s.h ∧ s.h ≤ 1000000
  k : 0 ≤ s.k ∧ s.k ≤ 1000000
theorem Shp.Ok.sz {s : Shp} (h : s.Ok) : s.Sz := by
  obtain ⟨h1, h2, h3, h4, h5, h6, h7, h8, h9, h10⟩ := h
  refine ⟨?_, ?_, ?_, ?_, ?_, ?_, ?_, ?_, ?_⟩ <;> exact (Bd.small (by omega)).to rfl
def StocksSp (f : Fn) : Prop := ∀ (s : Shp), -1000 < s.t ∧ s.t < 1000 → -1000 < s.d ∧ s.d < 1000 → PF f [.sh s.D] (.tuple (stD s))
end Lb

set_option linter.all false
set_option maxRecDepth 100000
set_option maxHeartbeats 4000000
set_option autoImplicit false
namespace Lb
open PySem Tw
local macro_rules
  | `(tactic| array_get_dec) => `(tactic| repeat (first
    | (refine g_WE ?_; first
      | refine we_cst ?_
      | refine we_sh (by exact rfl) ?_
      | refine we_own (by exact rfl) ?_
      | refine we_inp (by exact rfl) ?_
      | refine we_ins (by exact rfl) ?_
      | refine we_op2 ?_
      | refine we_op1 ?_
      | refine we_dic ?_
      | refine we_tup ?_
      | refine we_lst ?_
      | refine we_not ?_
      | refine we_or ?_
      | refine we_and ?_
      | refine we_chain ?_
      | refine we_chain3 ?_
      | refine we_slc ?_
      | refine we_call ?_
      | refine we_comp ?_)
    | (refine g_WOp ?_; first
      | refine wo_abs ?_
      | with_reducible refine wo_eqsame (by exact shaped_cl rfl) ?_
      | with_reducible refine wo_nesame (by exact shaped_cl rfl) ?_
      | refine wo_neS ?_
      | refine wo_eqS ?_
      | refine wo_neI ?_
      | refine wo_eqI ?_
      | refine wo_intB ?_
      | refine wo_max2 ?_
      | refine wo_pick2I ?_
      | refine wo_min2 ?_
      | refine wo_mul (by first | exact mulOk_bd rfl | assumption) ?_
      | refine wo_mulT (by refine ⟨?_, ?_, ?_⟩ <;> first | omega | (simp only [List.length_nil, List.length_cons]; omega)) ?_
      | refine wo_fdiv (by first | exact divOk_bd (by decide) rfl | assumption) ?_
      | refine wo_mod (by first | decide | assumption) ?_
      | refine wo_pow (by decide) ?_
      | refine wo_repr (by first | exact reprI_bd rfl | assumption | exact repr_rgT (by omega) | exact repr_rgL (by omega) | exact repr_rp rfl) ?_
      | refine wo_str (by assumption) ?_
      | refine wo_addL (by exact Nat.le_of_ble_eq_true rfl) ?_
      | refine wo_addT (by exact Nat.le_of_ble_eq_true rfl) ?_
      | refine wo_lrange (by first | assumption | exact rgOk_by (by omega)) ?_
      | refine wo_trange (by first | assumption | exact rgOk_by (by omega)) ?_
      | refine wo_rgLm (by omega) ?_
      | refine wo_rgTm (by omega) ?_
      | refine wo_rgL (by omega) ?_
      | refine wo_rgT (by omega) ?_
      | with_reducible refine wo_lenrgL (by omega) ?_
      | with_reducible refine wo_lenrgT (by omega) ?_
      | refine wo_sortI ?_
      | refine wo_sumL ?_
      | refine wo_sumT ?_
      | refine wo_lenT ?_
      | refine wo_lenL ?_
      | refine wo_mk (by exact rfl) (by exact rfl) ?_
      | refine wo_mkO (by exact rfl) (by exact rfl) ?_)
    | (refine g_WLook ?_; first
      | refine wl_sh ?_
      | refine wl_own ?_
      | refine wl_slot (by exact rfl) ?_)
    | (refine g_WB ?_; first
      | refine wb_asg ?_
      | refine wb_asgT ?_
      | refine wb_ret ?_
      | refine wb_retN ?_
      | refine wb_ite ?_
      | refine wb_expr ?_
      | refine wb_mut (by exact rfl) ?_
      | refine wb_ext (by exact rfl) ?_
      | refine wb_for ?_
      | refine wb_while ?_
      | refine wb_pass ?_
      | refine wb_brk ?_
      | refine wb_cont ?_
      | refine wb_nil ?_)
    | (refine g_WAsg ?_; first
      | refine wasg_sh ?_
      | refine wasg_own ?_
      | refine wasg_slot (by exact rfl) ?_
      | refine wasg_move (by exact rfl) ?_)
    | (refine g_WBind ?_; first
      | refine wbind (by exact rfl) (by first | exact rfl | assumption) (by first | (dsimp only [List.set_cons_zero, List.set_cons_succ, wipeE, restore, List.getElem?_cons_zero, List.getElem?_cons_succ, setAt]; done) | exact rfl) ?_)
    | (refine g_WEs ?_; first
      | refine wes_cons ?_
      | refine wes_nil ?_)
    | (refine g_WIf ?_; first
      | with_reducible refine wif_nesame ?_
      | with_reducible refine wif_eqsame ?_
      | refine wif_t (by exact rfl) ?_
      | refine wif_f (by exact rfl) ?_)
    | (refine g_WTake ?_; first
      | refine wt_sh ?_
      | refine wt_own ?_
      | refine wt_slot (by exact rfl) (by first | (dsimp only [List.set_cons_zero, List.set_cons_succ, wipeE, restore, List.getElem?_cons_zero, List.getElem?_cons_succ, setAt]; done) | exact rfl) ?_)
    | (refine g_WT ?_; first
      | refine wt_name ?_
      | refine wt_tup ?_
      | refine wt_tupL ?_
      | refine wt_sub (by exact rfl) ?_)
    | (refine g_WTT ?_; first
      | refine wtt_cons ?_
      | refine wtt_nil ?_)
    | (refine g_WTs ?_; first
      | refine wts_cons ?_
      | refine wts_nil ?_)
    | (refine g_WRet ?_; first
      | refine wret_sh ?_
      | refine wret_own ?_
      | refine wret_slot (by exact rfl) (by first | (dsimp only [List.set_cons_zero, List.set_cons_succ, wipeE, restore, List.getElem?_cons_zero, List.getElem?_cons_succ, setAt]; done) | exact rfl) ?_)
    | (refine g_WI ?_; first
      | refine wi_range1 ?_
      | refine wi_range2 ?_
      | refine wi_enum ?_
      | refine wi_zip ?_
      | refine wi_ziprev ?_
      | refine wi_rev ?_
      | refine wi_keys (by exact rfl) (by assumption) ?_
      | refine wi_seq ?_)
    | (refine g_WItems ?_; first
      | refine wit_l ?_
      | refine wit_t ?_)
    | (refine g_WIs ?_; first
      | refine wis (by first | (dsimp only [List.set_cons_zero, List.set_cons_succ, wipeE, restore, List.getElem?_cons_zero, List.getElem?_cons_succ, setAt]; done) | exact rfl) ?_)
    | (refine g_WBig ?_; first
      | refine wbig (by exact Nat.le_of_ble_eq_true rfl) ?_)
    | (refine g_WNot ?_; first
      | refine wnot ?_)
    | (refine g_WBool ?_; first
      | refine wbool ?_)
    | (refine g_WRg1 ?_; first
      | refine wrg1 (by constructor <;> omega) ?_)
    | (refine g_WRg2 ?_; first
      | refine wrg2 (by refine ⟨?_, ?_, ?_, ?_⟩ <;> omega) ?_)
    | (refine g_WSeq ?_; first
      | refine wsq_l ?_
      | refine wsq_t ?_)
    | (refine g_WMut ?_; first
      | refine wmut_app (by exact rfl) (by exact Nat.le_of_ble_eq_true rfl) (by exact rfl) (by first | (dsimp only [List.set_cons_zero, List.set_cons_succ, wipeE, restore, List.getElem?_cons_zero, List.getElem?_cons_succ, setAt]; done) | exact rfl) ?_
      | refine wmut_mk (by exact rfl) (by exact rfl) (by exact rfl) (by first | (dsimp only [List.set_cons_zero, List.set_cons_succ, wipeE, restore, List.getElem?_cons_zero, List.getElem?_cons_succ, setAt]; done) | exact rfl) ?_)
    | (refine g_WExt ?_; first
      | refine wext (by exact rfl) (by exact Nat.le_of_ble_eq_true rfl) (by exact rfl) (by first | (dsimp only [List.set_cons_zero, List.set_cons_succ, wipeE, restore, List.getElem?_cons_zero, List.getElem?_cons_succ, setAt]; done) | exact rfl) ?_)
    | (refine g_WCut ?_; first
      | refine wc_no ?_
      | refine wc_yes ?_)
    | (refine g_WInt ?_; first
      | refine wint ?_)
    | (refine g_WSl ?_; first
      | refine wsl_t ?_
      | refine wsl_l ?_)
    | (refine g_WSub ?_; first
      | refine wsub_mk (by exact rfl) (by first | (dsimp only [List.set_cons_zero, List.set_cons_succ, wipeE, restore, List.getElem?_cons_zero, List.getElem?_cons_succ, setAt]; done) | exact rfl) ?_)
    | (refine g_WDic ?_; first
      | refine wdic (by exact rfl) (by exact rfl) (by exact rfl) ?_)))
/-! Pens: numbers drawn. -/
structure PenRel where
  R : Int → Tw.D → Prop
  mono : ∀ {n m : Int} {d : Tw.D}, R n d → n ≤ m → R m d
def DrawSp (P : PenRel) (f : Fn) : Prop := ∀ (n most : Int) (d : Tw.D), P.R n d → n < 2 ^ 28 → 0 < most → divOk most = true → FS f [.inp d, .sh (.int most)] fun v os => ∃ r d', v = .sh (.int r) ∧ os = [.inp d', .sh (.int most)] ∧ 0 ≤ r ∧ r < most ∧ P.R (n + 1) d'
variable {T : List Fn}
theorem divOk_small {m : Int} (h : 0 < m ∧ m < 1000000000000000000) : divOk m = true := divOk_of (k := 64) (by omega) (by omega) (by decide)
/-- _law_draw(_law_pen_here, _law_most); _law_cells, _law_at, _law_cell, _law_prime, _law_mixed, _law_found; calls ; 2 of 8 -/
def b_draw1 : MSs :=
  (.cons (.asg 2 (.op .idx (.cons (.var 0) (.cons (.cst (.str ⟨#[115, 99, 114, 105, 112, 116]⟩)) .nil)))) (.cons (.asg 3 (.op .idx (.cons (.var 0) (.cons (.cst (.str ⟨#[97, 116]⟩))
    .nil)))) (.cons (.ite (.op .eq (.cons (.op .idx (.cons (.var 0) (.cons (.cst (.str ⟨#[108, 101, 102, 116]⟩)) .nil))) (.cons (.cst (.int 0)) .nil))) (.cons (.asgT (.sub 0 (.cst
    (.str ⟨#[97, 116]⟩))) (.op .add (.cons (.var 3) (.cons (.cst (.int 1)) .nil)))) (.cons (.asg 4 (.cst (.int 17))) (.cons (.ite (.op .ne (.cons (.var 2) (.cons (.lst .nil)
    .nil))) (.cons (.asg 4 (.op .idx (.cons (.var 2) (.cons (.op .mod (.cons (.var 3) (.cons (.op .len (.cons (.var 2) .nil)) .nil))) .nil)))) .nil) .nil) (.cons (.ite (.or (.op
    .ge (.cons (.var 3) (.cons (.op .len (.cons (.var 2) .nil)) .nil))) (.op .lt (.cons (.op .abs (.cons (.var 4) .nil)) (.cons (.op .pow (.cons (.cst (.int 10)) (.cons (.cst (.int
    18)) .nil))) .nil)))) (.cons (.asg 5 (.op .idx (.cons (.lst (.cons (.cst (.int 2147483647)) (.cons (.cst (.int 2147483629)) (.cons (.cst (.int 2147483587)) (.cons (.cst (.int
    2147483579)) (.cons (.cst (.int 2147483563)) (.cons (.cst (.int 2147483549)) (.cons (.cst (.int 2147483543)) .nil)))))))) (.cons (.op .mod (.cons (.var 3) (.cons (.cst (.int
    7)) .nil))) .nil)))) (.cons (.asg 6 (.op .mod (.cons (.op .pow (.cons (.op .add (.cons (.op .add (.cons (.op .mul (.cons (.op .add (.cons (.op .mod (.cons (.var 4) (.cons (.var
    5) .nil))) (.cons (.cst (.int 7919)) .nil))) (.cons (.op .add (.cons (.op .mul (.cons (.cst (.int 2)) (.cons (.var 3) .nil))) (.cons (.cst (.int 3)) .nil))) .nil))) (.cons (.op
    .mul (.cons (.cst (.int 104729)) (.cons (.var 3) .nil))) .nil))) (.cons (.cst (.int 5)) .nil))) (.cons (.cst (.int 5)) .nil))) (.cons (.var 5) .nil)))) (.cons (.asg 6 (.op .mod
    (.cons (.op .add (.cons (.op .mul (.cons (.var 6) (.cons (.op .add (.cons (.op .add (.cons (.op .mod (.cons (.var 6) (.cons (.cst (.int 65521)) .nil))) (.cons (.var 3) .nil)))
    (.cons (.cst (.int 3)) .nil))) .nil))) (.cons (.op .mul (.cons (.cst (.int 30011)) (.cons (.var 3) .nil))) .nil))) (.cons (.cst (.int 2147483497)) .nil)))) (.cons (.ret (.op
    .mod (.cons (.op .fdiv (.cons (.var 6) (.cons (.cst (.int 32)) .nil))) (.cons (.var 1) .nil)))) .nil)))) .nil) (.cons (.asgT (.sub 0 (.cst (.str ⟨#[108, 101, 102, 116]⟩))) (.op
    .abs (.cons (.var 4) .nil))) .nil))))) .nil) (.cons (.asg 7 (.op .mod (.cons (.op .idx (.cons (.var 0) (.cons (.cst (.str ⟨#[108, 101, 102, 116]⟩)) .nil))) (.cons (.var 1)
    .nil)))) (.cons (.asgT (.sub 0 (.cst (.str ⟨#[108, 101, 102, 116]⟩))) (.op .fdiv (.cons (.op .idx (.cons (.var 0) (.cons (.cst (.str ⟨#[108, 101, 102, 116]⟩)) .nil))) (.cons
    (.var 1) .nil)))) (.cons (.ret (.var 7)) .nil))))))
def pen1 (sc : List Int) : PenRel := ⟨PenR sc, fun h e => h.mono e⟩
theorem draw1_sp {sc : List Int} : DrawSp (pen1 sc) (evalDef T 2 8 b_draw1) := by
  intro n most d hd hn hm hq
  obtain ⟨r, d', e, h1, h2, h3⟩ := draw_pen (T := T) hd (Int.lt_trans hn (by decide)) hm hq
  exact ⟨_, _, e, r, d', rfl, rfl, h1, h2, h3⟩
/-- _law_pen(_law_script); ; calls ; 1 of 1 -/
def b_pen1 : MSs :=
  (.cons (.ret (.dic (.cons (.cst (.str ⟨#[115, 99, 114, 105, 112, 116]⟩)) (.cons (.op .list (.cons (.slc false true (.var 0) (.cst .none) (.cst (.int 63))) .nil)) (.cons (.cst (.str
    ⟨#[97, 116]⟩)) (.cons (.cst (.int 0)) (.cons (.cst (.str ⟨#[108, 101, 102, 116]⟩)) (.cons (.cst (.int 0)) .nil)))))))) .nil)
theorem pen1_sp {sc : List Int} (h : sc.length ≤ 63) : FS (evalDef T 1 1 b_pen1) [.sh (scriptD sc)] fun v os => ∃ d, v = .own d ∧ os = [.sh (scriptD sc)] ∧ (pen1 sc).R 0 d :=
  ⟨_, _, pen_ev (T := T) h, _, rfl, rfl, 0, 0, rfl, by decide, by decide, by decide⟩
theorem wcomp_pen {own : List Nat} {tg : MT} {b : ME} {Q : List Tw.D → En → Prop} {α β : Type} (P : PenRel) (mk : Tw.D → En) (h : α → Tw.D) (p : α → Prop) (c : Int) {xs : List β} {g : β → Tw.D} {n : Int} {d : Tw.D} (hd : P.R n d) (hc : 0 ≤ c)
    (st : ∀ x n' d', x ∈ xs → n ≤ n' → n' + c ≤ n + xs.length * c → P.R n' d' → WT T tg (g x) (mk d') fun s1 => WE T b s1 fun e s3 => WTake e s3 fun y s4 => ∃ a d'', y = h a ∧ p a ∧ P.R (n' + c) d'' ∧ wipeE own s4 = mk d'')
    (q : ∀ (as : List α) (d' : Tw.D), as.length = xs.length → (∀ a ∈ as, p a) → P.R (n + xs.length * c) d' → Q (as.map h) (mk d')) : WComp T own tg (.cst (.bool true)) b (xs.map g) (mk d) Q := by
  have key : ∀ (xs : List β) (n : Int) (d : Tw.D), P.R n d → (∀ x n' d', x ∈ xs → n ≤ n' → n' + c ≤ n + xs.length * c → P.R n' d' → WT T tg (g x) (mk d') fun s1 => WE T b s1 fun e s3 => WTake e s3 fun y s4 => ∃ a d'', y = h a ∧ p a ∧ P.R (n' + c) d'' ∧ wipeE own s4 = mk d'') →
      ∃ (as : List α) (d' : Tw.D), compGo (compF T own tg (.cst (.bool true)) b) (xs.map g) (mk d) = some (as.map h, mk d') ∧ as.length = xs.length ∧ (∀ a ∈ as, p a) ∧ P.R (n + xs.length * c) d' := by
    intro xs
    induction xs with
    | nil => exact fun n d hd _ => ⟨[], d, rfl, rfl, by simp, by simpa using hd⟩
    | cons x r ih =>
      intro n d hd st
      have el : ((x :: r).length : Int) * c = c + (r.length : Int) * c := by
        rw [List.length_cons, Int.natCast_add, Int.add_mul]
        omega
      have el0 : 0 ≤ (r.length : Int) * c := Int.mul_nonneg (by omega) hc
      obtain ⟨s1, h1, e, s3, h2, y, s4, h3, a, d2, rfl, pa, hd2, h4⟩ := st x n d (by simp) (by omega) (by omega) hd
      obtain ⟨as, d3, h5, h6, h7, h8⟩ := ih (n + c) d2 hd2 fun x n' d' m e1 e2 hd' => st x n' d' (by simp [m]) (by omega) (by omega) hd'
      refine ⟨a :: as, d3, ?_, by simp [h6], by simpa using ⟨pa, h7⟩, by rw [el]; exact P.mono h8 (by omega)⟩
      have : compF T own tg (.cst (.bool true)) b (g x) (mk d) = some (some (h a), mk d2) := by simp only [compF, h1, evalE, h2, h3, h4]
      simp only [List.map_cons, compGo, this, h5]
  obtain ⟨as, d', h1, h2, h3, h4⟩ := key xs n d hd st
  exact ⟨_, _, h1, q as d' h2 h3 h4⟩

end Lb

set_option linter.all false
set_option maxRecDepth 100000
set_option maxHeartbeats 4000000
set_option autoImplicit false
namespace Lb
open PySem Tw
local macro_rules
  | `(tactic| array_get_dec) => `(tactic| repeat (first
    | (refine g_WE ?_; first
      | refine we_cst ?_
      | refine we_sh (by exact rfl) ?_
      | refine we_own (by exact rfl) ?_
      | refine we_inp (by exact rfl) ?_
      | refine we_ins (by exact rfl) ?_
      | refine we_op2 ?_
      | refine we_op1 ?_
      | refine we_dic ?_
      | refine we_tup ?_
      | refine we_lst ?_
      | refine we_not ?_
      | refine we_or ?_
      | refine we_and ?_
      | refine we_chain ?_
      | refine we_chain3 ?_
      | refine we_slc ?_
      | refine we_call ?_
      | refine we_comp ?_)
    | (refine g_WOp ?_; first
      | refine wo_abs ?_
      | with_reducible refine wo_eqsame (by exact shaped_cl rfl) ?_
      | with_reducible refine wo_nesame (by exact shaped_cl rfl) ?_
      | refine wo_neS ?_
      | refine wo_eqS ?_
      | refine wo_neI ?_
      | refine wo_eqI ?_
      | refine wo_intB ?_
      | refine wo_max2 ?_
      | refine wo_pick2I ?_
      | refine wo_min2 ?_
      | refine wo_mul (by first | exact mulOk_bd rfl | assumption) ?_
      | refine wo_mulT (by refine ⟨?_, ?_, ?_⟩ <;> first | omega | (simp only [List.length_nil, List.length_cons]; omega)) ?_
      | refine wo_fdiv (by first | exact divOk_bd (by decide) rfl | assumption) ?_
      | refine wo_mod (by first | decide | assumption) ?_
      | refine wo_pow (by decide) ?_
      | refine wo_repr (by first | exact reprI_bd rfl | assumption | exact repr_rgT (by omega) | exact repr_rgL (by omega) | exact repr_rp rfl) ?_
      | refine wo_str (by assumption) ?_
      | refine wo_addL (by exact Nat.le_of_ble_eq_true rfl) ?_
      | refine wo_addT (by exact Nat.le_of_ble_eq_true rfl) ?_
      | refine wo_lrange (by first | assumption | exact rgOk_by (by omega)) ?_
      | refine wo_trange (by first | assumption | exact rgOk_by (by omega)) ?_
      | refine wo_rgLm (by omega) ?_
      | refine wo_rgTm (by omega) ?_
      | refine wo_rgL (by omega) ?_
      | refine wo_rgT (by omega) ?_
      | with_reducible refine wo_lenrgL (by omega) ?_
      | with_reducible refine wo_lenrgT (by omega) ?_
      | refine wo_sortI ?_
      | refine wo_sumL ?_
      | refine wo_sumT ?_
      | refine wo_lenT ?_
      | refine wo_lenL ?_
      | refine wo_mk (by exact rfl) (by exact rfl) ?_
      | refine wo_mkO (by exact rfl) (by exact rfl) ?_)
    | (refine g_WLook ?_; first
      | refine wl_sh ?_
      | refine wl_own ?_
      | refine wl_slot (by exact rfl) ?_)
    | (refine g_WB ?_; first
      | refine wb_asg ?_
      | refine wb_asgT ?_
      | refine wb_ret ?_
      | refine wb_retN ?_
      | refine wb_ite ?_
      | refine wb_expr ?_
      | refine wb_mut (by exact rfl) ?_
      | refine wb_ext (by exact rfl) ?_
      | refine wb_for ?_
      | refine wb_while ?_
      | refine wb_pass ?_
      | refine wb_brk ?_
      | refine wb_cont ?_
      | refine wb_nil ?_)
    | (refine g_WAsg ?_; first
      | refine wasg_sh ?_
      | refine wasg_own ?_
      | refine wasg_slot (by exact rfl) ?_
      | refine wasg_move (by exact rfl) ?_)
    | (refine g_WBind ?_; first
      | refine wbind (by exact rfl) (by first | exact rfl | assumption) (by first | (dsimp only [List.set_cons_zero, List.set_cons_succ, wipeE, restore, List.getElem?_cons_zero, List.getElem?_cons_succ, setAt]; done) | exact rfl) ?_)
    | (refine g_WEs ?_; first
      | refine wes_cons ?_
      | refine wes_nil ?_)
    | (refine g_WIf ?_; first
      | with_reducible refine wif_nesame ?_
      | with_reducible refine wif_eqsame ?_
      | refine wif_t (by exact rfl) ?_
      | refine wif_f (by exact rfl) ?_)
    | (refine g_WTake ?_; first
      | refine wt_sh ?_
      | refine wt_own ?_
      | refine wt_slot (by exact rfl) (by first | (dsimp only [List.set_cons_zero, List.set_cons_succ, wipeE, restore, List.getElem?_cons_zero, List.getElem?_cons_succ, setAt]; done) | exact rfl) ?_)
    | (refine g_WT ?_; first
      | refine wt_name ?_
      | refine wt_tup ?_
      | refine wt_tupL ?_
      | refine wt_sub (by exact rfl) ?_)
    | (refine g_WTT ?_; first
      | refine wtt_cons ?_
      | refine wtt_nil ?_)
    | (refine g_WTs ?_; first
      | refine wts_cons ?_
      | refine wts_nil ?_)
    | (refine g_WRet ?_; first
      | refine wret_sh ?_
      | refine wret_own ?_
      | refine wret_slot (by exact rfl) (by first | (dsimp only [List.set_cons_zero, List.set_cons_succ, wipeE, restore, List.getElem?_cons_zero, List.getElem?_cons_succ, setAt]; done) | exact rfl) ?_)
    | (refine g_WI ?_; first
      | refine wi_range1 ?_
      | refine wi_range2 ?_
      | refine wi_enum ?_
      | refine wi_zip ?_
      | refine wi_ziprev ?_
      | refine wi_rev ?_
      | refine wi_keys (by exact rfl) (by assumption) ?_
      | refine wi_seq ?_)
    | (refine g_WItems ?_; first
      | refine wit_l ?_
      | refine wit_t ?_)
    | (refine g_WIs ?_; first
      | refine wis (by first | (dsimp only [List.set_cons_zero, List.set_cons_succ, wipeE, restore, List.getElem?_cons_zero, List.getElem?_cons_succ, setAt]; done) | exact rfl) ?_)
    | (refine g_WBig ?_; first
      | refine wbig (by exact Nat.le_of_ble_eq_true rfl) ?_)
    | (refine g_WNot ?_; first
      | refine wnot ?_)
    | (refine g_WBool ?_; first
      | refine wbool ?_)
    | (refine g_WRg1 ?_; first
      | refine wrg1 (by constructor <;> omega) ?_)
    | (refine g_WRg2 ?_; first
      | refine wrg2 (by refine ⟨?_, ?_, ?_, ?_⟩ <;> omega) ?_)
    | (refine g_WSeq ?_; first
      | refine wsq_l ?_
      | refine wsq_t ?_)
    | (refine g_WMut ?_; first
      | refine wmut_app (by exact rfl) (by exact Nat.le_of_ble_eq_true rfl) (by exact rfl) (by first | (dsimp only [List.set_cons_zero, List.set_cons_succ, wipeE, restore, List.getElem?_cons_zero, List.getElem?_cons_succ, setAt]; done) | exact rfl) ?_
      | refine wmut_mk (by exact rfl) (by exact rfl) (by exact rfl) (by first | (dsimp only [List.set_cons_zero, List.set_cons_succ, wipeE, restore, List.getElem?_cons_zero, List.getElem?_cons_succ, setAt]; done) | exact rfl) ?_)
    | (refine g_WExt ?_; first
      | refine wext (by exact rfl) (by exact Nat.le_of_ble_eq_true rfl) (by exact rfl) (by first | (dsimp only [List.set_cons_zero, List.set_cons_succ, wipeE, restore, List.getElem?_cons_zero, List.getElem?_cons_succ, setAt]; done) | exact rfl) ?_)
    | (refine g_WCut ?_; first
      | refine wc_no ?_
      | refine wc_yes ?_)
    | (refine g_WInt ?_; first
      | refine wint ?_)
    | (refine g_WSl ?_; first
      | refine wsl_t ?_
      | refine wsl_l ?_)
    | (refine g_WSub ?_; first
      | refine wsub_mk (by exact rfl) (by first | (dsimp only [List.set_cons_zero, List.set_cons_succ, wipeE, restore, List.getElem?_cons_zero, List.getElem?_cons_succ, setAt]; done) | exact rfl) ?_)
    | (refine g_WDic ?_; first
      | refine wdic (by exact rfl) (by exact rfl) (by exact rfl) ?_)))
/-! The second pen: a list of cells, a place, what is left. -/
variable {T : List Fn}
theorem fmod_in (x : Int) {y : Int} (h : 0 < y) : 0 ≤ x.fmod y ∧ x.fmod y < y := ⟨Int.fmod_nonneg_of_pos x h, Int.fmod_lt_of_pos x h⟩
end Lb

set_option linter.all false
set_option maxRecDepth 100000
set_option maxHeartbeats 4000000
set_option autoImplicit false
namespace Lb
open PySem Tw
local macro_rules
  | `(tactic| array_get_dec) => `(tactic| repeat (first
    | (refine g_WE ?_; first
      | refine we_cst ?_
      | refine we_sh (by exact rfl) ?_
      | refine we_own (by exact rfl) ?_
      | refine we_inp (by exact rfl) ?_
      | refine we_ins (by exact rfl) ?_
      | refine we_op2 ?_
      | refine we_op1 ?_
      | refine we_dic ?_
      | refine we_tup ?_
      | refine we_lst ?_
      | refine we_not ?_
      | refine we_or ?_
      | refine we_and ?_
      | refine we_chain ?_
      | refine we_chain3 ?_
      | refine we_slc ?_
      | refine we_call ?_
      | refine we_comp ?_)
    | (refine g_WOp ?_; first
      | refine wo_abs ?_
      | with_reducible refine wo_eqsame (by exact shaped_cl rfl) ?_
      | with_reducible refine wo_nesame (by exact shaped_cl rfl) ?_
      | refine wo_neS ?_
      | refine wo_eqS ?_
      | refine wo_neI ?_
      | refine wo_eqI ?_
      | refine wo_intB ?_
      | refine wo_max2 ?_
      | refine wo_pick2I ?_
      | refine wo_min2 ?_
      | refine wo_mul (by first | exact mulOk_bd rfl | assumption) ?_
      | refine wo_mulT (by refine ⟨?_, ?_, ?_⟩ <;> first | omega | (simp only [List.length_nil, List.length_cons]; omega)) ?_
      | refine wo_fdiv (by first | exact divOk_bd (by decide) rfl | assumption) ?_
      | refine wo_mod (by first | decide | assumption) ?_
      | refine wo_pow (by decide) ?_
      | refine wo_repr (by first | exact reprI_bd rfl | assumption | exact repr_rgT (by omega) | exact repr_rgL (by omega) | exact repr_rp rfl) ?_
      | refine wo_str (by assumption) ?_
      | refine wo_addL (by exact Nat.le_of_ble_eq_true rfl) ?_
      | refine wo_addT (by exact Nat.le_of_ble_eq_true rfl) ?_
      | refine wo_lrange (by first | assumption | exact rgOk_by (by omega)) ?_
      | refine wo_trange (by first | assumption | exact rgOk_by (by omega)) ?_
      | refine wo_rgLm (by omega) ?_
      | refine wo_rgTm (by omega) ?_
      | refine wo_rgL (by omega) ?_
      | refine wo_rgT (by omega) ?_
      | with_reducible refine wo_lenrgL (by omega) ?_
      | with_reducible refine wo_lenrgT (by omega) ?_
      | refine wo_sortI ?_
      | refine wo_sumL ?_
      | refine wo_sumT ?_
      | refine wo_lenT ?_
      | refine wo_lenL ?_
      | refine wo_mk (by exact rfl) (by exact rfl) ?_
      | refine wo_mkO (by exact rfl) (by exact rfl) ?_)
    | (refine g_WLook ?_; first
      | refine wl_sh ?_
      | refine wl_own ?_
      | refine wl_slot (by exact rfl) ?_)
    | (refine g_WB ?_; first
      | refine wb_asg ?_
      | refine wb_asgT ?_
      | refine wb_ret ?_
      | refine wb_retN ?_
      | refine wb_ite ?_
      | refine wb_expr ?_
      | refine wb_mut (by exact rfl) ?_
      | refine wb_ext (by exact rfl) ?_
      | refine wb_for ?_
      | refine wb_while ?_
      | refine wb_pass ?_
      | refine wb_brk ?_
      | refine wb_cont ?_
      | refine wb_nil ?_)
    | (refine g_WAsg ?_; first
      | refine wasg_sh ?_
      | refine wasg_own ?_
      | refine wasg_slot (by exact rfl) ?_
      | refine wasg_move (by exact rfl) ?_)
    | (refine g_WBind ?_; first
      | refine wbind (by exact rfl) (by first | exact rfl | assumption) (by first | (dsimp only [List.set_cons_zero, List.set_cons_succ, wipeE, restore, List.getElem?_cons_zero, List.getElem?_cons_succ, setAt]; done) | exact rfl) ?_)
    | (refine g_WEs ?_; first
      | refine wes_cons ?_
      | refine wes_nil ?_)
    | (refine g_WIf ?_; first
      | with_reducible refine wif_nesame ?_
      | with_reducible refine wif_eqsame ?_
      | refine wif_t (by exact rfl) ?_
      | refine wif_f (by exact rfl) ?_)
    | (refine g_WTake ?_; first
      | refine wt_sh ?_
      | refine wt_own ?_
      | refine wt_slot (by exact rfl) (by first | (dsimp only [List.set_cons_zero, List.set_cons_succ, wipeE, restore, List.getElem?_cons_zero, List.getElem?_cons_succ, setAt]; done) | exact rfl) ?_)
    | (refine g_WT ?_; first
      | refine wt_name ?_
      | refine wt_tup ?_
      | refine wt_tupL ?_
      | refine wt_sub (by exact rfl) ?_)
    | (refine g_WTT ?_; first
      | refine wtt_cons ?_
      | refine wtt_nil ?_)
    | (refine g_WTs ?_; first
      | refine wts_cons ?_
      | refine wts_nil ?_)
    | (refine g_WRet ?_; first
      | refine wret_sh ?_
      | refine wret_own ?_
      | refine wret_slot (by exact rfl) (by first | (dsimp only [List.set_cons_zero, List.set_cons_succ, wipeE, restore, List.getElem?_cons_zero, List.getElem?_cons_succ, setAt]; done) | exact rfl) ?_)
    | (refine g_WI ?_; first
      | refine wi_range1 ?_
      | refine wi_range2 ?_
      | refine wi_enum ?_
      | refine wi_zip ?_
      | refine wi_ziprev ?_
      | refine wi_rev ?_
      | refine wi_keys (by exact rfl) (by assumption) ?_
      | refine wi_seq ?_)
    | (refine g_WItems ?_; first
      | refine wit_l ?_
      | refine wit_t ?_)
    | (refine g_WIs ?_; first
      | refine wis (by first | (dsimp only [List.set_cons_zero, List.set_cons_succ, wipeE, restore, List.getElem?_cons_zero, List.getElem?_cons_succ, setAt]; done) | exact rfl) ?_)
    | (refine g_WBig ?_; first
      | refine wbig (by exact Nat.le_of_ble_eq_true rfl) ?_)
    | (refine g_WNot ?_; first
      | refine wnot ?_)
    | (refine g_WBool ?_; first
      | refine wbool ?_)
    | (refine g_WRg1 ?_; first
      | refine wrg1 (by constructor <;> omega) ?_)
    | (refine g_WRg2 ?_; first
      | refine wrg2 (by refine ⟨?_, ?_, ?_, ?_⟩ <;> omega) ?_)
    | (refine g_WSeq ?_; first
      | refine wsq_l ?_
      | refine wsq_t ?_)
    | (refine g_WMut ?_; first
      | refine wmut_app (by exact rfl) (by exact Nat.le_of_ble_eq_true rfl) (by exact rfl) (by first | (dsimp only [List.set_cons_zero, List.set_cons_succ, wipeE, restore, List.getElem?_cons_zero, List.getElem?_cons_succ, setAt]; done) | exact rfl) ?_
      | refine wmut_mk (by exact rfl) (by exact rfl) (by exact rfl) (by first | (dsimp only [List.set_cons_zero, List.set_cons_succ, wipeE, restore, List.getElem?_cons_zero, List.getElem?_cons_succ, setAt]; done) | exact rfl) ?_)
    | (refine g_WExt ?_; first
      | refine wext (by exact rfl) (by exact Nat.le_of_ble_eq_true rfl) (by exact rfl) (by first | (dsimp only [List.set_cons_zero, List.set_cons_succ, wipeE, restore, List.getElem?_cons_zero, List.getElem?_cons_succ, setAt]; done) | exact rfl) ?_)
    | (refine g_WCut ?_; first
      | refine wc_no ?_
      | refine wc_yes ?_)
    | (refine g_WInt ?_; first
      | refine wint ?_)
    | (refine g_WSl ?_; first
      | refine wsl_t ?_
      | refine wsl_l ?_)
    | (refine g_WSub ?_; first
      | refine wsub_mk (by exact rfl) (by first | (dsimp only [List.set_cons_zero, List.set_cons_succ, wipeE, restore, List.getElem?_cons_zero, List.getElem?_cons_succ, setAt]; done) | exact rfl) ?_)
    | (refine g_WDic ?_; first
      | refine wdic (by exact rfl) (by exact rfl) (by exact rfl) ?_)))
/-! The third pen; shops and falls of the laws of marks. -/
variable {T : List Fn}
/-- falls: days, each of weights -/
def dayD (w : List Int) : Tw.D := .tuple (w.map PyData.int)
structure DayOk (m : Nat) (w : List Int) : Prop where
  l1 : 1 ≤ w.length
  l2 : w.length ≤ m
  b : ∀ x ∈ w, 0 ≤ x ∧ x ≤ 1000
  pos : ∃ x ∈ w, 0 < x
theorem sum_nonneg : ∀ {xs : List Int}, (∀ x ∈ xs, 0 ≤ x) → 0 ≤ xs.sum
  | [], _ => by simp
  | x :: r, h => by
    have h1 := h x (by simp)
    have h2 := sum_nonneg (xs := r) fun y m => h y (by simp [m])
    rw [List.sum_cons]
    omega
theorem DayOk.mono {m k : Nat} {w : List Int} (h : DayOk m w) (e : m ≤ k) : DayOk k w := ⟨h.l1, Nat.le_trans h.l2 e, h.b, h.pos⟩
end Lb

set_option linter.all false
set_option maxRecDepth 100000
set_option maxHeartbeats 4000000
set_option autoImplicit false
namespace Lb
open PySem Tw
local macro_rules
  | `(tactic| array_get_dec) => `(tactic| repeat (first
    | (refine g_WE ?_; first
      | refine we_cst ?_
      | refine we_sh (by exact rfl) ?_
      | refine we_own (by exact rfl) ?_
      | refine we_inp (by exact rfl) ?_
      | refine we_ins (by exact rfl) ?_
      | refine we_op2 ?_
      | refine we_op1 ?_
      | refine we_dic ?_
      | refine we_tup ?_
      | refine we_lst ?_
      | refine we_not ?_
      | refine we_or ?_
      | refine we_and ?_
      | refine we_chain ?_
      | refine we_chain3 ?_
      | refine we_slc ?_
      | refine we_call ?_
      | refine we_comp ?_)
    | (refine g_WOp ?_; first
      | refine wo_abs ?_
      | with_reducible refine wo_eqsame (by exact shaped_cl rfl) ?_
      | with_reducible refine wo_nesame (by exact shaped_cl rfl) ?_
      | refine wo_neS ?_
      | refine wo_eqS ?_
      | refine wo_neI ?_
      | refine wo_eqI ?_
      | refine wo_intB ?_
      | refine wo_max2 ?_
      | refine wo_pick2I ?_
      | refine wo_min2 ?_
      | refine wo_mul (by first | exact mulOk_bd rfl | assumption) ?_
      | refine wo_mulT (by refine ⟨?_, ?_, ?_⟩ <;> first | omega | (simp only [List.length_nil, List.length_cons]; omega)) ?_
      | refine wo_fdiv (by first | exact divOk_bd (by decide) rfl | assumption) ?_
      | refine wo_mod (by first | decide | assumption) ?_
      | refine wo_pow (by decide) ?_
      | refine wo_repr (by first | exact reprI_bd rfl | assumption | exact repr_rgT (by omega) | exact repr_rgL (by omega) | exact repr_rp rfl) ?_
      | refine wo_str (by assumption) ?_
      | refine wo_addL (by exact Nat.le_of_ble_eq_true rfl) ?_
      | refine wo_addT (by exact Nat.le_of_ble_eq_true rfl) ?_
      | refine wo_lrange (by first | assumption | exact rgOk_by (by omega)) ?_
      | refine wo_trange (by first | assumption | exact rgOk_by (by omega)) ?_
      | refine wo_rgLm (by omega) ?_
      | refine wo_rgTm (by omega) ?_
      | refine wo_rgL (by omega) ?_
      | refine wo_rgT (by omega) ?_
      | with_reducible refine wo_lenrgL (by omega) ?_
      | with_reducible refine wo_lenrgT (by omega) ?_
      | refine wo_sortI ?_
      | refine wo_sumL ?_
      | refine wo_sumT ?_
      | refine wo_lenT ?_
      | refine wo_lenL ?_
      | refine wo_mk (by exact rfl) (by exact rfl) ?_
      | refine wo_mkO (by exact rfl) (by exact rfl) ?_)
    | (refine g_WLook ?_; first
      | refine wl_sh ?_
      | refine wl_own ?_
      | refine wl_slot (by exact rfl) ?_)
    | (refine g_WB ?_; first
      | refine wb_asg ?_
      | refine wb_asgT ?_
      | refine wb_ret ?_
      | refine wb_retN ?_
      | refine wb_ite ?_
      | refine wb_expr ?_
      | refine wb_mut (by exact rfl) ?_
      | refine wb_ext (by exact rfl) ?_
      | refine wb_for ?_
      | refine wb_while ?_
      | refine wb_pass ?_
      | refine wb_brk ?_
      | refine wb_cont ?_
      | refine wb_nil ?_)
    | (refine g_WAsg ?_; first
      | refine wasg_sh ?_
      | refine wasg_own ?_
      | refine wasg_slot (by exact rfl) ?_
      | refine wasg_move (by exact rfl) ?_)
    | (refine g_WBind ?_; first
      | refine wbind (by exact rfl) (by first | exact rfl | assumption) (by first | (dsimp only [List.set_cons_zero, List.set_cons_succ, wipeE, restore, List.getElem?_cons_zero, List.getElem?_cons_succ, setAt]; done) | exact rfl) ?_)
    | (refine g_WEs ?_; first
      | refine wes_cons ?_
      | refine wes_nil ?_)
    | (refine g_WIf ?_; first
      | with_reducible refine wif_nesame ?_
      | with_reducible refine wif_eqsame ?_
      | refine wif_t (by exact rfl) ?_
      | refine wif_f (by exact rfl) ?_)
    | (refine g_WTake ?_; first
      | refine wt_sh ?_
      | refine wt_own ?_
      | refine wt_slot (by exact rfl) (by first | (dsimp only [List.set_cons_zero, List.set_cons_succ, wipeE, restore, List.getElem?_cons_zero, List.getElem?_cons_succ, setAt]; done) | exact rfl) ?_)
    | (refine g_WT ?_; first
      | refine wt_name ?_
      | refine wt_tup ?_
      | refine wt_tupL ?_
      | refine wt_sub (by exact rfl) ?_)
    | (refine g_WTT ?_; first
      | refine wtt_cons ?_
      | refine wtt_nil ?_)
    | (refine g_WTs ?_; first
      | refine wts_cons ?_
      | refine wts_nil ?_)
    | (refine g_WRet ?_; first
      | refine wret_sh ?_
      | refine wret_own ?_
      | refine wret_slot (by exact rfl) (by first | (dsimp only [List.set_cons_zero, List.set_cons_succ, wipeE, restore, List.getElem?_cons_zero, List.getElem?_cons_succ, setAt]; done) | exact rfl) ?_)
    | (refine g_WI ?_; first
      | refine wi_range1 ?_
      | refine wi_range2 ?_
      | refine wi_enum ?_
      | refine wi_zip ?_
      | refine wi_ziprev ?_
      | refine wi_rev ?_
      | refine wi_keys (by exact rfl) (by assumption) ?_
      | refine wi_seq ?_)
    | (refine g_WItems ?_; first
      | refine wit_l ?_
      | refine wit_t ?_)
    | (refine g_WIs ?_; first
      | refine wis (by first | (dsimp only [List.set_cons_zero, List.set_cons_succ, wipeE, restore, List.getElem?_cons_zero, List.getElem?_cons_succ, setAt]; done) | exact rfl) ?_)
    | (refine g_WBig ?_; first
      | refine wbig (by exact Nat.le_of_ble_eq_true rfl) ?_)
    | (refine g_WNot ?_; first
      | refine wnot ?_)
    | (refine g_WBool ?_; first
      | refine wbool ?_)
    | (refine g_WRg1 ?_; first
      | refine wrg1 (by constructor <;> omega) ?_)
    | (refine g_WRg2 ?_; first
      | refine wrg2 (by refine ⟨?_, ?_, ?_, ?_⟩ <;> omega) ?_)
    | (refine g_WSeq ?_; first
      | refine wsq_l ?_
      | refine wsq_t ?_)
    | (refine g_WMut ?_; first
      | refine wmut_app (by exact rfl) (by exact Nat.le_of_ble_eq_true rfl) (by exact rfl) (by first | (dsimp only [List.set_cons_zero, List.set_cons_succ, wipeE, restore, List.getElem?_cons_zero, List.getElem?_cons_succ, setAt]; done) | exact rfl) ?_
      | refine wmut_mk (by exact rfl) (by exact rfl) (by exact rfl) (by first | (dsimp only [List.set_cons_zero, List.set_cons_succ, wipeE, restore, List.getElem?_cons_zero, List.getElem?_cons_succ, setAt]; done) | exact rfl) ?_)
    | (refine g_WExt ?_; first
      | refine wext (by exact rfl) (by exact Nat.le_of_ble_eq_true rfl) (by exact rfl) (by first | (dsimp only [List.set_cons_zero, List.set_cons_succ, wipeE, restore, List.getElem?_cons_zero, List.getElem?_cons_succ, setAt]; done) | exact rfl) ?_)
    | (refine g_WCut ?_; first
      | refine wc_no ?_
      | refine wc_yes ?_)
    | (refine g_WInt ?_; first
      | refine wint ?_)
    | (refine g_WSl ?_; first
      | refine wsl_t ?_
      | refine wsl_l ?_)
    | (refine g_WSub ?_; first
      | refine wsub_mk (by exact rfl) (by first | (dsimp only [List.set_cons_zero, List.set_cons_succ, wipeE, restore, List.getElem?_cons_zero, List.getElem?_cons_succ, setAt]; done) | exact rfl) ?_)
    | (refine g_WDic ?_; first
      | refine wdic (by exact rfl) (by exact rfl) (by exact rfl) ?_)))
/-! The fourth pen (draws as the third one); shops and days of the laws of tables. -/
variable {T : List Fn}
end Lb

set_option linter.all false
set_option maxRecDepth 100000
set_option maxHeartbeats 4000000
set_option autoImplicit false
namespace Lb
open PySem Tw
local macro_rules
  | `(tactic| array_get_dec) => `(tactic| repeat (first
    | (refine g_WE ?_; first
      | refine we_cst ?_
      | refine we_sh (by exact rfl) ?_
      | refine we_own (by exact rfl) ?_
      | refine we_inp (by exact rfl) ?_
      | refine we_ins (by exact rfl) ?_
      | refine we_op2 ?_
      | refine we_op1 ?_
      | refine we_dic ?_
      | refine we_tup ?_
      | refine we_lst ?_
      | refine we_not ?_
      | refine we_or ?_
      | refine we_and ?_
      | refine we_chain ?_
      | refine we_chain3 ?_
      | refine we_slc ?_
      | refine we_call ?_
      | refine we_comp ?_)
    | (refine g_WOp ?_; first
      | refine wo_abs ?_
      | with_reducible refine wo_eqsame (by exact shaped_cl rfl) ?_
      | with_reducible refine wo_nesame (by exact shaped_cl rfl) ?_
      | refine wo_neS ?_
      | refine wo_eqS ?_
      | refine wo_neI ?_
      | refine wo_eqI ?_
      | refine wo_intB ?_
      | refine wo_max2 ?_
      | refine wo_pick2I ?_
      | refine wo_min2 ?_
      | refine wo_mul (by first | exact mulOk_bd rfl | assumption) ?_
      | refine wo_mulT (by refine ⟨?_, ?_, ?_⟩ <;> first | omega | (simp only [List.length_nil, List.length_cons]; omega)) ?_
      | refine wo_fdiv (by first | exact divOk_bd (by decide) rfl | assumption) ?_
      | refine wo_mod (by first | decide | assumption) ?_
      | refine wo_pow (by decide) ?_
      | refine wo_repr (by first | exact reprI_bd rfl | assumption | exact repr_rgT (by omega) | exact repr_rgL (by omega) | exact repr_rp rfl) ?_
      | refine wo_str (by assumption) ?_
      | refine wo_addL (by exact Nat.le_of_ble_eq_true rfl) ?_
      | refine wo_addT (by exact Nat.le_of_ble_eq_true rfl) ?_
      | refine wo_lrange (by first | assumption | exact rgOk_by (by omega)) ?_
      | refine wo_trange (by first | assumption | exact rgOk_by (by omega)) ?_
      | refine wo_rgLm (by omega) ?_
      | refine wo_rgTm (by omega) ?_
      | refine wo_rgL (by omega) ?_
      | refine wo_rgT (by omega) ?_
      | with_reducible refine wo_lenrgL (by omega) ?_
      | with_reducible refine wo_lenrgT (by omega) ?_
      | refine wo_sortI ?_
      | refine wo_sumL ?_
      | refine wo_sumT ?_
      | refine wo_lenT ?_
      | refine wo_lenL ?_
      | refine wo_mk (by exact rfl) (by exact rfl) ?_
      | refine wo_mkO (by exact rfl) (by exact rfl) ?_)
    | (refine g_WLook ?_; first
      | refine wl_sh ?_
      | refine wl_own ?_
      | refine wl_slot (by exact rfl) ?_)
    | (refine g_WB ?_; first
      | refine wb_asg ?_
      | refine wb_asgT ?_
      | refine wb_ret ?_
      | refine wb_retN ?_
      | refine wb_ite ?_
      | refine wb_expr ?_
      | refine wb_mut (by exact rfl) ?_
      | refine wb_ext (by exact rfl) ?_
      | refine wb_for ?_
      | refine wb_while ?_
      | refine wb_pass ?_
      | refine wb_brk ?_
      | refine wb_cont ?_
      | refine wb_nil ?_)
    | (refine g_WAsg ?_; first
      | refine wasg_sh ?_
      | refine wasg_own ?_
      | refine wasg_slot (by exact rfl) ?_
      | refine wasg_move (by exact rfl) ?_)
    | (refine g_WBind ?_; first
      | refine wbind (by exact rfl) (by first | exact rfl | assumption) (by first | (dsimp only [List.set_cons_zero, List.set_cons_succ, wipeE, restore, List.getElem?_cons_zero, List.getElem?_cons_succ, setAt]; done) | exact rfl) ?_)
    | (refine g_WEs ?_; first
      | refine wes_cons ?_
      | refine wes_nil ?_)
    | (refine g_WIf ?_; first
      | with_reducible refine wif_nesame ?_
      | with_reducible refine wif_eqsame ?_
      | refine wif_t (by exact rfl) ?_
      | refine wif_f (by exact rfl) ?_)
    | (refine g_WTake ?_; first
      | refine wt_sh ?_
      | refine wt_own ?_
      | refine wt_slot (by exact rfl) (by first | (dsimp only [List.set_cons_zero, List.set_cons_succ, wipeE, restore, List.getElem?_cons_zero, List.getElem?_cons_succ, setAt]; done) | exact rfl) ?_)
    | (refine g_WT ?_; first
      | refine wt_name ?_
      | refine wt_tup ?_
      | refine wt_tupL ?_
      | refine wt_sub (by exact rfl) ?_)
    | (refine g_WTT ?_; first
      | refine wtt_cons ?_
      | refine wtt_nil ?_)
    | (refine g_WTs ?_; first
      | refine wts_cons ?_
      | refine wts_nil ?_)
    | (refine g_WRet ?_; first
      | refine wret_sh ?_
      | refine wret_own ?_
      | refine wret_slot (by exact rfl) (by first | (dsimp only [List.set_cons_zero, List.set_cons_succ, wipeE, restore, List.getElem?_cons_zero, List.getElem?_cons_succ, setAt]; done) | exact rfl) ?_)
    | (refine g_WI ?_; first
      | refine wi_range1 ?_
      | refine wi_range2 ?_
      | refine wi_enum ?_
      | refine wi_zip ?_
      | refine wi_ziprev ?_
      | refine wi_rev ?_
      | refine wi_keys (by exact rfl) (by assumption) ?_
      | refine wi_seq ?_)
    | (refine g_WItems ?_; first
      | refine wit_l ?_
      | refine wit_t ?_)
    | (refine g_WIs ?_; first
      | refine wis (by first | (dsimp only [List.set_cons_zero, List.set_cons_succ, wipeE, restore, List.getElem?_cons_zero, List.getElem?_cons_succ, setAt]; done) | exact rfl) ?_)
    | (refine g_WBig ?_; first
      | refine wbig (by exact Nat.le_of_ble_eq_true rfl) ?_)
    | (refine g_WNot ?_; first
      | refine wnot ?_)
    | (refine g_WBool ?_; first
      | refine wbool ?_)
    | (refine g_WRg1 ?_; first
      | refine wrg1 (by constructor <;> omega) ?_)
    | (refine g_WRg2 ?_; first
      | refine wrg2 (by refine ⟨?_, ?_, ?_, ?_⟩ <;> omega) ?_)
    | (refine g_WSeq ?_; first
      | refine wsq_l ?_
      | refine wsq_t ?_)
    | (refine g_WMut ?_; first
      | refine wmut_app (by exact rfl) (by exact Nat.le_of_ble_eq_true rfl) (by exact rfl) (by first | (dsimp only [List.set_cons_zero, List.set_cons_succ, wipeE, restore, List.getElem?_cons_zero, List.getElem?_cons_succ, setAt]; done) | exact rfl) ?_
      | refine wmut_mk (by exact rfl) (by exact rfl) (by exact rfl) (by first | (dsimp only [List.set_cons_zero, List.set_cons_succ, wipeE, restore, List.getElem?_cons_zero, List.getElem?_cons_succ, setAt]; done) | exact rfl) ?_)
    | (refine g_WExt ?_; first
      | refine wext (by exact rfl) (by exact Nat.le_of_ble_eq_true rfl) (by exact rfl) (by first | (dsimp only [List.set_cons_zero, List.set_cons_succ, wipeE, restore, List.getElem?_cons_zero, List.getElem?_cons_succ, setAt]; done) | exact rfl) ?_)
    | (refine g_WCut ?_; first
      | refine wc_no ?_
      | refine wc_yes ?_)
    | (refine g_WInt ?_; first
      | refine wint ?_)
    | (refine g_WSl ?_; first
      | refine wsl_t ?_
      | refine wsl_l ?_)
    | (refine g_WSub ?_; first
      | refine wsub_mk (by exact rfl) (by first | (dsimp only [List.set_cons_zero, List.set_cons_succ, wipeE, restore, List.getElem?_cons_zero, List.getElem?_cons_succ, setAt]; done) | exact rfl) ?_)
    | (refine g_WDic ?_; first
      | refine wdic (by exact rfl) (by exact rfl) (by exact rfl) ?_)))
/-! Shares; the table of least costs. -/
variable {T : List Fn}
/-- common(one, other); ; calls ; 2 of 2 -/
def b_common : MSs :=
  (.cons (.while (.op .gt (.cons (.var 1) (.cons (.cst (.int 0)) .nil))) (.cons (.asgT (.tup (.cons (.name 0) (.cons (.name 1) .nil))) (.tup (.cons (.var 1) (.cons (.op .mod (.cons
    (.var 0) (.cons (.var 1) .nil))) .nil)))) .nil)) (.cons (.ret (.var 0)) .nil))
def CommonSp (f : Fn) : Prop := ∀ (a b : Int), 0 ≤ a → 0 ≤ b → PF f [.sh (.int a), .sh (.int b)] (.int (Int.gcd a b : Nat))
theorem gcd_fmod {a b : Int} (ha : 0 ≤ a) (hb : 0 < b) : Int.gcd b (a.fmod b) = Int.gcd a b := by
  obtain ⟨x, rfl⟩ := Int.eq_ofNat_of_zero_le ha
  obtain ⟨y, rfl⟩ := Int.eq_ofNat_of_zero_le (Int.le_of_lt hb)
  rw [Int.fmod_eq_emod_of_nonneg _ (by omega)]
  have e : ((x : Nat) : Int) % ((y : Nat) : Int) = ((x % y : Nat) : Int) := by omega
  rw [e]
  show Nat.gcd y (x % y) = Nat.gcd x y
  rw [Nat.gcd_comm x y, Nat.gcd_rec y x, Nat.gcd_comm]
theorem common_sp : CommonSp (evalDef T 2 2 b_common) := by
  intro a b ha hb
  refine pf_of rfl (by first | (dsimp only [List.cons_append, List.nil_append, Nat.reduceSub, Nat.reduceAdd, List.replicate_succ, List.replicate_zero]; done) | exact rfl) ?_
  unfold b_common
  array_get_dec
  refine wwhile (M := b.toNat) (fun m s' => ∃ a' b' : Int, 0 ≤ a' ∧ 0 ≤ b' ∧ b'.toNat = m ∧ Int.gcd a' b' = Int.gcd a b ∧ s' = [.sh (.int a'), .sh (.int b')]) ?_ ⟨a, b, ha, hb, rfl, rfl, rfl⟩
  rintro m s' ⟨a', b', h1, h2, h3, h4, rfl⟩
  array_get_dec
  refine wif_dec (fun z => ?_) fun z => ?_
  · have h0 : b' ≠ 0 := by omega
    have f := fmod_in a' z
    array_get_dec
    exact ⟨_, by omega, b', a'.fmod b', h2, f.1, rfl, by rw [gcd_fmod h1 z, h4], rfl⟩
  · array_get_dec
    have e : b' = 0 := by omega
    subst e
    refine ⟨?_, rfl⟩
    have e2 : ((Int.gcd a b : Nat) : Int) = a' := by
      rw [← h4, Int.gcd_zero_right]
      omega
    rw [e2]
/-- share(top, bottom); both; calls common; 2 of 3 -/
def b_share (k0 : Nat) : MSs :=
  (.cons (.ite (.op .eq (.cons (.var 1) (.cons (.cst (.int 0)) .nil))) (.cons .stuck .nil) .nil) (.cons (.ite (.op .lt (.cons (.var 1) (.cons (.cst (.int 0)) .nil))) (.cons (.asgT
    (.tup (.cons (.name 0) (.cons (.name 1) .nil))) (.tup (.cons (.op .sub (.cons (.cst (.int 0)) (.cons (.var 0) .nil))) (.cons (.op .sub (.cons (.cst (.int 0)) (.cons (.var 1)
    .nil))) .nil)))) .nil) .nil) (.cons (.asg 2 (.call k0 (.cons (.op .abs (.cons (.var 0) .nil)) (.cons (.var 1) .nil)))) (.cons (.ret (.tup (.cons (.op .fdiv (.cons (.var 0)
    (.cons (.var 2) .nil))) (.cons (.op .fdiv (.cons (.var 1) (.cons (.var 2) .nil))) .nil)))) .nil))))
/-- the share of two numbers -/
def shrT (t b : Int) : Int := t.fdiv (Int.gcd t b : Nat)
def shrB (t b : Int) : Int := b.fdiv (Int.gcd t b : Nat)
def shrD (t b : Int) : Tw.D := .tuple [.int (shrT t b), .int (shrB t b)]
def ShareSp (f : Fn) : Prop := ∀ (t b : Int), 0 < b → Bd b 5000 → PF f [.sh (.int t), .sh (.int b)] (shrD t b)
theorem gcd_abs (t b : Int) : Int.gcd (if t < 0 then -t else t) b = Int.gcd t b := by
  split
  · rw [Int.neg_gcd]
  · rfl
theorem gcd_bd {t b : Int} (h : 0 < b) {k : Nat} (hb : Bd b k) : Bd (Int.gcd t b : Nat) k := ⟨by
  have h1 : Int.gcd t b ∣ b.natAbs := Int.gcd_dvd_natAbs_right t b
  have h2 := Nat.le_of_dvd (by omega) h1
  have := hb.h
  omega⟩
theorem gcd_pos {t b : Int} (h : 0 < b) : (0 : Int) < (Int.gcd t b : Nat) := by
  have : 0 < Int.gcd t b := Int.gcd_pos_of_ne_zero_right t (by omega)
  omega
theorem share_sp {k0 : Nat} {f0 : Fn} (h0 : T[k0]? = some f0) (n0 : CommonSp f0) : ShareSp (evalDef T 2 3 (b_share k0)) := by
  intro t b hb hB
  have hg := gcd_bd (t := t) hb hB
  have hp := gcd_pos (t := t) hb
  have n0' := n0 (if t < 0 then -t else t) b (by split <;> omega) (by omega)
  rw [gcd_abs] at n0'
  have dv : divOk (Int.gcd t b : Nat) = true := divOk_bd (by omega) rfl
  refine pf_of rfl (by first | (dsimp only [List.cons_append, List.nil_append, Nat.reduceSub, Nat.reduceAdd, List.replicate_succ, List.replicate_zero]; done) | exact rfl) ?_
  unfold b_share
  array_get_dec
  refine wif_df (by omega) ?_
  array_get_dec
  refine wif_df (by omega) ?_
  array_get_dec
  refine wapp_pf h0 (n0') (by exact rfl) (by exact rfl) ?_
  array_get_dec
  exact ⟨rfl, rfl⟩
/-! ### the table, day by day from the last one back -/
def ixI (xs : List Int) (i : Int) : Int := xs.getD i.toNat 0
theorem ixI_mem {xs : List Int} {i : Int} (h : 0 ≤ i ∧ i < xs.length) : ixI xs i ∈ xs := by
  have hk : i.toNat < xs.length := by omega
  unfold ixI
  rw [List.getD_eq_getElem?_getD, List.getElem?_eq_getElem hk]
  exact List.getElem_mem hk
/-- how many stocks -/
def Shp.N (s : Shp) : Nat := (s.t + 1 - (0 - s.d)).toNat
def endsF (s : Shp) : List Int := (List.range s.N).map fun i : Nat => endC s (0 - s.d + (i : Nat))
theorem stD_eq (s : Shp) : stD s = (List.range s.N).map fun i : Nat => PyData.int (0 - s.d + (i : Nat)) := rfl
/-- what a level costs -/
def lvS (s : Shp) (w later : List Int) (b l : Int) : Int := s.b * l * w.sum * b + ((enumI 0 w).map fun p => p.2 * (dayC s l p.1 * b + ixI later (nxt s l p.1 + s.d))).sum
def sumsF (s : Shp) (w later : List Int) (b : Int) : List Int := (List.range s.N).map fun i : Nat => lvS s w later b (0 - s.d + (i : Nat))
theorem nxt_in {s : Shp} (ho : s.Ok) {l f : Int} (hl : 0 - s.d ≤ l ∧ l ≤ s.t) (hf : 0 ≤ f) : 0 ≤ nxt s l f + s.d ∧ nxt s l f + s.d < s.N ∧ nxt s l f ≤ l := by
  obtain ⟨o1, o2, o3, _, _, _, _, _, _, _⟩ := ho
  unfold nxt mx Shp.N
  split <;> omega
theorem day_sum {m : Nat} {w : List Int} (h : DayOk m w) (hm : m ≤ 8) : 1 ≤ w.sum ∧ w.sum ≤ 8000 := by
  have key : ∀ xs : List Int, (∀ x ∈ xs, 0 ≤ x ∧ x ≤ 1000) → 0 ≤ xs.sum ∧ xs.sum ≤ 1000 * (xs.length : Nat) := by
    intro xs
    induction xs with
    | nil => simp
    | cons x r ih =>
      intro h
      have h1 := h x (by simp)
      have h2 := ih fun y m => h y (by simp [m])
      rw [List.sum_cons, List.length_cons]
      omega
  have h1 := key w h.b
  have h2 := h.l2
  have h3 : w.sum ≠ 0 := fun z => by
    obtain ⟨x, hx, h0⟩ := h.pos
    have : ∀ xs : List Int, (∀ x ∈ xs, 0 ≤ x) → x ∈ xs → x ≤ xs.sum := by
      intro xs
      induction xs with
      | nil => simp
      | cons y r ih =>
        intro h hm
        have h1 := h y (by simp)
        have h4 := sum_nonneg (xs := r) fun y m => h y (by simp [m])
        rw [List.sum_cons]
        rcases List.mem_cons.mp hm with rfl | hm
        · omega
        · have := ih (fun y m => h y (by simp [m])) hm
          omega
    have := this w (fun x hx => (h.b x hx).1) hx
    omega
  omega
/-- from the top down: the least sum so far and the least level that has it -/
def bst (f : Int → Int) (t : Int) : Nat → Option (Int × Int)
  | 0 => none
  | k + 1 => match bst f t k with
    | none => some (f (t - k), t - k)
    | some p => if f (t - k) ≤ p.1 then some (f (t - k), t - k) else some p
/-- a stock's least cost and level -/
def rowOf (f : Int → Int) (t cb pb : Int) (k : Nat) : Int × Int := match bst f t k with
  | none => (f (t - k) - pb * (t - k), t - k)
  | some p => if p.1 + cb < f (t - k) then (p.1 + cb - pb * (t - k), p.2) else (f (t - k) - pb * (t - k), t - k)
/-- the sum of a level -/
def smAt (s : Shp) (sums : List Int) (l : Int) : Int := ixI sums (l + s.d)
def rowK (s : Shp) (sums : List Int) (b : Int) (k : Nat) : Int × Int := rowOf (smAt s sums) s.t (s.a * b) (s.b * b) k
/-- the rows of a day, for all stocks rising -/
def rowsF (s : Shp) (sums : List Int) (b : Int) : List (Int × Int) := (List.range s.N).map fun i : Nat => rowK s sums b (s.N - 1 - i)
/-! ### sizes -/
theorem sum_bd {k : Nat} : ∀ {xs : List Int}, (∀ x ∈ xs, Bd x k) → xs.sum.natAbs + xs.length ≤ xs.length * 2 ^ k
  | [], _ => by simp
  | x :: r, h => by
    have h1 := (h x (by simp)).h
    have h2 := sum_bd (xs := r) fun y m => h y (by simp [m])
    have h3 := Int.natAbs_add_le x r.sum
    rw [List.sum_cons, List.length_cons, Nat.add_mul]
    omega
theorem bd6 {x : Int} (h : -64 < x ∧ x < 64) : Bd x 6 := ⟨by omega⟩
theorem bd13 {x : Int} (h : -8192 < x ∧ x < 8192) : Bd x 13 := ⟨by omega⟩
theorem bd10 {x : Int} (h : -1024 < x ∧ x < 1024) : Bd x 10 := ⟨by omega⟩
theorem dayC_bd2 {s : Shp} (ho : s.Ok) {l f : Int} (hl : 0 - s.d ≤ l ∧ l ≤ s.t) (hf : 0 ≤ f ∧ f < 20) : Bd (dayC s l f) 30 := by
  have hn := nxt_in ho hl hf.1
  obtain ⟨o1, o2, o3, _, _, _, _, _, _, _⟩ := ho
  have _ : Bd s.c 20 := Bd.small (by omega)
  have _ : Bd s.e 20 := Bd.small (by omega)
  have _ : Bd s.g 20 := Bd.small (by omega)
  have _ : Bd (nxt s l f) 6 := bd6 (by omega)
  have h4 : Bd (nxt s l f - (l - f)) 6 := bd6 (by omega)
  unfold dayC
  exact (inferInstance : Bd (s.c * mx (nxt s l f) 0 + s.e * mx (0 - nxt s l f) 0 + s.g * (nxt s l f - (l - f))) _).to rfl
/-! ### all days -/
def sumsOf (s : Shp) (w : List Int) (p : List Int × Int) : List Int := sumsF s w p.1 p.2
def rowsOf (s : Shp) (w : List Int) (p : List Int × Int) : List (Int × Int) := rowsF s (sumsOf s w p) (p.2 * w.sum)
/-- the least costs from a day on, over their bottom -/
def backF (s : Shp) : List (List Int) → List Int × Int
  | [] => (endsF s, 1)
  | w :: r => ((rowsOf s w (backF s r)).map Prod.fst, (backF s r).2 * w.sum)
def cellD (b : Int) (p : Int × Int) : Tw.D := .tuple [shrD p.1 b, .int p.2]
def tdayD (e : List (Int × Int) × Int) : Tw.D := .tuple (e.1.map (cellD e.2))
end Lb

set_option linter.all false
set_option maxRecDepth 100000
set_option maxHeartbeats 4000000
set_option autoImplicit false
namespace Lb
open PySem Tw
local macro_rules
  | `(tactic| array_get_dec) => `(tactic| repeat (first
    | (refine g_WE ?_; first
      | refine we_cst ?_
      | refine we_sh (by exact rfl) ?_
      | refine we_own (by exact rfl) ?_
      | refine we_inp (by exact rfl) ?_
      | refine we_ins (by exact rfl) ?_
      | refine we_op2 ?_
      | refine we_op1 ?_
      | refine we_dic ?_
      | refine we_tup ?_
      | refine we_lst ?_
      | refine we_not ?_
      | refine we_or ?_
      | refine we_and ?_
      | refine we_chain ?_
      | refine we_chain3 ?_
      | refine we_slc ?_
      | refine we_call ?_
      | refine we_comp ?_)
    | (refine g_WOp ?_; first
      | refine wo_abs ?_
      | with_reducible refine wo_eqsame (by exact shaped_cl rfl) ?_
      | with_reducible refine wo_nesame (by exact shaped_cl rfl) ?_
      | refine wo_neS ?_
      | refine wo_eqS ?_
      | refine wo_neI ?_
      | refine wo_eqI ?_
      | refine wo_intB ?_
      | refine wo_max2 ?_
      | refine wo_pick2I ?_
      | refine wo_min2 ?_
      | refine wo_mul (by first | exact mulOk_bd rfl | assumption) ?_
      | refine wo_mulT (by refine ⟨?_, ?_, ?_⟩ <;> first | omega | (simp only [List.length_nil, List.length_cons]; omega)) ?_
      | refine wo_fdiv (by first | exact divOk_bd (by decide) rfl | assumption) ?_
      | refine wo_mod (by first | decide | assumption) ?_
      | refine wo_pow (by decide) ?_
      | refine wo_repr (by first | exact reprI_bd rfl | assumption | exact repr_rgT (by omega) | exact repr_rgL (by omega) | exact repr_rp rfl) ?_
      | refine wo_str (by assumption) ?_
      | refine wo_addL (by exact Nat.le_of_ble_eq_true rfl) ?_
      | refine wo_addT (by exact Nat.le_of_ble_eq_true rfl) ?_
      | refine wo_lrange (by first | assumption | exact rgOk_by (by omega)) ?_
      | refine wo_trange (by first | assumption | exact rgOk_by (by omega)) ?_
      | refine wo_rgLm (by omega) ?_
      | refine wo_rgTm (by omega) ?_
      | refine wo_rgL (by omega) ?_
      | refine wo_rgT (by omega) ?_
      | with_reducible refine wo_lenrgL (by omega) ?_
      | with_reducible refine wo_lenrgT (by omega) ?_
      | refine wo_sortI ?_
      | refine wo_sumL ?_
      | refine wo_sumT ?_
      | refine wo_lenT ?_
      | refine wo_lenL ?_
      | refine wo_mk (by exact rfl) (by exact rfl) ?_
      | refine wo_mkO (by exact rfl) (by exact rfl) ?_)
    | (refine g_WLook ?_; first
      | refine wl_sh ?_
      | refine wl_own ?_
      | refine wl_slot (by exact rfl) ?_)
    | (refine g_WB ?_; first
      | refine wb_asg ?_
      | refine wb_asgT ?_
      | refine wb_ret ?_
      | refine wb_retN ?_
      | refine wb_ite ?_
      | refine wb_expr ?_
      | refine wb_mut (by exact rfl) ?_
      | refine wb_ext (by exact rfl) ?_
      | refine wb_for ?_
      | refine wb_while ?_
      | refine wb_pass ?_
      | refine wb_brk ?_
      | refine wb_cont ?_
      | refine wb_nil ?_)
    | (refine g_WAsg ?_; first
      | refine wasg_sh ?_
      | refine wasg_own ?_
      | refine wasg_slot (by exact rfl) ?_
      | refine wasg_move (by exact rfl) ?_)
    | (refine g_WBind ?_; first
      | refine wbind (by exact rfl) (by first | exact rfl | assumption) (by first | (dsimp only [List.set_cons_zero, List.set_cons_succ, wipeE, restore, List.getElem?_cons_zero, List.getElem?_cons_succ, setAt]; done) | exact rfl) ?_)
    | (refine g_WEs ?_; first
      | refine wes_cons ?_
      | refine wes_nil ?_)
    | (refine g_WIf ?_; first
      | with_reducible refine wif_nesame ?_
      | with_reducible refine wif_eqsame ?_
      | refine wif_t (by exact rfl) ?_
      | refine wif_f (by exact rfl) ?_)
    | (refine g_WTake ?_; first
      | refine wt_sh ?_
      | refine wt_own ?_
      | refine wt_slot (by exact rfl) (by first | (dsimp only [List.set_cons_zero, List.set_cons_succ, wipeE, restore, List.getElem?_cons_zero, List.getElem?_cons_succ, setAt]; done) | exact rfl) ?_)
    | (refine g_WT ?_; first
      | refine wt_name ?_
      | refine wt_tup ?_
      | refine wt_tupL ?_
      | refine wt_sub (by exact rfl) ?_)
    | (refine g_WTT ?_; first
      | refine wtt_cons ?_
      | refine wtt_nil ?_)
    | (refine g_WTs ?_; first
      | refine wts_cons ?_
      | refine wts_nil ?_)
    | (refine g_WRet ?_; first
      | refine wret_sh ?_
      | refine wret_own ?_
      | refine wret_slot (by exact rfl) (by first | (dsimp only [List.set_cons_zero, List.set_cons_succ, wipeE, restore, List.getElem?_cons_zero, List.getElem?_cons_succ, setAt]; done) | exact rfl) ?_)
    | (refine g_WI ?_; first
      | refine wi_range1 ?_
      | refine wi_range2 ?_
      | refine wi_enum ?_
      | refine wi_zip ?_
      | refine wi_ziprev ?_
      | refine wi_rev ?_
      | refine wi_keys (by exact rfl) (by assumption) ?_
      | refine wi_seq ?_)
    | (refine g_WItems ?_; first
      | refine wit_l ?_
      | refine wit_t ?_)
    | (refine g_WIs ?_; first
      | refine wis (by first | (dsimp only [List.set_cons_zero, List.set_cons_succ, wipeE, restore, List.getElem?_cons_zero, List.getElem?_cons_succ, setAt]; done) | exact rfl) ?_)
    | (refine g_WBig ?_; first
      | refine wbig (by exact Nat.le_of_ble_eq_true rfl) ?_)
    | (refine g_WNot ?_; first
      | refine wnot ?_)
    | (refine g_WBool ?_; first
      | refine wbool ?_)
    | (refine g_WRg1 ?_; first
      | refine wrg1 (by constructor <;> omega) ?_)
    | (refine g_WRg2 ?_; first
      | refine wrg2 (by refine ⟨?_, ?_, ?_, ?_⟩ <;> omega) ?_)
    | (refine g_WSeq ?_; first
      | refine wsq_l ?_
      | refine wsq_t ?_)
    | (refine g_WMut ?_; first
      | refine wmut_app (by exact rfl) (by exact Nat.le_of_ble_eq_true rfl) (by exact rfl) (by first | (dsimp only [List.set_cons_zero, List.set_cons_succ, wipeE, restore, List.getElem?_cons_zero, List.getElem?_cons_succ, setAt]; done) | exact rfl) ?_
      | refine wmut_mk (by exact rfl) (by exact rfl) (by exact rfl) (by first | (dsimp only [List.set_cons_zero, List.set_cons_succ, wipeE, restore, List.getElem?_cons_zero, List.getElem?_cons_succ, setAt]; done) | exact rfl) ?_)
    | (refine g_WExt ?_; first
      | refine wext (by exact rfl) (by exact Nat.le_of_ble_eq_true rfl) (by exact rfl) (by first | (dsimp only [List.set_cons_zero, List.set_cons_succ, wipeE, restore, List.getElem?_cons_zero, List.getElem?_cons_succ, setAt]; done) | exact rfl) ?_)
    | (refine g_WCut ?_; first
      | refine wc_no ?_
      | refine wc_yes ?_)
    | (refine g_WInt ?_; first
      | refine wint ?_)
    | (refine g_WSl ?_; first
      | refine wsl_t ?_
      | refine wsl_l ?_)
    | (refine g_WSub ?_; first
      | refine wsub_mk (by exact rfl) (by first | (dsimp only [List.set_cons_zero, List.set_cons_succ, wipeE, restore, List.getElem?_cons_zero, List.getElem?_cons_succ, setAt]; done) | exact rfl) ?_)
    | (refine g_WDic ?_; first
      | refine wdic (by exact rfl) (by exact rfl) (by exact rfl) ?_)))
/-! What the table says: least costs, with levels that have them. -/
/-- what a level costs from a stock, over the bottom behind the day -/
def ahS (s : Shp) (w later : List Int) (b l : Int) : Int := ((enumI 0 w).map fun p => p.2 * (dayC s l p.1 * b + ixI later (nxt s l p.1 + s.d))).sum
def valS (s : Shp) (w : List Int) (p : List Int × Int) (x l : Int) : Int := ordC s x l * (p.2 * w.sum) + ahS s w p.1 p.2 l
/-- a stock's row: the least cost, and the least level that has it -/
structure RowIs (s : Shp) (w : List Int) (p : List Int × Int) (x : Int) (r : Int × Int) : Prop where
  lo : x ≤ r.2
  hi : r.2 ≤ s.t
  val : r.1 = valS s w p x r.2
  le : ∀ l, x ≤ l → l ≤ s.t → r.1 ≤ valS s w p x l
  lt : ∀ l, x ≤ l → l < r.2 → r.1 < valS s w p x l
/-! ### the laws' own reckoning -/
variable {T : List Fn}
/-! ### shares and sizes -/
theorem fdiv_exact {t g : Int} (h : g ∣ t) (hg : 0 < g) : t.fdiv g * g = t := by
  rw [Int.fdiv_eq_ediv_of_nonneg _ (by omega)]
  exact Int.ediv_mul_cancel h
theorem shrT_mul {t b : Int} (h : 0 < b) : shrT t b * (Int.gcd t b : Nat) = t := fdiv_exact (Int.gcd_dvd_left ..) (gcd_pos h)
theorem shrB_mul {t b : Int} (h : 0 < b) : shrB t b * (Int.gcd t b : Nat) = b := fdiv_exact (Int.gcd_dvd_right ..) (gcd_pos h)
theorem shr_cross {t b : Int} (h : 0 < b) : shrT t b * b = t * shrB t b := by
  have h1 := shrT_mul (t := t) h
  have h2 := shrB_mul (t := t) h
  calc shrT t b * b = shrT t b * (shrB t b * (Int.gcd t b : Nat)) := by rw [h2]
    _ = shrT t b * (Int.gcd t b : Nat) * shrB t b := by rw [Int.mul_comm (shrB t b), Int.mul_assoc]
    _ = t * shrB t b := by rw [h1]
theorem fac_bd {x g t : Int} {k : Nat} (h : x * g = t) (hg : 0 < g) (b : Bd t k) : Bd x k := ⟨by
  have h1 : x.natAbs * g.natAbs = t.natAbs := by rw [← Int.natAbs_mul, h]
  have h2 : 1 ≤ g.natAbs := by omega
  have h3 : x.natAbs * 1 ≤ x.natAbs * g.natAbs := Nat.mul_le_mul_left _ h2
  have := b.h
  omega⟩
theorem shrT_bd {t b : Int} {k : Nat} (h : 0 < b) (bt : Bd t k) : Bd (shrT t b) k := fac_bd (shrT_mul h) (gcd_pos h) bt
theorem shrB_bd {t b : Int} {k : Nat} (h : 0 < b) (bt : Bd b k) : Bd (shrB t b) k := fac_bd (shrB_mul h) (gcd_pos h) bt
theorem shrB_pos {t b : Int} (h : 0 < b) : 0 < shrB t b := by
  have h1 := shrB_mul (t := t) h
  have h2 := gcd_pos (t := t) h
  rcases Int.lt_trichotomy (shrB t b) 0 with z | z | z
  · have := Int.mul_neg_of_neg_of_pos z h2
    omega
  · rw [z] at h1
    simp at h1
    omega
  · exact z
theorem sumn_bd {k m : Nat} {xs : List Int} (h : ∀ x ∈ xs, Bd x k) (hl : xs.length ≤ 2 ^ m) : Bd xs.sum (k + m) := ⟨by
  have h1 := sum_bd h
  have h2 : xs.length * 2 ^ k ≤ 2 ^ m * 2 ^ k := Nat.mul_le_mul_right _ hl
  have h3 : 0 < 2 ^ k := Nat.two_pow_pos k
  have h5 : 0 < 2 ^ m := Nat.two_pow_pos m
  have h4 : (2 : Nat) ^ (k + m) = 2 ^ m * 2 ^ k := by rw [Nat.pow_add, Nat.mul_comm]
  rw [h4]
  by_cases z : xs.length = 0
  · have : xs = [] := List.length_eq_zero_iff.mp z
    subst this
    exact Nat.mul_pos h5 h3
  · omega⟩

end Lb

set_option linter.all false
set_option maxRecDepth 100000
set_option maxHeartbeats 4000000
set_option autoImplicit false
namespace Lb
open PySem Tw
local macro_rules
  | `(tactic| array_get_dec) => `(tactic| repeat (first
    | (refine g_WE ?_; first
      | refine we_cst ?_
      | refine we_sh (by exact rfl) ?_
      | refine we_own (by exact rfl) ?_
      | refine we_inp (by exact rfl) ?_
      | refine we_ins (by exact rfl) ?_
      | refine we_op2 ?_
      | refine we_op1 ?_
      | refine we_dic ?_
      | refine we_tup ?_
      | refine we_lst ?_
      | refine we_not ?_
      | refine we_or ?_
      | refine we_and ?_
      | refine we_chain ?_
      | refine we_chain3 ?_
      | refine we_slc ?_
      | refine we_call ?_
      | refine we_comp ?_)
    | (refine g_WOp ?_; first
      | refine wo_abs ?_
      | with_reducible refine wo_eqsame (by exact shaped_cl rfl) ?_
      | with_reducible refine wo_nesame (by exact shaped_cl rfl) ?_
      | refine wo_neS ?_
      | refine wo_eqS ?_
      | refine wo_neI ?_
      | refine wo_eqI ?_
      | refine wo_intB ?_
      | refine wo_max2 ?_
      | refine wo_pick2I ?_
      | refine wo_min2 ?_
      | refine wo_mul (by first | exact mulOk_bd rfl | assumption) ?_
      | refine wo_mulT (by refine ⟨?_, ?_, ?_⟩ <;> first | omega | (simp only [List.length_nil, List.length_cons]; omega)) ?_
      | refine wo_fdiv (by first | exact divOk_bd (by decide) rfl | assumption) ?_
      | refine wo_mod (by first | decide | assumption) ?_
      | refine wo_pow (by decide) ?_
      | refine wo_repr (by first | exact reprI_bd rfl | assumption | exact repr_rgT (by omega) | exact repr_rgL (by omega) | exact repr_rp rfl) ?_
      | refine wo_str (by assumption) ?_
      | refine wo_addL (by exact Nat.le_of_ble_eq_true rfl) ?_
      | refine wo_addT (by exact Nat.le_of_ble_eq_true rfl) ?_
      | refine wo_lrange (by first | assumption | exact rgOk_by (by omega)) ?_
      | refine wo_trange (by first | assumption | exact rgOk_by (by omega)) ?_
      | refine wo_rgLm (by omega) ?_
      | refine wo_rgTm (by omega) ?_
      | refine wo_rgL (by omega) ?_
      | refine wo_rgT (by omega) ?_
      | with_reducible refine wo_lenrgL (by omega) ?_
      | with_reducible refine wo_lenrgT (by omega) ?_
      | refine wo_sortI ?_
      | refine wo_sumL ?_
      | refine wo_sumT ?_
      | refine wo_lenT ?_
      | refine wo_lenL ?_
      | refine wo_mk (by exact rfl) (by exact rfl) ?_
      | refine wo_mkO (by exact rfl) (by exact rfl) ?_)
    | (refine g_WLook ?_; first
      | refine wl_sh ?_
      | refine wl_own ?_
      | refine wl_slot (by exact rfl) ?_)
    | (refine g_WB ?_; first
      | refine wb_asg ?_
      | refine wb_asgT ?_
      | refine wb_ret ?_
      | refine wb_retN ?_
      | refine wb_ite ?_
      | refine wb_expr ?_
      | refine wb_mut (by exact rfl) ?_
      | refine wb_ext (by exact rfl) ?_
      | refine wb_for ?_
      | refine wb_while ?_
      | refine wb_pass ?_
      | refine wb_brk ?_
      | refine wb_cont ?_
      | refine wb_nil ?_)
    | (refine g_WAsg ?_; first
      | refine wasg_sh ?_
      | refine wasg_own ?_
      | refine wasg_slot (by exact rfl) ?_
      | refine wasg_move (by exact rfl) ?_)
    | (refine g_WBind ?_; first
      | refine wbind (by exact rfl) (by first | exact rfl | assumption) (by first | (dsimp only [List.set_cons_zero, List.set_cons_succ, wipeE, restore, List.getElem?_cons_zero, List.getElem?_cons_succ, setAt]; done) | exact rfl) ?_)
    | (refine g_WEs ?_; first
      | refine wes_cons ?_
      | refine wes_nil ?_)
    | (refine g_WIf ?_; first
      | with_reducible refine wif_nesame ?_
      | with_reducible refine wif_eqsame ?_
      | refine wif_t (by exact rfl) ?_
      | refine wif_f (by exact rfl) ?_)
    | (refine g_WTake ?_; first
      | refine wt_sh ?_
      | refine wt_own ?_
      | refine wt_slot (by exact rfl) (by first | (dsimp only [List.set_cons_zero, List.set_cons_succ, wipeE, restore, List.getElem?_cons_zero, List.getElem?_cons_succ, setAt]; done) | exact rfl) ?_)
    | (refine g_WT ?_; first
      | refine wt_name ?_
      | refine wt_tup ?_
      | refine wt_tupL ?_
      | refine wt_sub (by exact rfl) ?_)
    | (refine g_WTT ?_; first
      | refine wtt_cons ?_
      | refine wtt_nil ?_)
    | (refine g_WTs ?_; first
      | refine wts_cons ?_
      | refine wts_nil ?_)
    | (refine g_WRet ?_; first
      | refine wret_sh ?_
      | refine wret_own ?_
      | refine wret_slot (by exact rfl) (by first | (dsimp only [List.set_cons_zero, List.set_cons_succ, wipeE, restore, List.getElem?_cons_zero, List.getElem?_cons_succ, setAt]; done) | exact rfl) ?_)
    | (refine g_WI ?_; first
      | refine wi_range1 ?_
      | refine wi_range2 ?_
      | refine wi_enum ?_
      | refine wi_zip ?_
      | refine wi_ziprev ?_
      | refine wi_rev ?_
      | refine wi_keys (by exact rfl) (by assumption) ?_
      | refine wi_seq ?_)
    | (refine g_WItems ?_; first
      | refine wit_l ?_
      | refine wit_t ?_)
    | (refine g_WIs ?_; first
      | refine wis (by first | (dsimp only [List.set_cons_zero, List.set_cons_succ, wipeE, restore, List.getElem?_cons_zero, List.getElem?_cons_succ, setAt]; done) | exact rfl) ?_)
    | (refine g_WBig ?_; first
      | refine wbig (by exact Nat.le_of_ble_eq_true rfl) ?_)
    | (refine g_WNot ?_; first
      | refine wnot ?_)
    | (refine g_WBool ?_; first
      | refine wbool ?_)
    | (refine g_WRg1 ?_; first
      | refine wrg1 (by constructor <;> omega) ?_)
    | (refine g_WRg2 ?_; first
      | refine wrg2 (by refine ⟨?_, ?_, ?_, ?_⟩ <;> omega) ?_)
    | (refine g_WSeq ?_; first
      | refine wsq_l ?_
      | refine wsq_t ?_)
    | (refine g_WMut ?_; first
      | refine wmut_app (by exact rfl) (by exact Nat.le_of_ble_eq_true rfl) (by exact rfl) (by first | (dsimp only [List.set_cons_zero, List.set_cons_succ, wipeE, restore, List.getElem?_cons_zero, List.getElem?_cons_succ, setAt]; done) | exact rfl) ?_
      | refine wmut_mk (by exact rfl) (by exact rfl) (by exact rfl) (by first | (dsimp only [List.set_cons_zero, List.set_cons_succ, wipeE, restore, List.getElem?_cons_zero, List.getElem?_cons_succ, setAt]; done) | exact rfl) ?_)
    | (refine g_WExt ?_; first
      | refine wext (by exact rfl) (by exact Nat.le_of_ble_eq_true rfl) (by exact rfl) (by first | (dsimp only [List.set_cons_zero, List.set_cons_succ, wipeE, restore, List.getElem?_cons_zero, List.getElem?_cons_succ, setAt]; done) | exact rfl) ?_)
    | (refine g_WCut ?_; first
      | refine wc_no ?_
      | refine wc_yes ?_)
    | (refine g_WInt ?_; first
      | refine wint ?_)
    | (refine g_WSl ?_; first
      | refine wsl_t ?_
      | refine wsl_l ?_)
    | (refine g_WSub ?_; first
      | refine wsub_mk (by exact rfl) (by first | (dsimp only [List.set_cons_zero, List.set_cons_succ, wipeE, restore, List.getElem?_cons_zero, List.getElem?_cons_succ, setAt]; done) | exact rfl) ?_)
    | (refine g_WDic ?_; first
      | refine wdic (by exact rfl) (by exact rfl) (by exact rfl) ?_)))
/-! All rows of falls; what rules cost; none less than the table. -/
variable {T : List Fn}
/-! ### what a rule costs in a row of falls -/
theorem pairs2_mp {α β : Type} {f : α → Tw.D} {g : β → Tw.D} (xs : List α) (ys : List β) : pairs2 (xs.map f) (ys.map g) = (xs.zip ys).map fun p => .tuple [f p.1, g p.2] := by
  unfold pairs2
  rw [List.zipWith_map, List.zip_eq_zipWith, List.map_zipWith]
def prodB : List (List Int) → Int
  | [] => 1
  | w :: r => prodB r * w.sum
/-! ### none costs less than the table, whose own levels cost just so -/
end Lb

set_option linter.all false
set_option maxRecDepth 100000
set_option maxHeartbeats 4000000
set_option autoImplicit false
namespace Lb
open PySem Tw
local macro_rules
  | `(tactic| array_get_dec) => `(tactic| repeat (first
    | (refine g_WE ?_; first
      | refine we_cst ?_
      | refine we_sh (by exact rfl) ?_
      | refine we_own (by exact rfl) ?_
      | refine we_inp (by exact rfl) ?_
      | refine we_ins (by exact rfl) ?_
      | refine we_op2 ?_
      | refine we_op1 ?_
      | refine we_dic ?_
      | refine we_tup ?_
      | refine we_lst ?_
      | refine we_not ?_
      | refine we_or ?_
      | refine we_and ?_
      | refine we_chain ?_
      | refine we_chain3 ?_
      | refine we_slc ?_
      | refine we_call ?_
      | refine we_comp ?_)
    | (refine g_WOp ?_; first
      | refine wo_abs ?_
      | with_reducible refine wo_eqsame (by exact shaped_cl rfl) ?_
      | with_reducible refine wo_nesame (by exact shaped_cl rfl) ?_
      | refine wo_neS ?_
      | refine wo_eqS ?_
      | refine wo_neI ?_
      | refine wo_eqI ?_
      | refine wo_intB ?_
      | refine wo_max2 ?_
      | refine wo_pick2I ?_
      | refine wo_min2 ?_
      | refine wo_mul (by first | exact mulOk_bd rfl | assumption) ?_
      | refine wo_mulT (by refine ⟨?_, ?_, ?_⟩ <;> first | omega | (simp only [List.length_nil, List.length_cons]; omega)) ?_
      | refine wo_fdiv (by first | exact divOk_bd (by decide) rfl | assumption) ?_
      | refine wo_mod (by first | decide | assumption) ?_
      | refine wo_pow (by decide) ?_
      | refine wo_repr (by first | exact reprI_bd rfl | assumption | exact repr_rgT (by omega) | exact repr_rgL (by omega) | exact repr_rp rfl) ?_
      | refine wo_str (by assumption) ?_
      | refine wo_addL (by exact Nat.le_of_ble_eq_true rfl) ?_
      | refine wo_addT (by exact Nat.le_of_ble_eq_true rfl) ?_
      | refine wo_lrange (by first | assumption | exact rgOk_by (by omega)) ?_
      | refine wo_trange (by first | assumption | exact rgOk_by (by omega)) ?_
      | refine wo_rgLm (by omega) ?_
      | refine wo_rgTm (by omega) ?_
      | refine wo_rgL (by omega) ?_
      | refine wo_rgT (by omega) ?_
      | with_reducible refine wo_lenrgL (by omega) ?_
      | with_reducible refine wo_lenrgT (by omega) ?_
      | refine wo_sortI ?_
      | refine wo_sumL ?_
      | refine wo_sumT ?_
      | refine wo_lenT ?_
      | refine wo_lenL ?_
      | refine wo_mk (by exact rfl) (by exact rfl) ?_
      | refine wo_mkO (by exact rfl) (by exact rfl) ?_)
    | (refine g_WLook ?_; first
      | refine wl_sh ?_
      | refine wl_own ?_
      | refine wl_slot (by exact rfl) ?_)
    | (refine g_WB ?_; first
      | refine wb_asg ?_
      | refine wb_asgT ?_
      | refine wb_ret ?_
      | refine wb_retN ?_
      | refine wb_ite ?_
      | refine wb_expr ?_
      | refine wb_mut (by exact rfl) ?_
      | refine wb_ext (by exact rfl) ?_
      | refine wb_for ?_
      | refine wb_while ?_
      | refine wb_pass ?_
      | refine wb_brk ?_
      | refine wb_cont ?_
      | refine wb_nil ?_)
    | (refine g_WAsg ?_; first
      | refine wasg_sh ?_
      | refine wasg_own ?_
      | refine wasg_slot (by exact rfl) ?_
      | refine wasg_move (by exact rfl) ?_)
    | (refine g_WBind ?_; first
      | refine wbind (by exact rfl) (by first | exact rfl | assumption) (by first | (dsimp only [List.set_cons_zero, List.set_cons_succ, wipeE, restore, List.getElem?_cons_zero, List.getElem?_cons_succ, setAt]; done) | exact rfl) ?_)
    | (refine g_WEs ?_; first
      | refine wes_cons ?_
      | refine wes_nil ?_)
    | (refine g_WIf ?_; first
      | with_reducible refine wif_nesame ?_
      | with_reducible refine wif_eqsame ?_
      | refine wif_t (by exact rfl) ?_
      | refine wif_f (by exact rfl) ?_)
    | (refine g_WTake ?_; first
      | refine wt_sh ?_
      | refine wt_own ?_
      | refine wt_slot (by exact rfl) (by first | (dsimp only [List.set_cons_zero, List.set_cons_succ, wipeE, restore, List.getElem?_cons_zero, List.getElem?_cons_succ, setAt]; done) | exact rfl) ?_)
    | (refine g_WT ?_; first
      | refine wt_name ?_
      | refine wt_tup ?_
      | refine wt_tupL ?_
      | refine wt_sub (by exact rfl) ?_)
    | (refine g_WTT ?_; first
      | refine wtt_cons ?_
      | refine wtt_nil ?_)
    | (refine g_WTs ?_; first
      | refine wts_cons ?_
      | refine wts_nil ?_)
    | (refine g_WRet ?_; first
      | refine wret_sh ?_
      | refine wret_own ?_
      | refine wret_slot (by exact rfl) (by first | (dsimp only [List.set_cons_zero, List.set_cons_succ, wipeE, restore, List.getElem?_cons_zero, List.getElem?_cons_succ, setAt]; done) | exact rfl) ?_)
    | (refine g_WI ?_; first
      | refine wi_range1 ?_
      | refine wi_range2 ?_
      | refine wi_enum ?_
      | refine wi_zip ?_
      | refine wi_ziprev ?_
      | refine wi_rev ?_
      | refine wi_keys (by exact rfl) (by assumption) ?_
      | refine wi_seq ?_)
    | (refine g_WItems ?_; first
      | refine wit_l ?_
      | refine wit_t ?_)
    | (refine g_WIs ?_; first
      | refine wis (by first | (dsimp only [List.set_cons_zero, List.set_cons_succ, wipeE, restore, List.getElem?_cons_zero, List.getElem?_cons_succ, setAt]; done) | exact rfl) ?_)
    | (refine g_WBig ?_; first
      | refine wbig (by exact Nat.le_of_ble_eq_true rfl) ?_)
    | (refine g_WNot ?_; first
      | refine wnot ?_)
    | (refine g_WBool ?_; first
      | refine wbool ?_)
    | (refine g_WRg1 ?_; first
      | refine wrg1 (by constructor <;> omega) ?_)
    | (refine g_WRg2 ?_; first
      | refine wrg2 (by refine ⟨?_, ?_, ?_, ?_⟩ <;> omega) ?_)
    | (refine g_WSeq ?_; first
      | refine wsq_l ?_
      | refine wsq_t ?_)
    | (refine g_WMut ?_; first
      | refine wmut_app (by exact rfl) (by exact Nat.le_of_ble_eq_true rfl) (by exact rfl) (by first | (dsimp only [List.set_cons_zero, List.set_cons_succ, wipeE, restore, List.getElem?_cons_zero, List.getElem?_cons_succ, setAt]; done) | exact rfl) ?_
      | refine wmut_mk (by exact rfl) (by exact rfl) (by exact rfl) (by first | (dsimp only [List.set_cons_zero, List.set_cons_succ, wipeE, restore, List.getElem?_cons_zero, List.getElem?_cons_succ, setAt]; done) | exact rfl) ?_)
    | (refine g_WExt ?_; first
      | refine wext (by exact rfl) (by exact Nat.le_of_ble_eq_true rfl) (by exact rfl) (by first | (dsimp only [List.set_cons_zero, List.set_cons_succ, wipeE, restore, List.getElem?_cons_zero, List.getElem?_cons_succ, setAt]; done) | exact rfl) ?_)
    | (refine g_WCut ?_; first
      | refine wc_no ?_
      | refine wc_yes ?_)
    | (refine g_WInt ?_; first
      | refine wint ?_)
    | (refine g_WSl ?_; first
      | refine wsl_t ?_
      | refine wsl_l ?_)
    | (refine g_WSub ?_; first
      | refine wsub_mk (by exact rfl) (by first | (dsimp only [List.set_cons_zero, List.set_cons_succ, wipeE, restore, List.getElem?_cons_zero, List.getElem?_cons_succ, setAt]; done) | exact rfl) ?_)
    | (refine g_WDic ?_; first
      | refine wdic (by exact rfl) (by exact rfl) (by exact rfl) ?_)))
/-! The table, by place; slices. -/
end Lb

set_option linter.all false
set_option maxRecDepth 100000
set_option maxHeartbeats 4000000
set_option autoImplicit false
namespace Lb
open PySem Tw
local macro_rules
  | `(tactic| array_get_dec) => `(tactic| repeat (first
    | (refine g_WE ?_; first
      | refine we_cst ?_
      | refine we_sh (by exact rfl) ?_
      | refine we_own (by exact rfl) ?_
      | refine we_inp (by exact rfl) ?_
      | refine we_ins (by exact rfl) ?_
      | refine we_op2 ?_
      | refine we_op1 ?_
      | refine we_dic ?_
      | refine we_tup ?_
      | refine we_lst ?_
      | refine we_not ?_
      | refine we_or ?_
      | refine we_and ?_
      | refine we_chain ?_
      | refine we_chain3 ?_
      | refine we_slc ?_
      | refine we_call ?_
      | refine we_comp ?_)
    | (refine g_WOp ?_; first
      | refine wo_abs ?_
      | with_reducible refine wo_eqsame (by exact shaped_cl rfl) ?_
      | with_reducible refine wo_nesame (by exact shaped_cl rfl) ?_
      | refine wo_neS ?_
      | refine wo_eqS ?_
      | refine wo_neI ?_
      | refine wo_eqI ?_
      | refine wo_intB ?_
      | refine wo_max2 ?_
      | refine wo_pick2I ?_
      | refine wo_min2 ?_
      | refine wo_mul (by first | exact mulOk_bd rfl | assumption) ?_
      | refine wo_mulT (by refine ⟨?_, ?_, ?_⟩ <;> first | omega | (simp only [List.length_nil, List.length_cons]; omega)) ?_
      | refine wo_fdiv (by first | exact divOk_bd (by decide) rfl | assumption) ?_
      | refine wo_mod (by first | decide | assumption) ?_
      | refine wo_pow (by decide) ?_
      | refine wo_repr (by first | exact reprI_bd rfl | assumption | exact repr_rgT (by omega) | exact repr_rgL (by omega) | exact repr_rp rfl) ?_
      | refine wo_str (by assumption) ?_
      | refine wo_addL (by exact Nat.le_of_ble_eq_true rfl) ?_
      | refine wo_addT (by exact Nat.le_of_ble_eq_true rfl) ?_
      | refine wo_lrange (by first | assumption | exact rgOk_by (by omega)) ?_
      | refine wo_trange (by first | assumption | exact rgOk_by (by omega)) ?_
      | refine wo_rgLm (by omega) ?_
      | refine wo_rgTm (by omega) ?_
      | refine wo_rgL (by omega) ?_
      | refine wo_rgT (by omega) ?_
      | with_reducible refine wo_lenrgL (by omega) ?_
      | with_reducible refine wo_lenrgT (by omega) ?_
      | refine wo_sortI ?_
      | refine wo_sumL ?_
      | refine wo_sumT ?_
      | refine wo_lenT ?_
      | refine wo_lenL ?_
      | refine wo_mk (by exact rfl) (by exact rfl) ?_
      | refine wo_mkO (by exact rfl) (by exact rfl) ?_)
    | (refine g_WLook ?_; first
      | refine wl_sh ?_
      | refine wl_own ?_
      | refine wl_slot (by exact rfl) ?_)
    | (refine g_WB ?_; first
      | refine wb_asg ?_
      | refine wb_asgT ?_
      | refine wb_ret ?_
      | refine wb_retN ?_
      | refine wb_ite ?_
      | refine wb_expr ?_
      | refine wb_mut (by exact rfl) ?_
      | refine wb_ext (by exact rfl) ?_
      | refine wb_for ?_
      | refine wb_while ?_
      | refine wb_pass ?_
      | refine wb_brk ?_
      | refine wb_cont ?_
      | refine wb_nil ?_)
    | (refine g_WAsg ?_; first
      | refine wasg_sh ?_
      | refine wasg_own ?_
      | refine wasg_slot (by exact rfl) ?_
      | refine wasg_move (by exact rfl) ?_)
    | (refine g_WBind ?_; first
      | refine wbind (by exact rfl) (by first | exact rfl | assumption) (by first | (dsimp only [List.set_cons_zero, List.set_cons_succ, wipeE, restore, List.getElem?_cons_zero, List.getElem?_cons_succ, setAt]; done) | exact rfl) ?_)
    | (refine g_WEs ?_; first
      | refine wes_cons ?_
      | refine wes_nil ?_)
    | (refine g_WIf ?_; first
      | with_reducible refine wif_nesame ?_
      | with_reducible refine wif_eqsame ?_
      | refine wif_t (by exact rfl) ?_
      | refine wif_f (by exact rfl) ?_)
    | (refine g_WTake ?_; first
      | refine wt_sh ?_
      | refine wt_own ?_
      | refine wt_slot (by exact rfl) (by first | (dsimp only [List.set_cons_zero, List.set_cons_succ, wipeE, restore, List.getElem?_cons_zero, List.getElem?_cons_succ, setAt]; done) | exact rfl) ?_)
    | (refine g_WT ?_; first
      | refine wt_name ?_
      | refine wt_tup ?_
      | refine wt_tupL ?_
      | refine wt_sub (by exact rfl) ?_)
    | (refine g_WTT ?_; first
      | refine wtt_cons ?_
      | refine wtt_nil ?_)
    | (refine g_WTs ?_; first
      | refine wts_cons ?_
      | refine wts_nil ?_)
    | (refine g_WRet ?_; first
      | refine wret_sh ?_
      | refine wret_own ?_
      | refine wret_slot (by exact rfl) (by first | (dsimp only [List.set_cons_zero, List.set_cons_succ, wipeE, restore, List.getElem?_cons_zero, List.getElem?_cons_succ, setAt]; done) | exact rfl) ?_)
    | (refine g_WI ?_; first
      | refine wi_range1 ?_
      | refine wi_range2 ?_
      | refine wi_enum ?_
      | refine wi_zip ?_
      | refine wi_ziprev ?_
      | refine wi_rev ?_
      | refine wi_keys (by exact rfl) (by assumption) ?_
      | refine wi_seq ?_)
    | (refine g_WItems ?_; first
      | refine wit_l ?_
      | refine wit_t ?_)
    | (refine g_WIs ?_; first
      | refine wis (by first | (dsimp only [List.set_cons_zero, List.set_cons_succ, wipeE, restore, List.getElem?_cons_zero, List.getElem?_cons_succ, setAt]; done) | exact rfl) ?_)
    | (refine g_WBig ?_; first
      | refine wbig (by exact Nat.le_of_ble_eq_true rfl) ?_)
    | (refine g_WNot ?_; first
      | refine wnot ?_)
    | (refine g_WBool ?_; first
      | refine wbool ?_)
    | (refine g_WRg1 ?_; first
      | refine wrg1 (by constructor <;> omega) ?_)
    | (refine g_WRg2 ?_; first
      | refine wrg2 (by refine ⟨?_, ?_, ?_, ?_⟩ <;> omega) ?_)
    | (refine g_WSeq ?_; first
      | refine wsq_l ?_
      | refine wsq_t ?_)
    | (refine g_WMut ?_; first
      | refine wmut_app (by exact rfl) (by exact Nat.le_of_ble_eq_true rfl) (by exact rfl) (by first | (dsimp only [List.set_cons_zero, List.set_cons_succ, wipeE, restore, List.getElem?_cons_zero, List.getElem?_cons_succ, setAt]; done) | exact rfl) ?_
      | refine wmut_mk (by exact rfl) (by exact rfl) (by exact rfl) (by first | (dsimp only [List.set_cons_zero, List.set_cons_succ, wipeE, restore, List.getElem?_cons_zero, List.getElem?_cons_succ, setAt]; done) | exact rfl) ?_)
    | (refine g_WExt ?_; first
      | refine wext (by exact rfl) (by exact Nat.le_of_ble_eq_true rfl) (by exact rfl) (by first | (dsimp only [List.set_cons_zero, List.set_cons_succ, wipeE, restore, List.getElem?_cons_zero, List.getElem?_cons_succ, setAt]; done) | exact rfl) ?_)
    | (refine g_WCut ?_; first
      | refine wc_no ?_
      | refine wc_yes ?_)
    | (refine g_WInt ?_; first
      | refine wint ?_)
    | (refine g_WSl ?_; first
      | refine wsl_t ?_
      | refine wsl_l ?_)
    | (refine g_WSub ?_; first
      | refine wsub_mk (by exact rfl) (by first | (dsimp only [List.set_cons_zero, List.set_cons_succ, wipeE, restore, List.getElem?_cons_zero, List.getElem?_cons_succ, setAt]; done) | exact rfl) ?_)
    | (refine g_WDic ?_; first
      | refine wdic (by exact rfl) (by exact rfl) (by exact rfl) ?_)))
/-! Rows are the only ones; wider shops. -/
theorem row_only {s : Shp} {w : List Int} {p : List Int × Int} {x : Int} {a b : Int × Int} (ha : RowIs s w p x a) (hb : RowIs s w p x b) : a = b := by
  have h1 : a.1 = b.1 := by
    have h1 := ha.le b.2 hb.lo hb.hi
    have h2 := hb.le a.2 ha.lo ha.hi
    rw [← hb.val] at h1
    rw [← ha.val] at h2
    omega
  have h2 : a.2 = b.2 := by
    rcases Int.lt_trichotomy a.2 b.2 with z | z | z
    · have := hb.lt a.2 ha.lo z
      rw [← ha.val] at this
      omega
    · exact z
    · have := ha.lt b.2 hb.lo z
      rw [← hb.val] at this
      omega
  exact Prod.ext h1 h2
/-- a greater top -/
def Shp.up (s : Shp) (m : Int) : Shp := { s with t := s.t + m }
/-- a greater depth -/
def Shp.dp (s : Shp) (m : Int) : Shp := { s with d := s.d + m }
theorem RowIs.same {s u : Shp} {w : List Int} {p q : List Int × Int} {x : Int} {a : Int × Int} (h : RowIs s w p x a) (ht : s.t ≤ u.t) (hv : ∀ l, x ≤ l → l ≤ s.t → valS u w q x l = valS s w p x l) {b : Int × Int} (hb : RowIs u w q x b) (hbt : b.2 ≤ s.t) : b = a := by
  refine row_only (s := s) (w := w) (p := p) (x := x) ⟨hb.lo, hbt, ?_, ?_, ?_⟩ h
  · rw [hb.val, hv _ hb.lo hbt]
  · intro l h1 h2
    rw [← hv l h1 h2]
    exact hb.le l h1 (by omega)
  · intro l h1 h2
    rw [← hv l h1 (by omega)]
    exact hb.lt l h1 h2
end Lb

set_option linter.all false
set_option maxRecDepth 100000
set_option maxHeartbeats 4000000
set_option autoImplicit false
namespace Lb
open PySem Tw
local macro_rules
  | `(tactic| array_get_dec) => `(tactic| repeat (first
    | (refine g_WE ?_; first
      | refine we_cst ?_
      | refine we_sh (by exact rfl) ?_
      | refine we_own (by exact rfl) ?_
      | refine we_inp (by exact rfl) ?_
      | refine we_ins (by exact rfl) ?_
      | refine we_op2 ?_
      | refine we_op1 ?_
      | refine we_dic ?_
      | refine we_tup ?_
      | refine we_lst ?_
      | refine we_not ?_
      | refine we_or ?_
      | refine we_and ?_
      | refine we_chain ?_
      | refine we_chain3 ?_
      | refine we_slc ?_
      | refine we_call ?_
      | refine we_comp ?_)
    | (refine g_WOp ?_; first
      | refine wo_abs ?_
      | with_reducible refine wo_eqsame (by exact shaped_cl rfl) ?_
      | with_reducible refine wo_nesame (by exact shaped_cl rfl) ?_
      | refine wo_neS ?_
      | refine wo_eqS ?_
      | refine wo_neI ?_
      | refine wo_eqI ?_
      | refine wo_intB ?_
      | refine wo_max2 ?_
      | refine wo_pick2I ?_
      | refine wo_min2 ?_
      | refine wo_mul (by first | exact mulOk_bd rfl | assumption) ?_
      | refine wo_mulT (by refine ⟨?_, ?_, ?_⟩ <;> first | omega | (simp only [List.length_nil, List.length_cons]; omega)) ?_
      | refine wo_fdiv (by first | exact divOk_bd (by decide) rfl | assumption) ?_
      | refine wo_mod (by first | decide | assumption) ?_
      | refine wo_pow (by decide) ?_
      | refine wo_repr (by first | exact reprI_bd rfl | assumption | exact repr_rgT (by omega) | exact repr_rgL (by omega) | exact repr_rp rfl) ?_
      | refine wo_str (by assumption) ?_
      | refine wo_addL (by exact Nat.le_of_ble_eq_true rfl) ?_
      | refine wo_addT (by exact Nat.le_of_ble_eq_true rfl) ?_
      | refine wo_lrange (by first | assumption | exact rgOk_by (by omega)) ?_
      | refine wo_trange (by first | assumption | exact rgOk_by (by omega)) ?_
      | refine wo_rgLm (by omega) ?_
      | refine wo_rgTm (by omega) ?_
      | refine wo_rgL (by omega) ?_
      | refine wo_rgT (by omega) ?_
      | with_reducible refine wo_lenrgL (by omega) ?_
      | with_reducible refine wo_lenrgT (by omega) ?_
      | refine wo_sortI ?_
      | refine wo_sumL ?_
      | refine wo_sumT ?_
      | refine wo_lenT ?_
      | refine wo_lenL ?_
      | refine wo_mk (by exact rfl) (by exact rfl) ?_
      | refine wo_mkO (by exact rfl) (by exact rfl) ?_)
    | (refine g_WLook ?_; first
      | refine wl_sh ?_
      | refine wl_own ?_
      | refine wl_slot (by exact rfl) ?_)
    | (refine g_WB ?_; first
      | refine wb_asg ?_
      | refine wb_asgT ?_
      | refine wb_ret ?_
      | refine wb_retN ?_
      | refine wb_ite ?_
      | refine wb_expr ?_
      | refine wb_mut (by exact rfl) ?_
      | refine wb_ext (by exact rfl) ?_
      | refine wb_for ?_
      | refine wb_while ?_
      | refine wb_pass ?_
      | refine wb_brk ?_
      | refine wb_cont ?_
      | refine wb_nil ?_)
    | (refine g_WAsg ?_; first
      | refine wasg_sh ?_
      | refine wasg_own ?_
      | refine wasg_slot (by exact rfl) ?_
      | refine wasg_move (by exact rfl) ?_)
    | (refine g_WBind ?_; first
      | refine wbind (by exact rfl) (by first | exact rfl | assumption) (by first | (dsimp only [List.set_cons_zero, List.set_cons_succ, wipeE, restore, List.getElem?_cons_zero, List.getElem?_cons_succ, setAt]; done) | exact rfl) ?_)
    | (refine g_WEs ?_; first
      | refine wes_cons ?_
      | refine wes_nil ?_)
    | (refine g_WIf ?_; first
      | with_reducible refine wif_nesame ?_
      | with_reducible refine wif_eqsame ?_
      | refine wif_t (by exact rfl) ?_
      | refine wif_f (by exact rfl) ?_)
    | (refine g_WTake ?_; first
      | refine wt_sh ?_
      | refine wt_own ?_
      | refine wt_slot (by exact rfl) (by first | (dsimp only [List.set_cons_zero, List.set_cons_succ, wipeE, restore, List.getElem?_cons_zero, List.getElem?_cons_succ, setAt]; done) | exact rfl) ?_)
    | (refine g_WT ?_; first
      | refine wt_name ?_
      | refine wt_tup ?_
      | refine wt_tupL ?_
      | refine wt_sub (by exact rfl) ?_)
    | (refine g_WTT ?_; first
      | refine wtt_cons ?_
      | refine wtt_nil ?_)
    | (refine g_WTs ?_; first
      | refine wts_cons ?_
      | refine wts_nil ?_)
    | (refine g_WRet ?_; first
      | refine wret_sh ?_
      | refine wret_own ?_
      | refine wret_slot (by exact rfl) (by first | (dsimp only [List.set_cons_zero, List.set_cons_succ, wipeE, restore, List.getElem?_cons_zero, List.getElem?_cons_succ, setAt]; done) | exact rfl) ?_)
    | (refine g_WI ?_; first
      | refine wi_range1 ?_
      | refine wi_range2 ?_
      | refine wi_enum ?_
      | refine wi_zip ?_
      | refine wi_ziprev ?_
      | refine wi_rev ?_
      | refine wi_keys (by exact rfl) (by assumption) ?_
      | refine wi_seq ?_)
    | (refine g_WItems ?_; first
      | refine wit_l ?_
      | refine wit_t ?_)
    | (refine g_WIs ?_; first
      | refine wis (by first | (dsimp only [List.set_cons_zero, List.set_cons_succ, wipeE, restore, List.getElem?_cons_zero, List.getElem?_cons_succ, setAt]; done) | exact rfl) ?_)
    | (refine g_WBig ?_; first
      | refine wbig (by exact Nat.le_of_ble_eq_true rfl) ?_)
    | (refine g_WNot ?_; first
      | refine wnot ?_)
    | (refine g_WBool ?_; first
      | refine wbool ?_)
    | (refine g_WRg1 ?_; first
      | refine wrg1 (by constructor <;> omega) ?_)
    | (refine g_WRg2 ?_; first
      | refine wrg2 (by refine ⟨?_, ?_, ?_, ?_⟩ <;> omega) ?_)
    | (refine g_WSeq ?_; first
      | refine wsq_l ?_
      | refine wsq_t ?_)
    | (refine g_WMut ?_; first
      | refine wmut_app (by exact rfl) (by exact Nat.le_of_ble_eq_true rfl) (by exact rfl) (by first | (dsimp only [List.set_cons_zero, List.set_cons_succ, wipeE, restore, List.getElem?_cons_zero, List.getElem?_cons_succ, setAt]; done) | exact rfl) ?_
      | refine wmut_mk (by exact rfl) (by exact rfl) (by exact rfl) (by first | (dsimp only [List.set_cons_zero, List.set_cons_succ, wipeE, restore, List.getElem?_cons_zero, List.getElem?_cons_succ, setAt]; done) | exact rfl) ?_)
    | (refine g_WExt ?_; first
      | refine wext (by exact rfl) (by exact Nat.le_of_ble_eq_true rfl) (by exact rfl) (by first | (dsimp only [List.set_cons_zero, List.set_cons_succ, wipeE, restore, List.getElem?_cons_zero, List.getElem?_cons_succ, setAt]; done) | exact rfl) ?_)
    | (refine g_WCut ?_; first
      | refine wc_no ?_
      | refine wc_yes ?_)
    | (refine g_WInt ?_; first
      | refine wint ?_)
    | (refine g_WSl ?_; first
      | refine wsl_t ?_
      | refine wsl_l ?_)
    | (refine g_WSub ?_; first
      | refine wsub_mk (by exact rfl) (by first | (dsimp only [List.set_cons_zero, List.set_cons_succ, wipeE, restore, List.getElem?_cons_zero, List.getElem?_cons_succ, setAt]; done) | exact rfl) ?_)
    | (refine g_WDic ?_; first
      | refine wdic (by exact rfl) (by exact rfl) (by exact rfl) ?_)))
/-! Prices and weights so many times greater; prices added; dearer prices. -/
/-! ### weights -/
/-- days of which the later costs are so many times as great -/
structure Sc (s : Shp) (m : Int) (gs fs : List (List Int)) : Prop where
  b : prodB gs = m * prodB fs
  c : ∀ x, 0 - s.d ≤ x → x ≤ s.t → ixI (backF s gs).1 (x + s.d) = m * ixI (backF s fs).1 (x + s.d)
theorem shr_scale {m t b : Int} (hm : 0 < m) : shrD (m * t) (m * b) = shrD t b := by
  have e : ((Int.gcd (m * t) (m * b) : Nat) : Int) = m * (Int.gcd t b : Nat) := by
    rw [Int.gcd_mul_left]
    rw [Int.natCast_mul]
    congr 1
    omega
  unfold shrD shrT shrB
  rw [e, Int.mul_fdiv_mul_of_pos _ _ hm, Int.mul_fdiv_mul_of_pos _ _ hm]
/-! ### prices added; dearer ones -/
/-! ### what repr may be asked of; pens with a tie to what is gone through -/
inductive All2 {α β : Type} (p : α → β → Prop) : List α → List β → Prop
  | nil : All2 p [] []
  | cons {a : α} {b : β} {as : List α} {bs : List β} : p a b → All2 p as bs → All2 p (a :: as) (b :: bs)
theorem All2.len {α β : Type} {p : α → β → Prop} {as : List α} {bs : List β} (h : All2 p as bs) : as.length = bs.length := by
  induction h with
  | nil => rfl
  | cons _ _ ih => simp [ih]
end Lb

set_option linter.all false
set_option maxRecDepth 100000
set_option maxHeartbeats 4000000
set_option autoImplicit false
namespace Lb
open PySem Tw
local macro_rules
  | `(tactic| array_get_dec) => `(tactic| repeat (first
    | (refine g_WE ?_; first
      | refine we_cst ?_
      | refine we_sh (by exact rfl) ?_
      | refine we_own (by exact rfl) ?_
      | refine we_inp (by exact rfl) ?_
      | refine we_ins (by exact rfl) ?_
      | refine we_op2 ?_
      | refine we_op1 ?_
      | refine we_dic ?_
      | refine we_tup ?_
      | refine we_lst ?_
      | refine we_not ?_
      | refine we_or ?_
      | refine we_and ?_
      | refine we_chain ?_
      | refine we_chain3 ?_
      | refine we_slc ?_
      | refine we_call ?_
      | refine we_comp ?_)
    | (refine g_WOp ?_; first
      | refine wo_abs ?_
      | with_reducible refine wo_eqsame (by exact shaped_cl rfl) ?_
      | with_reducible refine wo_nesame (by exact shaped_cl rfl) ?_
      | refine wo_neS ?_
      | refine wo_eqS ?_
      | refine wo_neI ?_
      | refine wo_eqI ?_
      | refine wo_intB ?_
      | refine wo_max2 ?_
      | refine wo_pick2I ?_
      | refine wo_min2 ?_
      | refine wo_mul (by first | exact mulOk_bd rfl | assumption) ?_
      | refine wo_mulT (by refine ⟨?_, ?_, ?_⟩ <;> first | omega | (simp only [List.length_nil, List.length_cons]; omega)) ?_
      | refine wo_fdiv (by first | exact divOk_bd (by decide) rfl | assumption) ?_
      | refine wo_mod (by first | decide | assumption) ?_
      | refine wo_pow (by decide) ?_
      | refine wo_repr (by first | exact reprI_bd rfl | assumption | exact repr_rgT (by omega) | exact repr_rgL (by omega) | exact repr_rp rfl) ?_
      | refine wo_str (by assumption) ?_
      | refine wo_addL (by exact Nat.le_of_ble_eq_true rfl) ?_
      | refine wo_addT (by exact Nat.le_of_ble_eq_true rfl) ?_
      | refine wo_lrange (by first | assumption | exact rgOk_by (by omega)) ?_
      | refine wo_trange (by first | assumption | exact rgOk_by (by omega)) ?_
      | refine wo_rgLm (by omega) ?_
      | refine wo_rgTm (by omega) ?_
      | refine wo_rgL (by omega) ?_
      | refine wo_rgT (by omega) ?_
      | with_reducible refine wo_lenrgL (by omega) ?_
      | with_reducible refine wo_lenrgT (by omega) ?_
      | refine wo_sortI ?_
      | refine wo_sumL ?_
      | refine wo_sumT ?_
      | refine wo_lenT ?_
      | refine wo_lenL ?_
      | refine wo_mk (by exact rfl) (by exact rfl) ?_
      | refine wo_mkO (by exact rfl) (by exact rfl) ?_)
    | (refine g_WLook ?_; first
      | refine wl_sh ?_
      | refine wl_own ?_
      | refine wl_slot (by exact rfl) ?_)
    | (refine g_WB ?_; first
      | refine wb_asg ?_
      | refine wb_asgT ?_
      | refine wb_ret ?_
      | refine wb_retN ?_
      | refine wb_ite ?_
      | refine wb_expr ?_
      | refine wb_mut (by exact rfl) ?_
      | refine wb_ext (by exact rfl) ?_
      | refine wb_for ?_
      | refine wb_while ?_
      | refine wb_pass ?_
      | refine wb_brk ?_
      | refine wb_cont ?_
      | refine wb_nil ?_)
    | (refine g_WAsg ?_; first
      | refine wasg_sh ?_
      | refine wasg_own ?_
      | refine wasg_slot (by exact rfl) ?_
      | refine wasg_move (by exact rfl) ?_)
    | (refine g_WBind ?_; first
      | refine wbind (by exact rfl) (by first | exact rfl | assumption) (by first | (dsimp only [List.set_cons_zero, List.set_cons_succ, wipeE, restore, List.getElem?_cons_zero, List.getElem?_cons_succ, setAt]; done) | exact rfl) ?_)
    | (refine g_WEs ?_; first
      | refine wes_cons ?_
      | refine wes_nil ?_)
    | (refine g_WIf ?_; first
      | with_reducible refine wif_nesame ?_
      | with_reducible refine wif_eqsame ?_
      | refine wif_t (by exact rfl) ?_
      | refine wif_f (by exact rfl) ?_)
    | (refine g_WTake ?_; first
      | refine wt_sh ?_
      | refine wt_own ?_
      | refine wt_slot (by exact rfl) (by first | (dsimp only [List.set_cons_zero, List.set_cons_succ, wipeE, restore, List.getElem?_cons_zero, List.getElem?_cons_succ, setAt]; done) | exact rfl) ?_)
    | (refine g_WT ?_; first
      | refine wt_name ?_
      | refine wt_tup ?_
      | refine wt_tupL ?_
      | refine wt_sub (by exact rfl) ?_)
    | (refine g_WTT ?_; first
      | refine wtt_cons ?_
      | refine wtt_nil ?_)
    | (refine g_WTs ?_; first
      | refine wts_cons ?_
      | refine wts_nil ?_)
    | (refine g_WRet ?_; first
      | refine wret_sh ?_
      | refine wret_own ?_
      | refine wret_slot (by exact rfl) (by first | (dsimp only [List.set_cons_zero, List.set_cons_succ, wipeE, restore, List.getElem?_cons_zero, List.getElem?_cons_succ, setAt]; done) | exact rfl) ?_)
    | (refine g_WI ?_; first
      | refine wi_range1 ?_
      | refine wi_range2 ?_
      | refine wi_enum ?_
      | refine wi_zip ?_
      | refine wi_ziprev ?_
      | refine wi_rev ?_
      | refine wi_keys (by exact rfl) (by assumption) ?_
      | refine wi_seq ?_)
    | (refine g_WItems ?_; first
      | refine wit_l ?_
      | refine wit_t ?_)
    | (refine g_WIs ?_; first
      | refine wis (by first | (dsimp only [List.set_cons_zero, List.set_cons_succ, wipeE, restore, List.getElem?_cons_zero, List.getElem?_cons_succ, setAt]; done) | exact rfl) ?_)
    | (refine g_WBig ?_; first
      | refine wbig (by exact Nat.le_of_ble_eq_true rfl) ?_)
    | (refine g_WNot ?_; first
      | refine wnot ?_)
    | (refine g_WBool ?_; first
      | refine wbool ?_)
    | (refine g_WRg1 ?_; first
      | refine wrg1 (by constructor <;> omega) ?_)
    | (refine g_WRg2 ?_; first
      | refine wrg2 (by refine ⟨?_, ?_, ?_, ?_⟩ <;> omega) ?_)
    | (refine g_WSeq ?_; first
      | refine wsq_l ?_
      | refine wsq_t ?_)
    | (refine g_WMut ?_; first
      | refine wmut_app (by exact rfl) (by exact Nat.le_of_ble_eq_true rfl) (by exact rfl) (by first | (dsimp only [List.set_cons_zero, List.set_cons_succ, wipeE, restore, List.getElem?_cons_zero, List.getElem?_cons_succ, setAt]; done) | exact rfl) ?_
      | refine wmut_mk (by exact rfl) (by exact rfl) (by exact rfl) (by first | (dsimp only [List.set_cons_zero, List.set_cons_succ, wipeE, restore, List.getElem?_cons_zero, List.getElem?_cons_succ, setAt]; done) | exact rfl) ?_)
    | (refine g_WExt ?_; first
      | refine wext (by exact rfl) (by exact Nat.le_of_ble_eq_true rfl) (by exact rfl) (by first | (dsimp only [List.set_cons_zero, List.set_cons_succ, wipeE, restore, List.getElem?_cons_zero, List.getElem?_cons_succ, setAt]; done) | exact rfl) ?_)
    | (refine g_WCut ?_; first
      | refine wc_no ?_
      | refine wc_yes ?_)
    | (refine g_WInt ?_; first
      | refine wint ?_)
    | (refine g_WSl ?_; first
      | refine wsl_t ?_
      | refine wsl_l ?_)
    | (refine g_WSub ?_; first
      | refine wsub_mk (by exact rfl) (by first | (dsimp only [List.set_cons_zero, List.set_cons_succ, wipeE, restore, List.getElem?_cons_zero, List.getElem?_cons_succ, setAt]; done) | exact rfl) ?_)
    | (refine g_WDic ?_; first
      | refine wdic (by exact rfl) (by exact rfl) (by exact rfl) ?_)))
/-! The checker: papers, and whether they are let by. -/
variable {T : List Fn}
theorem shr_eq {a b c d : Int} (hb : 0 < b) (hd : 0 < d) (h : a * d = c * b) : shrD a b = shrD c d := by
  rw [← shr_scale (t := a) (b := b) hd, ← shr_scale (t := c) (b := d) hb, Int.mul_comm d a, Int.mul_comm d b, Int.mul_comm b c, h]
theorem shr_lt {a b c d : Int} (hb : 0 < b) (hd : 0 < d) : shrT a b * shrB c d < shrT c d * shrB a b ↔ a * d < c * b := by
  have e1 := shr_cross (t := a) hb
  have e2 := shr_cross (t := c) hd
  have p1 := shrB_pos (t := a) hb
  have p2 := shrB_pos (t := c) hd
  have k1 : shrT a b * shrB c d * (b * d) = a * d * (shrB a b * shrB c d) := by
    rw [show shrT a b * shrB c d * (b * d) = (shrT a b * b) * (shrB c d * d) by simp only [Int.mul_assoc, Int.mul_left_comm, Int.mul_comm], e1]
    simp only [Int.mul_assoc, Int.mul_left_comm, Int.mul_comm]
  have k2 : shrT c d * shrB a b * (b * d) = c * b * (shrB a b * shrB c d) := by
    rw [show shrT c d * shrB a b * (b * d) = (shrT c d * d) * (shrB a b * b) by simp only [Int.mul_assoc, Int.mul_left_comm, Int.mul_comm], e2]
    simp only [Int.mul_assoc, Int.mul_left_comm, Int.mul_comm]
  have q1 : 0 < b * d := Int.mul_pos hb hd
  have q2 : 0 < shrB a b * shrB c d := Int.mul_pos p1 p2
  constructor
  · intro h
    have := Int.mul_lt_mul_of_pos_right h q1
    rw [k1, k2] at this
    exact Int.lt_of_mul_lt_mul_right this (Int.le_of_lt q2)
  · intro h
    have := Int.mul_lt_mul_of_pos_right h q2
    rw [← k1, ← k2] at this
    exact Int.lt_of_mul_lt_mul_right this (Int.le_of_lt q1)
theorem shr_same {a b c d : Int} (hb : 0 < b) (hd : 0 < d) : (shrT a b = shrT c d ∧ shrB a b = shrB c d) ↔ a * d = c * b := by
  constructor
  · rintro ⟨h1, h2⟩
    have e1 := shr_cross (t := a) hb
    have e2 := shr_cross (t := c) hd
    have p2 := shrB_pos (t := c) hd
    rw [h1, h2] at e1
    refine Int.eq_of_mul_eq_mul_right (a := shrB c d) (by omega) ?_
    rw [Int.mul_right_comm, ← e1, Int.mul_right_comm c, ← e2]
    simp only [Int.mul_assoc, Int.mul_left_comm, Int.mul_comm]
  · intro h
    have := shr_eq hb hd h
    unfold shrD at this
    simpa using this
theorem eqv_pair (a b c d : Int) : PyData.eqv (.tuple [.int a, .int b]) (.tuple [.int c, .int d]) = (decide (a = c) && decide (b = d)) := by
  simp [PyData.eqv, PyData.eqvAll]
  rfl
theorem eqv_shr {a b c d : Int} (hb : 0 < b) (hd : 0 < d) : PyData.eqv (shrD a b) (shrD c d) = decide (a * d = c * b) := by
  unfold shrD
  rw [eqv_pair, ← Bool.decide_and]
  exact decide_eq_decide.mpr (shr_same hb hd)
/-! ### shares put together -/
/-- plus(one, other); ; calls share; 2 of 2 -/
def b_plus (k0 : Nat) : MSs :=
  (.cons (.ret (.call k0 (.cons (.op .add (.cons (.op .mul (.cons (.op .idx (.cons (.var 0) (.cons (.cst (.int 0)) .nil))) (.cons (.op .idx (.cons (.var 1) (.cons (.cst (.int 1))
    .nil))) .nil))) (.cons (.op .mul (.cons (.op .idx (.cons (.var 1) (.cons (.cst (.int 0)) .nil))) (.cons (.op .idx (.cons (.var 0) (.cons (.cst (.int 1)) .nil))) .nil))) .nil)))
    (.cons (.op .mul (.cons (.op .idx (.cons (.var 0) (.cons (.cst (.int 1)) .nil))) (.cons (.op .idx (.cons (.var 1) (.cons (.cst (.int 1)) .nil))) .nil))) .nil)))) .nil)
def PlusSp (f : Fn) : Prop := ∀ (a b c d : Int), 0 < b → 0 < d → Bd a 2400 → Bd b 2400 → Bd c 2400 → Bd d 2400 → PF f [.sh (.tuple [.int a, .int b]), .sh (.tuple [.int c, .int d])] (shrD (a * d + c * b) (b * d))
theorem plus_sp {k0 : Nat} {f0 : Fn} (h0 : T[k0]? = some f0) (n0 : ShareSp f0) : PlusSp (evalDef T 2 2 (b_plus k0)) := by
  intro a b c d hb hd _ _ _ _
  refine pf_of rfl (by first | (dsimp only [List.cons_append, List.nil_append, Nat.reduceSub, Nat.reduceAdd, List.replicate_succ, List.replicate_zero]; done) | exact rfl) ?_
  unfold b_plus
  array_get_dec
  refine wapp_pf h0 (n0 (a * d + c * b) (b * d) (Int.mul_pos hb hd) ((inferInstance : Bd (b * d) _).to rfl)) (by exact rfl) (by exact rfl) ?_
  array_get_dec
  exact ⟨rfl, rfl⟩
def BelowSp (f : Fn) : Prop := ∀ (a b c d : Int), Bd a 2400 → Bd b 2400 → Bd c 2400 → Bd d 2400 → PF f [.sh (.tuple [.int a, .int b]), .sh (.tuple [.int c, .int d])] (.bool (decide (a * d < c * b)))
/-- later costs: shares over one bottom -/
def latD (p : List Int × Int) : Tw.D := .list (p.1.map fun n => shrD n p.2)
structure LatOk (s : Shp) (p : List Int × Int) : Prop where
  len : p.1.length = s.N
  pos : 0 < p.2
  b : Bd p.2 500
  c : ∀ x ∈ p.1, Bd x 600
def partS (s : Shp) (p : List Int × Int) (l : Int) (ws : List (Int × Int)) : Int := (ws.map fun q => q.2 * (dayC s l q.1 * p.2 + ixI p.1 (nxt s l q.1 + s.d))).sum
theorem part_bd {s : Shp} (ho : s.Ok) {w : List Int} (hw : DayOk 8 w) {p : List Int × Int} (hp : LatOk s p) {l : Int} (hl : 0 - s.d ≤ l ∧ l ≤ s.t) {a b : List (Int × Int)} (h : enumI 0 w = a ++ b) : Bd (partS s p l a) 700 := by
  unfold partS
  refine (sumn_bd (k := 650) (m := 3) ?_ ?_).to rfl
  · intro x hx
    obtain ⟨⟨f, wt⟩, hq, rfl⟩ := List.mem_map.mp hx
    obtain ⟨k, hk1, hk2⟩ := enumI_mem (show (f, wt) ∈ enumI 0 w by rw [h]; exact List.mem_append_left _ hq)
    have hwt := hw.b wt (List.mem_of_getElem? hk1)
    have hk3 := (List.getElem?_eq_some_iff.mp hk1).1
    have hwl := hw.l2
    simp only at hk2
    have hn := nxt_in ho hl (f := f) (by omega)
    have _ : Bd wt 10 := bd10 (by omega)
    have _ := dayC_bd2 ho hl (f := f) (by omega)
    have hlen := hp.len
    have _ := hp.b
    have _ := hp.c _ (ixI_mem (xs := p.1) (i := nxt s l f + s.d) (by omega))
    exact (inferInstance : Bd (wt * (dayC s l f * p.2 + ixI p.1 (nxt s l f + s.d))) _).to rfl
  · rw [List.length_map]
    have := congrArg List.length h
    rw [enumI_len, List.length_append] at this
    have := hw.l2
    omega
theorem part_all {s : Shp} {p : List Int × Int} {l : Int} {w : List Int} : partS s p l (enumI 0 w) = ahS s w p.1 p.2 l := rfl
def BehindSp (f : Fn) : Prop := ∀ (s : Shp) (w : List Int) (l : Int) (p : List Int × Int), s.Ok → DayOk 8 w → LatOk s p → 0 - s.d ≤ l → l ≤ s.t → FS f [.sh s.D, .sh (dayD w), .sh (.int l), .inp (latD p)] fun v os => v = .sh (shrD (ahS s w p.1 p.2 l) (p.2 * w.sum)) ∧ os = [.sh s.D, .sh (dayD w), .sh (.int l), .inp (latD p)]
/-! ### a day, all days -/
/-- whether a level is let by at a stock: no other costs less, its own just so much -/
def okLev (s : Shp) (w : List Int) (p : List Int × Int) (x n e l o : Int) : Prop := n * (p.2 * w.sum) ≤ valS s w p x o * e ∧ (o = l → valS s w p x o * e = n * (p.2 * w.sum))
def okDay (s : Shp) (w : List Int) (p : List Int × Int) (day : List (Int × Int) × Int) : Prop := ∀ (i : Nat) (q : Int × Int), day.1[i]? = some q → ∀ o, (i : Int) - s.d ≤ o → o ≤ s.t → okLev s w p ((i : Int) - s.d) q.1 day.2 q.2 o
structure PapOk (s : Shp) (day : List (Int × Int) × Int) : Prop where
  len : day.1.length = s.N
  pos : 0 < day.2
  b : Bd day.2 480
  c : ∀ q ∈ day.1, Bd q.1 590
theorem valS_bd {s : Shp} (ho : s.Ok) {w : List Int} (hw : DayOk 8 w) {p : List Int × Int} (hp : LatOk s p) {x l : Int} (hl : 0 - s.d ≤ l ∧ l ≤ s.t) (hx : 0 - s.d ≤ x ∧ x ≤ s.t) : Bd (valS s w p x l) 702 := by
  have hs := day_sum hw (by decide)
  have _ : Bd w.sum 13 := bd13 (by omega)
  have _ := hp.b
  have b1 := part_bd ho hw hp hl (a := enumI 0 w) (b := []) (by simp)
  rw [part_all] at b1
  have : Bd (ordC s x l) 30 := by
    obtain ⟨o1, o2, o3, _, _, _, _, _, _, _⟩ := id ho
    have _ : Bd s.a 20 := Bd.small (by omega)
    have _ : Bd s.b 20 := Bd.small (by omega)
    have _ : Bd (l - x) 6 := bd6 (by omega)
    unfold ordC
    exact (inferInstance : Bd (if l = x then 0 else s.a + s.b * (l - x)) _).to rfl
  unfold valS
  exact (inferInstance : Bd (ordC s x l * (p.2 * w.sum) + ahS s w p.1 p.2 l) _).to rfl
/-- day_holds(shop, one, day, later); behind, stock, cost, level, other, here; calls stocks, behind_level, plus, order_cost, below; 4 of 10 -/
def b_day_holds (k0 k1 k2 k3 k4 : Nat) : MSs :=
  (.cons (.asg 4 (.comp [7] (.name 7) (.seq (.call k0 (.cons (.var 0) .nil))) (.cst (.bool true)) (.call k1 (.cons (.var 0) (.cons (.var 1) (.cons (.var 7) (.cons (.var 3)
    .nil))))))) (.cons (.for (.tup (.cons (.name 5) (.cons (.tup (.cons (.name 6) (.cons (.name 7) .nil))) .nil))) (.zip (.call k0 (.cons (.var 0) .nil)) (.var 2)) (.cons (.for
    (.name 8) (.range (.cons (.var 5) (.cons (.op .add (.cons (.op .idx (.cons (.var 0) (.cons (.cst (.int 0)) .nil))) (.cons (.cst (.int 1)) .nil))) .nil))) (.cons (.asg 9 (.call
    k2 (.cons (.tup (.cons (.call k3 (.cons (.var 0) (.cons (.var 5) (.cons (.var 8) .nil)))) (.cons (.cst (.int 1)) .nil))) (.cons (.op .idx (.cons (.var 4) (.cons (.op .add
    (.cons (.var 8) (.cons (.op .idx (.cons (.var 0) (.cons (.cst (.int 1)) .nil))) .nil))) .nil))) .nil)))) (.cons (.ite (.or (.call k4 (.cons (.var 9) (.cons (.var 6) .nil)))
    (.and (.op .eq (.cons (.var 8) (.cons (.var 7) .nil))) (.op .ne (.cons (.var 9) (.cons (.var 6) .nil))))) (.cons (.ret (.cst (.bool false))) .nil) .nil) .nil))) .nil)) (.cons
    (.ret (.cst (.bool true))) .nil)))
def b_day_holds_L0 (k0 k1 k2 k3 k4 : Nat) : MSs :=
  (.cons (.asg 9 (.call k2 (.cons (.tup (.cons (.call k3 (.cons (.var 0) (.cons (.var 5) (.cons (.var 8) .nil)))) (.cons (.cst (.int 1)) .nil))) (.cons (.op .idx (.cons (.var 4)
    (.cons (.op .add (.cons (.var 8) (.cons (.op .idx (.cons (.var 0) (.cons (.cst (.int 1)) .nil))) .nil))) .nil))) .nil)))) (.cons (.ite (.or (.call k4 (.cons (.var 9) (.cons
    (.var 6) .nil))) (.and (.op .eq (.cons (.var 8) (.cons (.var 7) .nil))) (.op .ne (.cons (.var 9) (.cons (.var 6) .nil))))) (.cons (.ret (.cst (.bool false))) .nil) .nil) .nil))
def b_day_holds_L1 (k0 k1 k2 k3 k4 : Nat) : MSs :=
  (.cons (.for (.name 8) (.range (.cons (.var 5) (.cons (.op .add (.cons (.op .idx (.cons (.var 0) (.cons (.cst (.int 0)) .nil))) (.cons (.cst (.int 1)) .nil))) .nil))) (.cons (.asg
    9 (.call k2 (.cons (.tup (.cons (.call k3 (.cons (.var 0) (.cons (.var 5) (.cons (.var 8) .nil)))) (.cons (.cst (.int 1)) .nil))) (.cons (.op .idx (.cons (.var 4) (.cons (.op
    .add (.cons (.var 8) (.cons (.op .idx (.cons (.var 0) (.cons (.cst (.int 1)) .nil))) .nil))) .nil))) .nil)))) (.cons (.ite (.or (.call k4 (.cons (.var 9) (.cons (.var 6)
    .nil))) (.and (.op .eq (.cons (.var 8) (.cons (.var 7) .nil))) (.op .ne (.cons (.var 9) (.cons (.var 6) .nil))))) (.cons (.ret (.cst (.bool false))) .nil) .nil) .nil))) .nil)
open Classical in
def HoldsSp (f : Fn) : Prop := ∀ (s : Shp) (w : List Int) (p : List Int × Int) (day : List (Int × Int) × Int), s.Ok → DayOk 8 w → LatOk s p → PapOk s day → FS f [.sh s.D, .sh (dayD w), .sh (tdayD day), .inp (latD p)] fun v os => v = .sh (.bool (decide (okDay s w p day))) ∧ os = [.sh s.D, .sh (dayD w), .sh (tdayD day), .inp (latD p)]
theorem range_zip_mem {α : Type} {n : Nat} {xs : List α} {i : Nat} {x : α} (h : (i, x) ∈ (List.range n).zip xs) : xs[i]? = some x ∧ i < n := by
  obtain ⟨k, hk⟩ := List.mem_iff_getElem?.mp h
  rw [List.getElem?_zip_eq_some] at hk
  obtain ⟨h1, h2⟩ := hk
  have h3 := (List.getElem?_eq_some_iff.mp h1).1
  rw [List.length_range] at h3
  rw [List.getElem?_range h3] at h1
  cases h1
  exact ⟨h2, h3⟩
theorem range_zip_at {α : Type} {n : Nat} {xs : List α} {i : Nat} {x : α} (h : xs[i]? = some x) (hi : i < n) : (i, x) ∈ (List.range n).zip xs := by
  refine List.mem_iff_getElem?.mpr ⟨i, ?_⟩
  rw [List.getElem?_zip_eq_some]
  exact ⟨List.getElem?_range hi, h⟩
theorem day_holds_sp {k0 k1 k2 k3 k4 : Nat} {f0 f1 f2 f3 f4 : Fn} (h0 : T[k0]? = some f0) (n0 : StocksSp f0) (h1 : T[k1]? = some f1) (n1 : BehindSp f1) (h2 : T[k2]? = some f2) (n2 : PlusSp f2) (h3 : T[k3]? = some f3) (n3 : OrderSp f3) (h4 : T[k4]? = some f4) (n4 : BelowSp f4) : HoldsSp (evalDef T 4 10 (b_day_holds k0 k1 k2 k3 k4)) := by
  classical
  intro s w p day ho hw hp hd
  obtain ⟨o1, o2, o3, _, _, _, _, _, _, _⟩ := id ho
  have sz := ho.sz
  have n0' := n0 s (by omega) (by omega)
  have hN : s.N = (s.t + 1 - (0 - s.d)).toNat := rfl
  have hs := day_sum hw (by decide)
  have _ : Bd w.sum 13 := bd13 (by omega)
  have pos := hp.pos
  obtain ⟨R, E⟩ := day
  have epos : 0 < E := hd.pos
  have eb : Bd E 480 := hd.b
  have rl : R.length = s.N := hd.len
  have dpos : 0 < p.2 * w.sum := Int.mul_pos pos (by omega)
  have db : Bd (p.2 * w.sum) 520 := by
    have _ := hp.b
    exact (inferInstance : Bd (p.2 * w.sum) _).to rfl
  obtain ⟨D, hD⟩ : ∃ D, D = p.2 * w.sum := ⟨_, rfl⟩
  rw [← hD] at dpos db
  refine fs_of rfl (by first | (dsimp only [List.cons_append, List.nil_append, Nat.reduceSub, Nat.reduceAdd, List.replicate_succ, List.replicate_zero]; done) | exact rfl) ?_
  unfold b_day_holds
  array_get_dec
  refine wapp_pf h0 (n0') (by exact rfl) (by exact rfl) ?_
  array_get_dec
  rw [stD_eq]
  refine wcomp_map (fun i : Nat => shrD (ahS s w p.1 p.2 (0 - s.d + (i : Nat))) D) ?_ ?_
  · intro i hi
    have hi := List.mem_range.mp hi
    array_get_dec
    refine wapp h1 (by exact rfl) (by first | exact List.nodup_nil | exact nd0 | exact nd1 | (simp only [slotsIn]; decide)) (FS.imp (n1 s w (0 - s.d + (i : Nat)) p ho hw hp (by omega) (by omega)) ?_)
    rintro _ _ ⟨rfl, rfl⟩
    refine wback_sh (by exact rfl) (by first | (dsimp only [List.set_cons_zero, List.set_cons_succ, wipeE, restore, List.getElem?_cons_zero, List.getElem?_cons_succ, setAt]; done) | exact rfl) ?_
    array_get_dec
    rw [hD]
    exact ⟨rfl, rfl⟩
  refine wbig (by rw [List.length_map, List.length_range]; unfold BIG; omega) ?_
  array_get_dec
  refine wapp_pf h0 (n0') (by exact rfl) (by exact rfl) ?_
  array_get_dec
  unfold tdayD
  array_get_dec
  rw [stD_eq, pairs2_mp]
  refine wfor_map (fun rm s' => ∃ y5 y6 y7 y8 y9 : SV, (y5.free = true ∧ y6.free = true ∧ y7.free = true ∧ y8.free = true ∧ y9.free = true) ∧ (∀ e ∈ rm, e ∈ (List.range s.N).zip R) ∧ (∀ e ∈ (List.range s.N).zip R, e ∈ rm ∨ ∀ o, (e.1 : Int) - s.d ≤ o → o ≤ s.t → okLev s w p ((e.1 : Int) - s.d) e.2.1 E e.2.2 o) ∧ s' = [.sh s.D, .sh (dayD w), .sh (.tuple (R.map (cellD E))), .inp (latD p), .own (.list ((List.range s.N).map fun i : Nat => shrD (ahS s w p.1 p.2 (0 - s.d + (i : Nat))) D)), y5, y6, y7, y8, y9]) ?_ ?_ ⟨_, _, _, _, _, ⟨by first | exact rfl | assumption, by first | exact rfl | assumption, by first | exact rfl | assumption, by first | exact rfl | assumption, by first | exact rfl | assumption⟩, fun e he => he, fun e he => .inl he, rfl⟩
  · rintro ⟨i, n, l⟩ rm s' ⟨y5, y6, y7, y8, y9, ⟨gy5, gy6, gy7, gy8, gy9⟩, hm, hall, rfl⟩
    obtain ⟨hi1, hi2⟩ := range_zip_mem (hm (i, n, l) (by simp))
    have nb : Bd n 590 := hd.c _ (List.mem_of_getElem? hi1)
    obtain ⟨x, hx⟩ : ∃ x, x = 0 - s.d + (i : Int) := ⟨_, rfl⟩
    have hx1 : 0 - s.d ≤ x ∧ x ≤ s.t := by omega
    have hxi : (i : Int) - s.d = x := by omega
    unfold cellD
    array_get_dec
    rw [← hx]
    array_get_dec
    refine wfor_range (fun j s' => ∃ y8 y9 : SV, (y8.free = true ∧ y9.free = true) ∧ (∀ o, x ≤ o → o < x + (j : Nat) → okLev s w p x n E l o) ∧ s' = [.sh s.D, .sh (dayD w), .sh (.tuple (R.map fun q => PyData.tuple [shrD q.1 E, PyData.int q.2])), .inp (latD p), .own (.list ((List.range s.N).map fun i : Nat => shrD (ahS s w p.1 p.2 (0 - s.d + (i : Nat))) D)), .sh (.int x), .sh (shrD n E), .sh (.int l), y8, y9]) ?_ ?_ ⟨y8, y9, ⟨gy8, gy9⟩, fun o h1 h2 => by omega, rfl⟩
    · rintro j s' hj ⟨y8, y9, ⟨gy8, gy9⟩, hok, rfl⟩
      obtain ⟨o, hoe⟩ : ∃ o, o = x + (j : Int) := ⟨_, rfl⟩
      have ho1 : x ≤ o ∧ o ≤ s.t := by omega
      have _ : Bd x 20 := Bd.small (by omega)
      have _ : Bd o 20 := Bd.small (by omega)
      have bo := ordC_bd (x := x) (l := o) sz ((Bd.small (by omega)).to rfl) ((Bd.small (by omega)).to rfl)
      have bah := part_bd ho hw hp (l := o) (by omega) (a := enumI 0 w) (b := []) (by simp)
      rw [part_all] at bah
      array_get_dec
      rw [← hoe]
      refine wapp_pf h3 (n3 s x o sz ((Bd.small (by omega)).to rfl) ((Bd.small (by omega)).to rfl)) (by exact rfl) (by exact rfl) ?_
      array_get_dec
      refine wo_ixL (k := (o + s.d).toNat) (x := (o + s.d).toNat) (by omega) (List.getElem?_range (by omega)) ?_
      rw [show 0 - s.d + (((o + s.d).toNat : Nat) : Int) = o by omega]
      array_get_dec
      have t1 := shrT_bd dpos bah
      have t2 := shrB_bd (t := ahS s w p.1 p.2 o) dpos db
      have t3 := shrB_pos (t := ahS s w p.1 p.2 o) dpos
      have p1 := n2 (ordC s x o) 1 (shrT (ahS s w p.1 p.2 o) D) (shrB (ahS s w p.1 p.2 o) D) (by decide) t3 (bo.to rfl) ⟨by decide⟩ (t1.to rfl) (t2.to rfl)
      have e1 : shrD (ordC s x o * shrB (ahS s w p.1 p.2 o) D + shrT (ahS s w p.1 p.2 o) D * 1) (1 * shrB (ahS s w p.1 p.2 o) D) = shrD (valS s w p x o) D := by
        refine shr_eq (by omega) dpos ?_
        unfold valS
        rw [Int.add_mul, Int.mul_one, Int.one_mul, shr_cross dpos, Int.add_mul, ← hD]
        congr 1
        rw [Int.mul_right_comm]
      rw [e1] at p1
      refine wapp_pf h2 p1 (by exact rfl) (by exact rfl) ?_
      array_get_dec
      have bv := valS_bd ho hw hp (x := x) (l := o) (by omega) hx1
      have u1 := shrT_bd dpos bv
      have u2 := shrB_bd (t := valS s w p x o) dpos db
      have u3 := shrT_bd epos nb
      have u4 := shrB_bd (t := n) epos eb
      have p2 := n4 (shrT (valS s w p x o) D) (shrB (valS s w p x o) D) (shrT n E) (shrB n E) (u1.to rfl) (u2.to rfl) (u3.to rfl) (u4.to rfl)
      rw [decide_eq_decide.mpr (shr_lt dpos epos)] at p2
      refine wapp_pf h4 p2 (by exact rfl) (by exact rfl) ?_
      array_get_dec
      have bad : ¬ okLev s w p x n E l o → ¬ okDay s w p (R, E) := by
        intro h1 h2
        have := h2 i (n, l) hi1 o (by omega) ho1.2
        rw [hxi] at this
        exact h1 this
      have step : okLev s w p x n E l o → ∀ o', x ≤ o' → o' < x + ((j + 1 : Nat) : Int) → okLev s w p x n E l o' := by
        intro h1 o' h2 h3
        by_cases z : o' = o
        · rw [z]
          exact h1
        · exact hok o' h2 (by omega)
      refine wif_dec (fun z => ?_) fun z => ?_
      · array_get_dec
        refine ⟨?_, rfl⟩
        rw [decide_eq_false (bad fun h => ?_)]
        unfold okLev at h
        rw [← hD] at h
        omega
      · array_get_dec
        refine wif_dec (fun z2 => ?_) fun z2 => ?_
        · array_get_dec
          rw [eqv_shr dpos epos]
          refine wif_ndec (fun z3 => ?_) fun z3 => ?_
          · array_get_dec
            refine ⟨?_, rfl⟩
            rw [decide_eq_false (bad fun h => ?_)]
            unfold okLev at h
            rw [← hD] at h
            exact z3 (h.2 z2)
          · array_get_dec
            refine ⟨_, _, ⟨rfl, rfl⟩, step ?_, rfl⟩
            unfold okLev
            rw [← hD]
            exact ⟨by omega, fun _ => z3⟩
        · array_get_dec
          refine ⟨_, _, ⟨rfl, rfl⟩, step ?_, rfl⟩
          unfold okLev
          rw [← hD]
          exact ⟨by omega, fun h => absurd h z2⟩
    · rintro s' ⟨y8, y9, ⟨gy8, gy9⟩, hok, rfl⟩
      array_get_dec
      refine ⟨_, _, _, y8, y9, ⟨rfl, rfl, rfl, gy8, gy9⟩, fun e he => hm e (by simp [he]), fun e he => ?_, rfl⟩
      rcases hall e he with h | h
      · rcases List.mem_cons.mp h with rfl | h
        · right
          intro o h1 h2
          simp only at h1 ⊢
          rw [hxi] at h1 ⊢
          exact hok o h1 (by omega)
        · exact .inl h
      · exact .inr h
  · rintro s' ⟨y5, y6, y7, y8, y9, ⟨gy5, gy6, gy7, gy8, gy9⟩, hm, hall, rfl⟩
    array_get_dec
    refine ⟨?_, rfl⟩
    rw [decide_eq_true]
    intro i q hq o h1 h2
    have hi : i < s.N := by
      have := (List.getElem?_eq_some_iff.mp hq).1
      simp only at this
      omega
    rcases hall (i, q) (range_zip_at hq hi) with h | h
    · simp at h
    · exact h o h1 h2
end Lb

set_option linter.all false
set_option maxRecDepth 100000
set_option maxHeartbeats 4000000
set_option autoImplicit false
namespace Lb
open PySem Tw
local macro_rules
  | `(tactic| array_get_dec) => `(tactic| repeat (first
    | (refine g_WE ?_; first
      | refine we_cst ?_
      | refine we_sh (by exact rfl) ?_
      | refine we_own (by exact rfl) ?_
      | refine we_inp (by exact rfl) ?_
      | refine we_ins (by exact rfl) ?_
      | refine we_op2 ?_
      | refine we_op1 ?_
      | refine we_dic ?_
      | refine we_tup ?_
      | refine we_lst ?_
      | refine we_not ?_
      | refine we_or ?_
      | refine we_and ?_
      | refine we_chain ?_
      | refine we_chain3 ?_
      | refine we_slc ?_
      | refine we_call ?_
      | refine we_comp ?_)
    | (refine g_WOp ?_; first
      | refine wo_abs ?_
      | with_reducible refine wo_eqsame (by exact shaped_cl rfl) ?_
      | with_reducible refine wo_nesame (by exact shaped_cl rfl) ?_
      | refine wo_neS ?_
      | refine wo_eqS ?_
      | refine wo_neI ?_
      | refine wo_eqI ?_
      | refine wo_intB ?_
      | refine wo_max2 ?_
      | refine wo_pick2I ?_
      | refine wo_min2 ?_
      | refine wo_mul (by first | exact mulOk_bd rfl | assumption) ?_
      | refine wo_mulT (by refine ⟨?_, ?_, ?_⟩ <;> first | omega | (simp only [List.length_nil, List.length_cons]; omega)) ?_
      | refine wo_fdiv (by first | exact divOk_bd (by decide) rfl | assumption) ?_
      | refine wo_mod (by first | decide | assumption) ?_
      | refine wo_pow (by decide) ?_
      | refine wo_repr (by first | exact reprI_bd rfl | assumption | exact repr_rgT (by omega) | exact repr_rgL (by omega) | exact repr_rp rfl) ?_
      | refine wo_str (by assumption) ?_
      | refine wo_addL (by exact Nat.le_of_ble_eq_true rfl) ?_
      | refine wo_addT (by exact Nat.le_of_ble_eq_true rfl) ?_
      | refine wo_lrange (by first | assumption | exact rgOk_by (by omega)) ?_
      | refine wo_trange (by first | assumption | exact rgOk_by (by omega)) ?_
      | refine wo_rgLm (by omega) ?_
      | refine wo_rgTm (by omega) ?_
      | refine wo_rgL (by omega) ?_
      | refine wo_rgT (by omega) ?_
      | with_reducible refine wo_lenrgL (by omega) ?_
      | with_reducible refine wo_lenrgT (by omega) ?_
      | refine wo_sortI ?_
      | refine wo_sumL ?_
      | refine wo_sumT ?_
      | refine wo_lenT ?_
      | refine wo_lenL ?_
      | refine wo_mk (by exact rfl) (by exact rfl) ?_
      | refine wo_mkO (by exact rfl) (by exact rfl) ?_)
    | (refine g_WLook ?_; first
      | refine wl_sh ?_
      | refine wl_own ?_
      | refine wl_slot (by exact rfl) ?_)
    | (refine g_WB ?_; first
      | refine wb_asg ?_
      | refine wb_asgT ?_
      | refine wb_ret ?_
      | refine wb_retN ?_
      | refine wb_ite ?_
      | refine wb_expr ?_
      | refine wb_mut (by exact rfl) ?_
      | refine wb_ext (by exact rfl) ?_
      | refine wb_for ?_
      | refine wb_while ?_
      | refine wb_pass ?_
      | refine wb_brk ?_
      | refine wb_cont ?_
      | refine wb_nil ?_)
    | (refine g_WAsg ?_; first
      | refine wasg_sh ?_
      | refine wasg_own ?_
      | refine wasg_slot (by exact rfl) ?_
      | refine wasg_move (by exact rfl) ?_)
    | (refine g_WBind ?_; first
      | refine wbind (by exact rfl) (by first | exact rfl | assumption) (by first | (dsimp only [List.set_cons_zero, List.set_cons_succ, wipeE, restore, List.getElem?_cons_zero, List.getElem?_cons_succ, setAt]; done) | exact rfl) ?_)
    | (refine g_WEs ?_; first
      | refine wes_cons ?_
      | refine wes_nil ?_)
    | (refine g_WIf ?_; first
      | with_reducible refine wif_nesame ?_
      | with_reducible refine wif_eqsame ?_
      | refine wif_t (by exact rfl) ?_
      | refine wif_f (by exact rfl) ?_)
    | (refine g_WTake ?_; first
      | refine wt_sh ?_
      | refine wt_own ?_
      | refine wt_slot (by exact rfl) (by first | (dsimp only [List.set_cons_zero, List.set_cons_succ, wipeE, restore, List.getElem?_cons_zero, List.getElem?_cons_succ, setAt]; done) | exact rfl) ?_)
    | (refine g_WT ?_; first
      | refine wt_name ?_
      | refine wt_tup ?_
      | refine wt_tupL ?_
      | refine wt_sub (by exact rfl) ?_)
    | (refine g_WTT ?_; first
      | refine wtt_cons ?_
      | refine wtt_nil ?_)
    | (refine g_WTs ?_; first
      | refine wts_cons ?_
      | refine wts_nil ?_)
    | (refine g_WRet ?_; first
      | refine wret_sh ?_
      | refine wret_own ?_
      | refine wret_slot (by exact rfl) (by first | (dsimp only [List.set_cons_zero, List.set_cons_succ, wipeE, restore, List.getElem?_cons_zero, List.getElem?_cons_succ, setAt]; done) | exact rfl) ?_)
    | (refine g_WI ?_; first
      | refine wi_range1 ?_
      | refine wi_range2 ?_
      | refine wi_enum ?_
      | refine wi_zip ?_
      | refine wi_ziprev ?_
      | refine wi_rev ?_
      | refine wi_keys (by exact rfl) (by assumption) ?_
      | refine wi_seq ?_)
    | (refine g_WItems ?_; first
      | refine wit_l ?_
      | refine wit_t ?_)
    | (refine g_WIs ?_; first
      | refine wis (by first | (dsimp only [List.set_cons_zero, List.set_cons_succ, wipeE, restore, List.getElem?_cons_zero, List.getElem?_cons_succ, setAt]; done) | exact rfl) ?_)
    | (refine g_WBig ?_; first
      | refine wbig (by exact Nat.le_of_ble_eq_true rfl) ?_)
    | (refine g_WNot ?_; first
      | refine wnot ?_)
    | (refine g_WBool ?_; first
      | refine wbool ?_)
    | (refine g_WRg1 ?_; first
      | refine wrg1 (by constructor <;> omega) ?_)
    | (refine g_WRg2 ?_; first
      | refine wrg2 (by refine ⟨?_, ?_, ?_, ?_⟩ <;> omega) ?_)
    | (refine g_WSeq ?_; first
      | refine wsq_l ?_
      | refine wsq_t ?_)
    | (refine g_WMut ?_; first
      | refine wmut_app (by exact rfl) (by exact Nat.le_of_ble_eq_true rfl) (by exact rfl) (by first | (dsimp only [List.set_cons_zero, List.set_cons_succ, wipeE, restore, List.getElem?_cons_zero, List.getElem?_cons_succ, setAt]; done) | exact rfl) ?_
      | refine wmut_mk (by exact rfl) (by exact rfl) (by exact rfl) (by first | (dsimp only [List.set_cons_zero, List.set_cons_succ, wipeE, restore, List.getElem?_cons_zero, List.getElem?_cons_succ, setAt]; done) | exact rfl) ?_)
    | (refine g_WExt ?_; first
      | refine wext (by exact rfl) (by exact Nat.le_of_ble_eq_true rfl) (by exact rfl) (by first | (dsimp only [List.set_cons_zero, List.set_cons_succ, wipeE, restore, List.getElem?_cons_zero, List.getElem?_cons_succ, setAt]; done) | exact rfl) ?_)
    | (refine g_WCut ?_; first
      | refine wc_no ?_
      | refine wc_yes ?_)
    | (refine g_WInt ?_; first
      | refine wint ?_)
    | (refine g_WSl ?_; first
      | refine wsl_t ?_
      | refine wsl_l ?_)
    | (refine g_WSub ?_; first
      | refine wsub_mk (by exact rfl) (by first | (dsimp only [List.set_cons_zero, List.set_cons_succ, wipeE, restore, List.getElem?_cons_zero, List.getElem?_cons_succ, setAt]; done) | exact rfl) ?_)
    | (refine g_WDic ?_; first
      | refine wdic (by exact rfl) (by exact rfl) (by exact rfl) ?_)))
/-! Laws of shares: the numbers drawn, the share told by the law itself. -/
variable {T : List Fn}
/-! ### a share in lowest terms -/
structure Shr (a b : Int) : Prop where
  pos : 0 < b
  cop : Int.gcd a b = 1
theorem shq_gcd_dvd (t b : Int) : ((Int.gcd t b : Nat) : Int) ∣ t ∧ ((Int.gcd t b : Nat) : Int) ∣ b := ⟨Int.gcd_dvd_left .., Int.gcd_dvd_right ..⟩
theorem shq_parts {t b : Int} (h : b ≠ 0) : t = shrT t b * (Int.gcd t b : Nat) ∧ b = shrB t b * (Int.gcd t b : Nat) := by
  have hg : 0 < Int.gcd t b := Int.gcd_pos_of_ne_zero_right t h
  have g0 : (0 : Int) ≤ (Int.gcd t b : Nat) := by omega
  obtain ⟨d1, d2⟩ := shq_gcd_dvd t b
  unfold shrT shrB
  rw [Int.fdiv_eq_ediv_of_nonneg _ g0, Int.fdiv_eq_ediv_of_nonneg _ g0]
  exact ⟨(Int.ediv_mul_cancel d1).symm, (Int.ediv_mul_cancel d2).symm⟩
theorem shq_ok {t b : Int} (h : 0 < b) : Shr (shrT t b) (shrB t b) := by
  have hg : 0 < Int.gcd t b := Int.gcd_pos_of_ne_zero_right t (by omega)
  obtain ⟨e1, e2⟩ := shq_parts (t := t) (show b ≠ 0 by omega)
  refine ⟨?_, ?_⟩
  · rw [e2] at h
    exact Int.pos_of_mul_pos_left h (by omega)
  · have : Int.gcd (shrT t b * (Int.gcd t b : Nat)) (shrB t b * (Int.gcd t b : Nat)) = Int.gcd (shrT t b) (shrB t b) * Int.gcd t b := by
      rw [Int.gcd_mul_right]
      simp
    rw [← e1, ← e2] at this
    exact Nat.eq_of_mul_eq_mul_right hg (by rw [Nat.one_mul]; exact this.symm)
theorem shq_cross {t b : Int} (h : 0 < b) : shrT t b * b = t * shrB t b := by
  obtain ⟨e1, e2⟩ := shq_parts (t := t) (show b ≠ 0 by omega)
  generalize Int.gcd t b = g at e1 e2
  calc shrT t b * b = shrT t b * (shrB t b * g) := by rw [← e2]
    _ = (shrT t b * g) * shrB t b := by rw [Int.mul_assoc, Int.mul_comm (g : Int)]
    _ = t * shrB t b := by rw [← e1]
theorem cop_dvd {a b d : Int} (h : Int.gcd a b = 1) (k : b ∣ a * d) : b ∣ d := by
  rw [← Int.natAbs_dvd_natAbs] at k ⊢
  rw [Int.natAbs_mul] at k
  exact Nat.Coprime.dvd_of_dvd_mul_left (by rw [Nat.coprime_comm]; exact h) k
theorem shq_eq {a b c d : Int} (h1 : Shr a b) (h2 : Shr c d) (h : a * d = c * b) : a = c ∧ b = d := by
  have k1 : b ∣ d := by
    have : b ∣ a * d := by rw [h]; exact Int.dvd_mul_left ..
    exact cop_dvd h1.cop this
  have k2 : d ∣ b := by
    have : d ∣ c * b := by rw [← h]; exact Int.dvd_mul_left ..
    exact cop_dvd h2.cop this
  have e := Int.dvd_antisymm (by have := h1.pos; omega) (by have := h2.pos; omega) k1 k2
  subst e
  exact ⟨Int.eq_of_mul_eq_mul_right (by have := h1.pos; omega) h, rfl⟩
/-- what is reckoned of two alike -/
theorem shq_same {t b t' b' : Int} (h : 0 < b) (h' : 0 < b') (e : t * b' = t' * b) : shrD t b = shrD t' b' := by
  have k := shq_eq (shq_ok (t := t) h) (shq_ok (t := t') h') (by
    have e1 := shq_cross (t := t) h
    have e2 := shq_cross (t := t') h'
    have : (shrT t b * shrB t' b') * (b * b') = (shrT t' b' * shrB t b) * (b * b') := by
      calc (shrT t b * shrB t' b') * (b * b') = (shrT t b * b) * (shrB t' b' * b') := by ac_rfl
        _ = (t * b') * (shrB t b * shrB t' b') := by rw [e1]; ac_rfl
        _ = (t' * b) * (shrB t b * shrB t' b') := by rw [e]
        _ = (t' * shrB t' b') * (shrB t b * b) := by ac_rfl
        _ = (shrT t' b' * b') * (shrB t b * b) := by rw [e2]
        _ = _ := by ac_rfl
    exact Int.eq_of_mul_eq_mul_right (by have := Int.mul_pos h h'; omega) this)
  unfold shrD
  rw [k.1, k.2]
/-- the share of any two numbers, the second not nought -/
def lowT (t b : Int) : Int := if b < 0 then 0 - t else t
def lowB (b : Int) : Int := if b < 0 then 0 - b else b
def lowD (t b : Int) : Tw.D := shrD (lowT t b) (lowB b)
theorem lowB_pos {b : Int} (h : b ≠ 0) : 0 < lowB b := by
  unfold lowB
  split <;> omega
theorem lowD_pos {t b : Int} (h : 0 < b) : lowD t b = shrD t b := by
  unfold lowD lowT lowB
  rw [if_neg (by omega), if_neg (by omega)]
/-! ### the law's own way -/
/-- _law_divisor(_law_one, _law_other); ; calls ; 2 of 2 -/
def b_divisorS : MSs :=
  (.cons (.asg 0 (.op .abs (.cons (.var 0) .nil))) (.cons (.asg 1 (.op .abs (.cons (.var 1) .nil))) (.cons (.while (.op .gt (.cons (.var 0) (.cons (.cst (.int 0)) .nil))) (.cons
    (.asgT (.tup (.cons (.name 0) (.cons (.name 1) .nil))) (.tup (.cons (.op .mod (.cons (.var 1) (.cons (.var 0) .nil))) (.cons (.var 0) .nil)))) .nil)) (.cons (.ret (.var 1))
    .nil))))
def DivisorSp (f : Fn) : Prop := ∀ (a b : Int), b ≠ 0 → PF f [.sh (.int a), .sh (.int b)] (.int (Int.gcd a b : Nat))
theorem divisorS_sp : DivisorSp (evalDef T 2 2 b_divisorS) := by
  intro a b hb
  refine pf_of rfl (by first | (dsimp only [List.cons_append, List.nil_append, Nat.reduceSub, Nat.reduceAdd, List.replicate_succ, List.replicate_zero]; done) | exact rfl) ?_
  unfold b_divisorS
  array_get_dec
  obtain ⟨a', ha, ha0⟩ : ∃ a' : Int, (if a < 0 then -a else a) = a' ∧ 0 ≤ a' := ⟨_, rfl, by split <;> omega⟩
  obtain ⟨b', hb', hb0⟩ : ∃ b' : Int, (if b < 0 then -b else b) = b' ∧ 0 < b' := ⟨_, rfl, by split <;> omega⟩
  have hg : Int.gcd a b = Int.gcd b' a' := by
    rw [← ha, ← hb', gcd_abs, Int.gcd_comm b, gcd_abs]
  rw [ha, hb', hg]
  refine wwhile (M := a'.toNat) (fun m s' => ∃ x y : Int, 0 ≤ x ∧ 0 < y ∧ x.toNat = m ∧ Int.gcd y x = Int.gcd b' a' ∧ s' = [.sh (.int x), .sh (.int y)]) ?_ ⟨a', b', ha0, hb0, rfl, rfl, rfl⟩
  rintro m s' ⟨x, y, h1, h2, h3, h4, rfl⟩
  array_get_dec
  refine wif_dec (fun z => ?_) fun z => ?_
  · have h0 : x ≠ 0 := by omega
    have f := fmod_in y z
    array_get_dec
    exact ⟨_, by omega, y.fmod x, x, f.1, by omega, rfl, by rw [gcd_fmod (by omega) z, h4], rfl⟩
  · array_get_dec
    have e : x = 0 := by omega
    subst e
    refine ⟨?_, rfl⟩
    have e2 : ((Int.gcd b' a' : Nat) : Int) = y := by
      rw [← h4, Int.gcd_zero_right]
      omega
    rw [e2]
/-- _law_lowest(_law_top, _law_bottom); _law_both; calls _law_divisor; 2 of 3 -/
def b_lowestS (k0 : Nat) : MSs :=
  (.cons (.asg 2 (.op .mul (.cons (.call k0 (.cons (.var 0) (.cons (.var 1) .nil))) (.cons (.op .sub (.cons (.cst (.int 1)) (.cons (.op .mul (.cons (.cst (.int 2)) (.cons (.op .int
    (.cons (.op .lt (.cons (.var 1) (.cons (.cst (.int 0)) .nil))) .nil)) .nil))) .nil))) .nil)))) (.cons (.ret (.tup (.cons (.op .fdiv (.cons (.var 0) (.cons (.var 2) .nil)))
    (.cons (.op .fdiv (.cons (.var 1) (.cons (.var 2) .nil))) .nil)))) .nil))
def LowestSp (f : Fn) : Prop := ∀ (t b : Int), b ≠ 0 → Bd b 5000 → PF f [.sh (.int t), .sh (.int b)] (lowD t b)
theorem lowestS_sp {k0 : Nat} {f0 : Fn} (h0 : T[k0]? = some f0) (n0 : DivisorSp f0) : LowestSp (evalDef T 2 3 (b_lowestS k0)) := by
  intro t b hb hB
  have hg : 0 < Int.gcd t b := Int.gcd_pos_of_ne_zero_right t hb
  have gb : Bd (Int.gcd t b : Nat) 5000 := ⟨by
    have h1 : Int.gcd t b ∣ b.natAbs := Int.gcd_dvd_natAbs_right t b
    have h2 := Nat.le_of_dvd (by omega) h1
    have := hB.h
    omega⟩
  refine pf_of rfl (by first | (dsimp only [List.cons_append, List.nil_append, Nat.reduceSub, Nat.reduceAdd, List.replicate_succ, List.replicate_zero]; done) | exact rfl) ?_
  unfold b_lowestS
  array_get_dec
  refine wapp_pf h0 (n0 t b hb) (by exact rfl) (by exact rfl) ?_
  array_get_dec
  obtain ⟨v, hv⟩ : ∃ v : Int, v = (Int.gcd t b : Nat) * (1 - 2 * (if b < 0 then (1 : Int) else 0)) := ⟨_, rfl⟩
  array_get_dec
  rw [← hv]
  have vv : v = (if b < 0 then - ((Int.gcd t b : Nat) : Int) else (Int.gcd t b : Nat)) := by
    rw [hv]
    split <;> omega
  have dv : divOk v = true := by
    rw [vv]
    split
    · exact divOk_bd (k := 5000) (by omega) rfl
    · exact divOk_bd (k := 5000) (by omega) rfl
  array_get_dec
  refine ⟨?_, rfl⟩
  unfold lowD shrD shrT shrB lowT lowB
  rw [vv]
  split
  · rename_i z
    have e : Int.gcd (0 - t) (0 - b) = Int.gcd t b := by
      rw [Int.zero_sub, Int.zero_sub, Int.neg_gcd, Int.gcd_neg]
    have g0 : ((Int.gcd t b : Nat) : Int) ≠ 0 := by omega
    rw [e, Int.zero_sub, Int.zero_sub, Int.fdiv_neg g0, Int.fdiv_neg g0, Int.neg_fdiv, Int.neg_fdiv]
    simp only [(shq_gcd_dvd t b).1, (shq_gcd_dvd t b).2, or_true, if_true, Int.sub_zero]
  · rfl
/-- _law_number(_law_pen_here); _law_way, _law_number_here; calls _law_draw; 1 of 3 -/
def b_numberS (k0 : Nat) : MSs :=
  (.cons (.asg 1 (.call k0 (.cons (.var 0) (.cons (.cst (.int 8)) .nil)))) (.cons (.ite (.op .gt (.cons (.var 1) (.cons (.cst (.int 5)) .nil))) (.cons (.asg 2 (.op .add (.cons (.op
    .mul (.cons (.call k0 (.cons (.var 0) (.cons (.op .pow (.cons (.cst (.int 10)) (.cons (.cst (.int 6)) .nil))) .nil))) (.cons (.op .pow (.cons (.cst (.int 10)) (.cons (.cst
    (.int 6)) .nil))) .nil))) (.cons (.call k0 (.cons (.var 0) (.cons (.op .pow (.cons (.cst (.int 10)) (.cons (.cst (.int 6)) .nil))) .nil))) .nil)))) (.cons (.ret (.op .mul
    (.cons (.op .add (.cons (.var 2) (.cons (.op .mul (.cons (.op .pow (.cons (.cst (.int 10)) (.cons (.cst (.int 29)) .nil))) (.cons (.op .sub (.cons (.var 1) (.cons (.cst (.int
    6)) .nil))) .nil))) .nil))) (.cons (.op .sub (.cons (.cst (.int 1)) (.cons (.op .mul (.cons (.cst (.int 2)) (.cons (.call k0 (.cons (.var 0) (.cons (.cst (.int 2)) .nil)))
    .nil))) .nil))) .nil)))) .nil)) .nil) (.cons (.ret (.op .sub (.cons (.call k0 (.cons (.var 0) (.cons (.op .idx (.cons (.lst (.cons (.cst (.int 7)) (.cons (.cst (.int 31))
    (.cons (.cst (.int 2000)) .nil)))) (.cons (.op .mod (.cons (.var 1) (.cons (.cst (.int 3)) .nil))) .nil))) .nil))) (.cons (.op .idx (.cons (.lst (.cons (.cst (.int 3)) (.cons
    (.cst (.int 15)) (.cons (.cst (.int 1000)) .nil)))) (.cons (.op .mod (.cons (.var 1) (.cons (.cst (.int 3)) .nil))) .nil))) .nil)))) .nil)))
/-- a number of at most c draws -/
def NumberSp (P : PenRel) (f : Fn) : Prop := ∀ (n : Int) (d : Tw.D), P.R n d → n + 4 < 2 ^ 28 → FS f [.inp d] fun v os => ∃ r d', v = .sh (.int r) ∧ os = [.inp d'] ∧ r.natAbs ≤ 10 ^ 29 + 10 ^ 12 ∧ P.R (n + 4) d'
theorem numberS_sp {P : PenRel} {k0 : Nat} {f0 : Fn} (h0 : T[k0]? = some f0) (n0 : DrawSp P f0) : NumberSp P (evalDef T 1 3 (b_numberS k0)) := by
  intro n d hd hn
  refine fs_of rfl (by first | (dsimp only [List.cons_append, List.nil_append, Nat.reduceSub, Nat.reduceAdd, List.replicate_succ, List.replicate_zero]; done) | exact rfl) ?_
  have _ : Bd ((10 : Int) ^ Int.toNat 6) 20 := ⟨by decide⟩
  have _ : Bd ((10 : Int) ^ Int.toNat 29) 97 := ⟨by decide⟩
  have e29 : (10 : Int) ^ Int.toNat 29 = 100000000000000000000000000000 := by decide
  have e6 : (10 : Int) ^ Int.toNat 6 = 1000000 := by decide
  unfold b_numberS
  array_get_dec
  refine wapp h0 (by exact rfl) (by first | exact List.nodup_nil | exact nd0 | exact nd1 | (simp only [slotsIn]; decide)) (FS.imp (n0 _ _ _ hd (by omega) (by decide) (by decide)) ?_)
  rintro _ _ ⟨w, d1, rfl, rfl, w0, w1, p1⟩
  refine wback_sh (by exact rfl) (by first | (dsimp only [List.set_cons_zero, List.set_cons_succ, wipeE, restore, List.getElem?_cons_zero, List.getElem?_cons_succ, setAt]; done) | exact rfl) ?_
  array_get_dec
  refine wif_dec (fun z => ?_) fun z => ?_
  · array_get_dec
    refine wapp h0 (by exact rfl) (by first | exact List.nodup_nil | exact nd0 | exact nd1 | (simp only [slotsIn]; decide)) (FS.imp (n0 _ _ _ p1 (by omega) (by decide) (by decide)) ?_)
    rintro _ _ ⟨x, d2, rfl, rfl, x0, x1, p2⟩
    refine wback_sh (by exact rfl) (by first | (dsimp only [List.set_cons_zero, List.set_cons_succ, wipeE, restore, List.getElem?_cons_zero, List.getElem?_cons_succ, setAt]; done) | exact rfl) ?_
    array_get_dec
    have x1 : x < 1000000 := x1
    have _ : Bd x 20 := ⟨by omega⟩
    array_get_dec
    refine wapp h0 (by exact rfl) (by first | exact List.nodup_nil | exact nd0 | exact nd1 | (simp only [slotsIn]; decide)) (FS.imp (n0 _ _ _ p2 (by omega) (by decide) (by decide)) ?_)
    rintro _ _ ⟨y, d3, rfl, rfl, y0, y1, p3⟩
    refine wback_sh (by exact rfl) (by first | (dsimp only [List.set_cons_zero, List.set_cons_succ, wipeE, restore, List.getElem?_cons_zero, List.getElem?_cons_succ, setAt]; done) | exact rfl) ?_
    array_get_dec
    have y1 : y < 1000000 := y1
    have _ : Bd w 4 := ⟨by omega⟩
    have _ : Bd y 20 := ⟨by omega⟩
    array_get_dec
    refine wapp h0 (by exact rfl) (by first | exact List.nodup_nil | exact nd0 | exact nd1 | (simp only [slotsIn]; decide)) (FS.imp (n0 _ _ _ p3 (by omega) (by decide) (by decide)) ?_)
    rintro _ _ ⟨q, d4, rfl, rfl, q0, q1, p4⟩
    refine wback_sh (by exact rfl) (by first | (dsimp only [List.set_cons_zero, List.set_cons_succ, wipeE, restore, List.getElem?_cons_zero, List.getElem?_cons_succ, setAt]; done) | exact rfl) ?_
    array_get_dec
    have p4 := P.mono p4 (show n + 1 + 1 + 1 + 1 ≤ n + 4 by omega)
    rcases (by omega : w = 6 ∨ w = 7) with rfl | rfl <;> rcases (by omega : q = 0 ∨ q = 1) with rfl | rfl <;> array_get_dec <;> exact ⟨_, _, rfl, rfl, by rw [e29, e6]; omega, p4⟩
  · obtain ⟨mo, hmo, m0, m1⟩ : ∃ mo : Int, Op.eval .idx [.list [.int 7, .int 31, .int 2000], .int (w.fmod 3)] = some (.int mo) ∧ 0 < mo ∧ mo ≤ 2000 := by
      rcases (by omega : w = 0 ∨ w = 1 ∨ w = 2 ∨ w = 3 ∨ w = 4 ∨ w = 5) with rfl | rfl | rfl | rfl | rfl | rfl <;> exact ⟨_, rfl, by decide, by decide⟩
    obtain ⟨co, hco, c0, c1⟩ : ∃ co : Int, Op.eval .idx [.list [.int 3, .int 15, .int 1000], .int (w.fmod 3)] = some (.int co) ∧ 0 ≤ co ∧ co ≤ 1000 := by
      rcases (by omega : w = 0 ∨ w = 1 ∨ w = 2 ∨ w = 3 ∨ w = 4 ∨ w = 5) with rfl | rfl | rfl | rfl | rfl | rfl <;> exact ⟨_, rfl, by decide, by decide⟩
    array_get_dec
    refine wo_mk hmo rfl ?_
    array_get_dec
    refine wapp h0 (by exact rfl) (by first | exact List.nodup_nil | exact nd0 | exact nd1 | (simp only [slotsIn]; decide)) (FS.imp (n0 _ _ _ p1 (by omega) m0 (divOk_small (by omega))) ?_)
    rintro _ _ ⟨x, d2, rfl, rfl, x0, x1, p2⟩
    refine wback_sh (by exact rfl) (by first | (dsimp only [List.set_cons_zero, List.set_cons_succ, wipeE, restore, List.getElem?_cons_zero, List.getElem?_cons_succ, setAt]; done) | exact rfl) ?_
    array_get_dec
    refine wo_mk hco rfl ?_
    array_get_dec
    exact ⟨_, _, rfl, rfl, by omega, P.mono p2 (by omega)⟩
/-- times(one, other); ; calls share; 2 of 2 -/
def b_timesS (k0 : Nat) : MSs :=
  (.cons (.ret (.call k0 (.cons (.op .mul (.cons (.op .idx (.cons (.var 0) (.cons (.cst (.int 0)) .nil))) (.cons (.op .idx (.cons (.var 1) (.cons (.cst (.int 0)) .nil))) .nil)))
    (.cons (.op .mul (.cons (.op .idx (.cons (.var 0) (.cons (.cst (.int 1)) .nil))) (.cons (.op .idx (.cons (.var 1) (.cons (.cst (.int 1)) .nil))) .nil))) .nil)))) .nil)
def TimesSp (f : Fn) : Prop := ∀ (a b c d : Int), 0 < b → 0 < d → Bd a 2400 → Bd b 2400 → Bd c 2400 → Bd d 2400 → PF f [.sh (.tuple [.int a, .int b]), .sh (.tuple [.int c, .int d])] (shrD (a * c) (b * d))
theorem timesS_sp {k0 : Nat} {f0 : Fn} (h0 : T[k0]? = some f0) (n0 : ShareSp f0) : TimesSp (evalDef T 2 2 (b_timesS k0)) := by
  intro a b c d hb hd _ _ _ _
  refine pf_of rfl (by first | (dsimp only [List.cons_append, List.nil_append, Nat.reduceSub, Nat.reduceAdd, List.replicate_succ, List.replicate_zero]; done) | exact rfl) ?_
  unfold b_timesS
  array_get_dec
  refine wapp_pf h0 (n0 (a * c) (b * d) (Int.mul_pos hb hd) ((inferInstance : Bd (b * d) _).to rfl)) (by exact rfl) (by exact rfl) ?_
  array_get_dec
  exact ⟨rfl, rfl⟩

end Lb

set_option linter.all false
set_option maxRecDepth 100000
set_option maxHeartbeats 4000000
set_option autoImplicit false
namespace Lb
open PySem Tw
local macro_rules
  | `(tactic| array_get_dec) => `(tactic| repeat (first
    | (refine g_WE ?_; first
      | refine we_cst ?_
      | refine we_sh (by exact rfl) ?_
      | refine we_own (by exact rfl) ?_
      | refine we_inp (by exact rfl) ?_
      | refine we_ins (by exact rfl) ?_
      | refine we_op2 ?_
      | refine we_op1 ?_
      | refine we_dic ?_
      | refine we_tup ?_
      | refine we_lst ?_
      | refine we_not ?_
      | refine we_or ?_
      | refine we_and ?_
      | refine we_chain ?_
      | refine we_chain3 ?_
      | refine we_slc ?_
      | refine we_call ?_
      | refine we_comp ?_)
    | (refine g_WOp ?_; first
      | refine wo_abs ?_
      | with_reducible refine wo_eqsame (by exact shaped_cl rfl) ?_
      | with_reducible refine wo_nesame (by exact shaped_cl rfl) ?_
      | refine wo_neS ?_
      | refine wo_eqS ?_
      | refine wo_neI ?_
      | refine wo_eqI ?_
      | refine wo_intB ?_
      | refine wo_max2 ?_
      | refine wo_pick2I ?_
      | refine wo_min2 ?_
      | refine wo_mul (by first | exact mulOk_bd rfl | assumption) ?_
      | refine wo_mulT (by refine ⟨?_, ?_, ?_⟩ <;> first | omega | (simp only [List.length_nil, List.length_cons]; omega)) ?_
      | refine wo_fdiv (by first | exact divOk_bd (by decide) rfl | assumption) ?_
      | refine wo_mod (by first | decide | assumption) ?_
      | refine wo_pow (by decide) ?_
      | refine wo_repr (by first | exact reprI_bd rfl | assumption | exact repr_rgT (by omega) | exact repr_rgL (by omega) | exact repr_rp rfl) ?_
      | refine wo_str (by assumption) ?_
      | refine wo_addL (by exact Nat.le_of_ble_eq_true rfl) ?_
      | refine wo_addT (by exact Nat.le_of_ble_eq_true rfl) ?_
      | refine wo_lrange (by first | assumption | exact rgOk_by (by omega)) ?_
      | refine wo_trange (by first | assumption | exact rgOk_by (by omega)) ?_
      | refine wo_rgLm (by omega) ?_
      | refine wo_rgTm (by omega) ?_
      | refine wo_rgL (by omega) ?_
      | refine wo_rgT (by omega) ?_
      | with_reducible refine wo_lenrgL (by omega) ?_
      | with_reducible refine wo_lenrgT (by omega) ?_
      | refine wo_sortI ?_
      | refine wo_sumL ?_
      | refine wo_sumT ?_
      | refine wo_lenT ?_
      | refine wo_lenL ?_
      | refine wo_mk (by exact rfl) (by exact rfl) ?_
      | refine wo_mkO (by exact rfl) (by exact rfl) ?_)
    | (refine g_WLook ?_; first
      | refine wl_sh ?_
      | refine wl_own ?_
      | refine wl_slot (by exact rfl) ?_)
    | (refine g_WB ?_; first
      | refine wb_asg ?_
      | refine wb_asgT ?_
      | refine wb_ret ?_
      | refine wb_retN ?_
      | refine wb_ite ?_
      | refine wb_expr ?_
      | refine wb_mut (by exact rfl) ?_
      | refine wb_ext (by exact rfl) ?_
      | refine wb_for ?_
      | refine wb_while ?_
      | refine wb_pass ?_
      | refine wb_brk ?_
      | refine wb_cont ?_
      | refine wb_nil ?_)
    | (refine g_WAsg ?_; first
      | refine wasg_sh ?_
      | refine wasg_own ?_
      | refine wasg_slot (by exact rfl) ?_
      | refine wasg_move (by exact rfl) ?_)
    | (refine g_WBind ?_; first
      | refine wbind (by exact rfl) (by first | exact rfl | assumption) (by first | (dsimp only [List.set_cons_zero, List.set_cons_succ, wipeE, restore, List.getElem?_cons_zero, List.getElem?_cons_succ, setAt]; done) | exact rfl) ?_)
    | (refine g_WEs ?_; first
      | refine wes_cons ?_
      | refine wes_nil ?_)
    | (refine g_WIf ?_; first
      | with_reducible refine wif_nesame ?_
      | with_reducible refine wif_eqsame ?_
      | refine wif_t (by exact rfl) ?_
      | refine wif_f (by exact rfl) ?_)
    | (refine g_WTake ?_; first
      | refine wt_sh ?_
      | refine wt_own ?_
      | refine wt_slot (by exact rfl) (by first | (dsimp only [List.set_cons_zero, List.set_cons_succ, wipeE, restore, List.getElem?_cons_zero, List.getElem?_cons_succ, setAt]; done) | exact rfl) ?_)
    | (refine g_WT ?_; first
      | refine wt_name ?_
      | refine wt_tup ?_
      | refine wt_tupL ?_
      | refine wt_sub (by exact rfl) ?_)
    | (refine g_WTT ?_; first
      | refine wtt_cons ?_
      | refine wtt_nil ?_)
    | (refine g_WTs ?_; first
      | refine wts_cons ?_
      | refine wts_nil ?_)
    | (refine g_WRet ?_; first
      | refine wret_sh ?_
      | refine wret_own ?_
      | refine wret_slot (by exact rfl) (by first | (dsimp only [List.set_cons_zero, List.set_cons_succ, wipeE, restore, List.getElem?_cons_zero, List.getElem?_cons_succ, setAt]; done) | exact rfl) ?_)
    | (refine g_WI ?_; first
      | refine wi_range1 ?_
      | refine wi_range2 ?_
      | refine wi_enum ?_
      | refine wi_zip ?_
      | refine wi_ziprev ?_
      | refine wi_rev ?_
      | refine wi_keys (by exact rfl) (by assumption) ?_
      | refine wi_seq ?_)
    | (refine g_WItems ?_; first
      | refine wit_l ?_
      | refine wit_t ?_)
    | (refine g_WIs ?_; first
      | refine wis (by first | (dsimp only [List.set_cons_zero, List.set_cons_succ, wipeE, restore, List.getElem?_cons_zero, List.getElem?_cons_succ, setAt]; done) | exact rfl) ?_)
    | (refine g_WBig ?_; first
      | refine wbig (by exact Nat.le_of_ble_eq_true rfl) ?_)
    | (refine g_WNot ?_; first
      | refine wnot ?_)
    | (refine g_WBool ?_; first
      | refine wbool ?_)
    | (refine g_WRg1 ?_; first
      | refine wrg1 (by constructor <;> omega) ?_)
    | (refine g_WRg2 ?_; first
      | refine wrg2 (by refine ⟨?_, ?_, ?_, ?_⟩ <;> omega) ?_)
    | (refine g_WSeq ?_; first
      | refine wsq_l ?_
      | refine wsq_t ?_)
    | (refine g_WMut ?_; first
      | refine wmut_app (by exact rfl) (by exact Nat.le_of_ble_eq_true rfl) (by exact rfl) (by first | (dsimp only [List.set_cons_zero, List.set_cons_succ, wipeE, restore, List.getElem?_cons_zero, List.getElem?_cons_succ, setAt]; done) | exact rfl) ?_
      | refine wmut_mk (by exact rfl) (by exact rfl) (by exact rfl) (by first | (dsimp only [List.set_cons_zero, List.set_cons_succ, wipeE, restore, List.getElem?_cons_zero, List.getElem?_cons_succ, setAt]; done) | exact rfl) ?_)
    | (refine g_WExt ?_; first
      | refine wext (by exact rfl) (by exact Nat.le_of_ble_eq_true rfl) (by exact rfl) (by first | (dsimp only [List.set_cons_zero, List.set_cons_succ, wipeE, restore, List.getElem?_cons_zero, List.getElem?_cons_succ, setAt]; done) | exact rfl) ?_)
    | (refine g_WCut ?_; first
      | refine wc_no ?_
      | refine wc_yes ?_)
    | (refine g_WInt ?_; first
      | refine wint ?_)
    | (refine g_WSl ?_; first
      | refine wsl_t ?_
      | refine wsl_l ?_)
    | (refine g_WSub ?_; first
      | refine wsub_mk (by exact rfl) (by first | (dsimp only [List.set_cons_zero, List.set_cons_succ, wipeE, restore, List.getElem?_cons_zero, List.getElem?_cons_succ, setAt]; done) | exact rfl) ?_)
    | (refine g_WDic ?_; first
      | refine wdic (by exact rfl) (by exact rfl) (by exact rfl) ?_)))
/-! Shares, put together. -/
variable {T : List Fn}
abbrev prD (p : Int × Int) : Tw.D := .tuple [.int p.1, .int p.2]
structure ShP (p : Int × Int) : Prop where
  s : Shr p.1 p.2
  b1 : Bd p.1 97
  b2 : Bd p.2 97
theorem shP_of {t b : Int} (h : 0 < b) (h1 : Bd t 97) (h2 : Bd b 97) : ShP (shrT t b, shrB t b) := ⟨shq_ok h, shrT_bd h h1, shrB_bd h h2⟩
theorem shP_one {t : Int} (h : Bd t 97) : ShP (t, 1) := ⟨⟨by show (0 : Int) < 1; decide, by simp⟩, h, ⟨by show (1 : Int).natAbs < 2 ^ 97; decide⟩⟩
/-- _law_share(_law_pen_here); _law_way; calls _law_draw, _law_number, _law_lowest; 1 of 2 -/
def b_share03 (k0 k1 k2 : Nat) : MSs :=
  (.cons (.asg 1 (.call k0 (.cons (.var 0) (.cons (.cst (.int 6)) .nil)))) (.cons (.ite (.op .eq (.cons (.var 1) (.cons (.cst (.int 0)) .nil))) (.cons (.ret (.tup (.cons (.cst (.int
    0)) (.cons (.cst (.int 1)) .nil)))) .nil) .nil) (.cons (.ite (.op .eq (.cons (.var 1) (.cons (.cst (.int 1)) .nil))) (.cons (.ret (.tup (.cons (.call k1 (.cons (.var 0) .nil))
    (.cons (.cst (.int 1)) .nil)))) .nil) .nil) (.cons (.ret (.call k2 (.cons (.call k1 (.cons (.var 0) .nil)) (.cons (.op .add (.cons (.op .abs (.cons (.call k1 (.cons (.var 0)
    .nil)) .nil)) (.cons (.cst (.int 1)) .nil))) .nil)))) .nil))))
def Share03Sp (P : PenRel) (f : Fn) : Prop := ∀ (n : Int) (d : Tw.D), P.R n d → n + 10 < 2 ^ 28 → FS f [.inp d] fun v os => ∃ (p : Int × Int) (d' : Tw.D), v = .sh (prD p) ∧ os = [.inp d'] ∧ ShP p ∧ P.R (n + 10) d'
theorem share03_sp {P : PenRel} {k0 k1 k2 : Nat} {f0 f1 f2 : Fn} (h0 : T[k0]? = some f0) (n0 : DrawSp P f0) (h1 : T[k1]? = some f1) (n1 : NumberSp P f1) (h2 : T[k2]? = some f2) (n2 : LowestSp f2) : Share03Sp P (evalDef T 1 2 (b_share03 k0 k1 k2)) := by
  intro n d hd hn
  refine fs_of rfl (by first | (dsimp only [List.cons_append, List.nil_append, Nat.reduceSub, Nat.reduceAdd, List.replicate_succ, List.replicate_zero]; done) | exact rfl) ?_
  unfold b_share03
  array_get_dec
  refine wapp h0 (by exact rfl) (by first | exact List.nodup_nil | exact nd0 | exact nd1 | (simp only [slotsIn]; decide)) (FS.imp (n0 _ _ _ hd (by omega) (by decide) (by decide)) ?_)
  rintro _ _ ⟨w, d1, rfl, rfl, w0, w1, p1⟩
  refine wback_sh (by exact rfl) (by first | (dsimp only [List.set_cons_zero, List.set_cons_succ, wipeE, restore, List.getElem?_cons_zero, List.getElem?_cons_succ, setAt]; done) | exact rfl) ?_
  array_get_dec
  refine wif_dec (fun z => ?_) fun z => ?_
  · array_get_dec
    exact ⟨(0, 1), d1, rfl, rfl, shP_one ⟨by decide⟩, P.mono p1 (by omega)⟩
  · array_get_dec
    refine wif_dec (fun z2 => ?_) fun z2 => ?_
    · array_get_dec
      refine wapp h1 (by exact rfl) (by first | exact List.nodup_nil | exact nd0 | exact nd1 | (simp only [slotsIn]; decide)) (FS.imp (n1 _ _ p1 (by omega)) ?_)
      rintro _ _ ⟨t, d2, rfl, rfl, ht, p2⟩
      refine wback_sh (by exact rfl) (by first | (dsimp only [List.set_cons_zero, List.set_cons_succ, wipeE, restore, List.getElem?_cons_zero, List.getElem?_cons_succ, setAt]; done) | exact rfl) ?_
      array_get_dec
      exact ⟨(t, 1), d2, rfl, rfl, shP_one ⟨by omega⟩, P.mono p2 (by omega)⟩
    · array_get_dec
      refine wapp h1 (by exact rfl) (by first | exact List.nodup_nil | exact nd0 | exact nd1 | (simp only [slotsIn]; decide)) (FS.imp (n1 _ _ p1 (by omega)) ?_)
      rintro _ _ ⟨t, d2, rfl, rfl, ht, p2⟩
      refine wback_sh (by exact rfl) (by first | (dsimp only [List.set_cons_zero, List.set_cons_succ, wipeE, restore, List.getElem?_cons_zero, List.getElem?_cons_succ, setAt]; done) | exact rfl) ?_
      array_get_dec
      refine wapp h1 (by exact rfl) (by first | exact List.nodup_nil | exact nd0 | exact nd1 | (simp only [slotsIn]; decide)) (FS.imp (n1 _ _ p2 (by omega)) ?_)
      rintro _ _ ⟨b, d3, rfl, rfl, hb, p3⟩
      refine wback_sh (by exact rfl) (by first | (dsimp only [List.set_cons_zero, List.set_cons_succ, wipeE, restore, List.getElem?_cons_zero, List.getElem?_cons_succ, setAt]; done) | exact rfl) ?_
      array_get_dec
      obtain ⟨c, hc⟩ : ∃ c : Int, c = (if b < 0 then -b else b) + 1 := ⟨_, rfl⟩
      rw [← hc]
      have c1 : 0 < c ∧ c.natAbs ≤ 10 ^ 29 + 10 ^ 12 + 1 := by
        rw [hc]
        split <;> omega
      have cB : Bd c 97 := ⟨by omega⟩
      have tB : Bd t 97 := ⟨by omega⟩
      have e := n2 t c (by omega) (cB.to rfl)
      rw [lowD_pos c1.1] at e
      refine wapp_pf h2 (e) (by exact rfl) (by exact rfl) ?_
      array_get_dec
      exact ⟨(shrT t c, shrB t c), d3, rfl, rfl, shP_of c1.1 tB cB, P.mono p3 (by omega)⟩
theorem ediv_bd {a g : Int} {k : Nat} (h : Bd a k) (hg : 0 < g) : Bd (a / g) k := ⟨by
  have h1 : (a / g).natAbs ≤ a.natAbs := by
    have := Int.natAbs_ediv_le_natAbs a g
    exact this
  exact Nat.lt_of_le_of_lt h1 h.h⟩
/-- _law_sum(_law_one, _law_other); _law_both, _law_bottom; calls _law_divisor, _law_lowest; 2 of 4 -/
def b_sum03 (k0 k1 : Nat) : MSs :=
  (.cons (.asg 2 (.call k0 (.cons (.op .idx (.cons (.var 0) (.cons (.cst (.int 1)) .nil))) (.cons (.op .idx (.cons (.var 1) (.cons (.cst (.int 1)) .nil))) .nil)))) (.cons (.asg 3
    (.op .mul (.cons (.op .fdiv (.cons (.op .idx (.cons (.var 0) (.cons (.cst (.int 1)) .nil))) (.cons (.var 2) .nil))) (.cons (.op .idx (.cons (.var 1) (.cons (.cst (.int 1))
    .nil))) .nil)))) (.cons (.ret (.call k1 (.cons (.op .add (.cons (.op .mul (.cons (.op .idx (.cons (.var 0) (.cons (.cst (.int 0)) .nil))) (.cons (.op .fdiv (.cons (.var 3)
    (.cons (.op .idx (.cons (.var 0) (.cons (.cst (.int 1)) .nil))) .nil))) .nil))) (.cons (.op .mul (.cons (.op .idx (.cons (.var 1) (.cons (.cst (.int 0)) .nil))) (.cons (.op
    .fdiv (.cons (.var 3) (.cons (.op .idx (.cons (.var 1) (.cons (.cst (.int 1)) .nil))) .nil))) .nil))) .nil))) (.cons (.var 3) .nil)))) .nil)))
def Sum03Sp (f : Fn) : Prop := ∀ (p q : Int × Int), ShP p → ShP q → PF f [.sh (prD p), .sh (prD q)] (shrD (p.1 * q.2 + q.1 * p.2) (p.2 * q.2))
theorem sum03_sp {k0 k1 : Nat} {f0 f1 : Fn} (h0 : T[k0]? = some f0) (n0 : DivisorSp f0) (h1 : T[k1]? = some f1) (n1 : LowestSp f1) : Sum03Sp (evalDef T 2 4 (b_sum03 k0 k1)) := by
  rintro ⟨a, b⟩ ⟨c, d⟩ ⟨⟨hb, _⟩, ba, bb⟩ ⟨⟨hd, _⟩, bc, bd⟩
  simp only at hb ba bb hd bc bd ⊢
  have hg : 0 < Int.gcd b d := Int.gcd_pos_of_ne_zero_right b (by omega)
  obtain ⟨g, hgv⟩ : ∃ g : Int, g = (Int.gcd b d : Nat) := ⟨_, rfl⟩
  have g0 : 0 < g := by omega
  obtain ⟨B, hB⟩ : ∃ B, b = B * g := ⟨b / g, by rw [hgv]; exact (Int.ediv_mul_cancel (Int.gcd_dvd_left ..)).symm⟩
  obtain ⟨D, hD⟩ : ∃ D, d = D * g := ⟨d / g, by rw [hgv]; exact (Int.ediv_mul_cancel (Int.gcd_dvd_right ..)).symm⟩
  have B0 : 0 < B := by rw [hB] at hb; exact Int.pos_of_mul_pos_left hb (by omega)
  have D0 : 0 < D := by rw [hD] at hd; exact Int.pos_of_mul_pos_left hd (by omega)
  have e1 : b.fdiv g = B := by rw [Int.fdiv_eq_ediv_of_nonneg _ (by omega), hB, Int.mul_ediv_cancel _ (by omega)]
  have e2 : (B * d).fdiv b = D := by rw [Int.fdiv_eq_ediv_of_nonneg _ (by omega), hD, hB, show B * (D * g) = D * (B * g) by ac_rfl, Int.mul_ediv_cancel _ (by have := Int.mul_pos B0 g0; omega)]
  have e3 : (B * d).fdiv d = B := by rw [Int.fdiv_eq_ediv_of_nonneg _ (by omega), Int.mul_ediv_cancel _ (by omega)]
  have gB : Bd g 97 := ⟨by
    have := Nat.le_of_dvd (by omega) (Int.gcd_dvd_natAbs_left b d)
    have := bb.h
    omega⟩
  have BB : Bd B 97 := by
    have := ediv_bd bb g0
    rwa [show b / g = B by rw [hB, Int.mul_ediv_cancel _ (by omega)]] at this
  have DB : Bd D 97 := by
    have := ediv_bd bd g0
    rwa [show d / g = D by rw [hD, Int.mul_ediv_cancel _ (by omega)]] at this
  have n1' := n1 (a * D + c * B) (B * d) (by have := Int.mul_pos B0 hd; omega) ((inferInstance : Bd (B * d) _).to rfl)
  rw [lowD_pos (Int.mul_pos B0 hd)] at n1'
  rw [show shrD (a * D + c * B) (B * d) = shrD (a * d + c * b) (b * d) from shq_same (Int.mul_pos B0 hd) (Int.mul_pos hb hd) (by
    rw [Int.add_mul, Int.add_mul]
    congr 1
    · rw [hB, hD]; ac_rfl
    · rw [hB, hD]; ac_rfl)] at n1'
  have n0' := n0 b d (by omega)
  rw [← hgv] at n0'
  have dg : divOk g = true := divOk_bd (by omega) rfl
  have db : divOk b = true := divOk_bd (by omega) rfl
  have dd : divOk d = true := divOk_bd (by omega) rfl
  refine pf_of rfl (by first | (dsimp only [List.cons_append, List.nil_append, Nat.reduceSub, Nat.reduceAdd, List.replicate_succ, List.replicate_zero]; done) | exact rfl) ?_
  unfold b_sum03
  array_get_dec
  refine wapp_pf h0 (n0') (by exact rfl) (by exact rfl) ?_
  array_get_dec
  rw [e1]
  array_get_dec
  rw [e2]
  array_get_dec
  rw [e3]
  array_get_dec
  refine wapp_pf h1 (n1') (by exact rfl) (by exact rfl) ?_
  array_get_dec
  exact ⟨rfl, rfl⟩
theorem big_shr {t b : Int} (hb : 0 < b) (h1 : Bd t 2400) (h2 : Bd b 2400) : bigPair (shrD t b) = true := by
  have k : ∀ {x : Int}, Bd x 2400 → x.natAbs.log2 < 12000 := fun {x} h => by
    by_cases z : x.natAbs = 0
    · rw [z]; decide
    · exact Nat.lt_trans ((Nat.log2_lt z).mpr h.h) (by decide)
  unfold shrD bigPair
  rw [Bool.and_eq_true, decide_eq_true_eq, decide_eq_true_eq]
  exact ⟨k (shrT_bd hb h1), k (shrB_bd hb h2)⟩
/-- _law_right(_law_one, _law_other); _law_kept, _law_total, _law_product, _law_first, _law_second; calls _law_sum, _law_lowest, plus, times; 2 of 7 -/
def b_right03 (k0 k1 k2 k3 : Nat) : MSs :=
  (.cons (.asg 2 (.op .repr (.cons (.lst (.cons (.var 0) (.cons (.var 1) .nil))) .nil))) (.cons (.asg 3 (.op .repr (.cons (.call k0 (.cons (.var 0) (.cons (.var 1) .nil))) .nil)))
    (.cons (.asg 4 (.op .repr (.cons (.call k1 (.cons (.op .mul (.cons (.op .idx (.cons (.var 0) (.cons (.cst (.int 0)) .nil))) (.cons (.op .idx (.cons (.var 1) (.cons (.cst (.int
    0)) .nil))) .nil))) (.cons (.op .mul (.cons (.op .idx (.cons (.var 0) (.cons (.cst (.int 1)) .nil))) (.cons (.op .idx (.cons (.var 1) (.cons (.cst (.int 1)) .nil))) .nil)))
    .nil))) .nil))) (.cons (.for (.tup (.cons (.name 5) (.cons (.name 6) .nil))) (.seq (.tup (.cons (.tup (.cons (.var 0) (.cons (.var 1) .nil))) (.cons (.tup (.cons (.var 1)
    (.cons (.var 0) .nil))) .nil)))) (.cons (.ite (.or (.op .ne (.cons (.op .repr (.cons (.call k2 (.cons (.var 5) (.cons (.var 6) .nil))) .nil)) (.cons (.var 3) .nil))) (.op .ne
    (.cons (.op .repr (.cons (.call k3 (.cons (.var 5) (.cons (.var 6) .nil))) .nil)) (.cons (.var 4) .nil)))) (.cons (.ret (.cst (.bool false))) .nil) .nil) .nil)) (.cons (.ret
    (.op .eq (.cons (.op .repr (.cons (.lst (.cons (.var 0) (.cons (.var 1) .nil))) .nil)) (.cons (.var 2) .nil)))) .nil)))))
def Right03Sp (f : Fn) : Prop := ∀ (p q : Int × Int), ShP p → ShP q → PF f [.sh (prD p), .sh (prD q)] (.bool true)
theorem right03_sp {k0 k1 k2 k3 : Nat} {f0 f1 f2 f3 : Fn} (h0 : T[k0]? = some f0) (n0 : Sum03Sp f0) (h1 : T[k1]? = some f1) (n1 : LowestSp f1) (h2 : T[k2]? = some f2) (n2 : PlusSp f2) (h3 : T[k3]? = some f3) (n3 : TimesSp f3) : Right03Sp (evalDef T 2 7 (b_right03 k0 k1 k2 k3)) := by
  rintro ⟨a, b⟩ ⟨c, d⟩ hp hq
  obtain ⟨⟨hb, _⟩, ba, bb⟩ := id hp
  obtain ⟨⟨hd, _⟩, bc, bd⟩ := id hq
  simp only at hb ba bb hd bc bd ⊢
  have hbd := Int.mul_pos hb hd
  have n0' := n0 (a, b) (c, d) hp hq
  simp only at n0'
  have n1' := n1 (a * c) (b * d) (by omega) ((inferInstance : Bd (b * d) _).to rfl)
  rw [lowD_pos hbd] at n1'
  have n2a := n2 a b c d hb hd (ba.to rfl) (bb.to rfl) (bc.to rfl) (bd.to rfl)
  have n2b := n2 c d a b hd hb (bc.to rfl) (bd.to rfl) (ba.to rfl) (bb.to rfl)
  rw [show shrD (c * b + a * d) (d * b) = shrD (a * d + c * b) (b * d) by rw [Int.add_comm, Int.mul_comm d b]] at n2b
  have n3a := n3 a b c d hb hd (ba.to rfl) (bb.to rfl) (bc.to rfl) (bd.to rfl)
  have n3b := n3 c d a b hd hb (bc.to rfl) (bd.to rfl) (ba.to rfl) (bb.to rfl)
  rw [show shrD (c * a) (d * b) = shrD (a * c) (b * d) by rw [Int.mul_comm c a, Int.mul_comm d b]] at n3b
  have r1 := big_shr (t := a * d + c * b) hbd ((inferInstance : Bd (a * d + c * b) _).to rfl) ((inferInstance : Bd (b * d) _).to rfl)
  have r2 := big_shr (t := a * c) hbd ((inferInstance : Bd (a * c) _).to rfl) ((inferInstance : Bd (b * d) _).to rfl)
  obtain ⟨X, hX⟩ : ∃ X, X = shrD (a * d + c * b) (b * d) := ⟨_, rfl⟩
  obtain ⟨Y, hY⟩ : ∃ Y, Y = shrD (a * c) (b * d) := ⟨_, rfl⟩
  rw [← hX] at n0' n2a n2b r1
  rw [← hY] at n1' n3a n3b r2
  refine pf_of rfl (by first | (dsimp only [List.cons_append, List.nil_append, Nat.reduceSub, Nat.reduceAdd, List.replicate_succ, List.replicate_zero]; done) | exact rfl) ?_
  unfold b_right03
  array_get_dec
  refine wapp_pf h0 (n0') (by exact rfl) (by exact rfl) ?_
  array_get_dec
  refine wo_reprB r1 ?_
  array_get_dec
  refine wapp_pf h1 (n1') (by exact rfl) (by exact rfl) ?_
  array_get_dec
  refine wo_reprB r2 ?_
  array_get_dec
  refine wfor_cons ?_
  array_get_dec
  refine wapp_pf h2 (n2a) (by exact rfl) (by exact rfl) ?_
  array_get_dec
  refine wo_reprB r1 ?_
  array_get_dec
  refine wapp_pf h3 (n3a) (by exact rfl) (by exact rfl) ?_
  array_get_dec
  refine wo_reprB r2 ?_
  array_get_dec
  refine wfor_cons ?_
  array_get_dec
  refine wapp_pf h2 (n2b) (by exact rfl) (by exact rfl) ?_
  array_get_dec
  refine wo_reprB r1 ?_
  array_get_dec
  refine wapp_pf h3 (n3b) (by exact rfl) (by exact rfl) ?_
  array_get_dec
  refine wo_reprB r2 ?_
  array_get_dec
  refine wfor_nil ?_
  array_get_dec
  exact ⟨by rw [decide_eq_true rfl], rfl⟩
/-! ### a row of shares -/
/-- the product of the bottoms -/
def botP : List (Int × Int) → Int
  | [] => 1
  | p :: r => botP r * p.2
/-- the product of the tops -/
def topP : List (Int × Int) → Int
  | [] => 1
  | p :: r => topP r * p.1
def sumP (C : Int) (xs : List (Int × Int)) : Int := (xs.map fun p => p.1 * C.fdiv p.2).sum
theorem botP_app (a : List (Int × Int)) : ∀ b : List (Int × Int), botP (b ++ a) = botP a * botP b
  | [] => by simp [botP]
  | p :: r => by rw [List.cons_append, botP, botP_app a r, botP, Int.mul_assoc]
theorem topP_app (a : List (Int × Int)) : ∀ b : List (Int × Int), topP (b ++ a) = topP a * topP b
  | [] => by simp [topP]
  | p :: r => by rw [List.cons_append, topP, topP_app a r, topP, Int.mul_assoc]
theorem botP_snoc (a : List (Int × Int)) (p : Int × Int) : botP (a ++ [p]) = botP a * p.2 := by
  rw [botP_app, botP, botP, Int.one_mul, Int.mul_comm]
theorem topP_snoc (a : List (Int × Int)) (p : Int × Int) : topP (a ++ [p]) = topP a * p.1 := by
  rw [topP_app, topP, topP, Int.one_mul, Int.mul_comm]
theorem botP_rev : ∀ xs : List (Int × Int), botP xs.reverse = botP xs
  | [] => rfl
  | p :: r => by rw [List.reverse_cons, botP_snoc, botP_rev r, botP]
theorem topP_rev : ∀ xs : List (Int × Int), topP xs.reverse = topP xs
  | [] => rfl
  | p :: r => by rw [List.reverse_cons, topP_snoc, topP_rev r, topP]
theorem botP_pos : ∀ {xs : List (Int × Int)}, (∀ p ∈ xs, ShP p) → 0 < botP xs
  | [], _ => by decide
  | p :: r, h => Int.mul_pos (botP_pos fun q m => h q (by simp [m])) (h p (by simp)).s.pos
theorem botP_dvd : ∀ {xs : List (Int × Int)} {p : Int × Int}, p ∈ xs → p.2 ∣ botP xs
  | q :: r, p, m => by
    rw [botP]
    rcases List.mem_cons.mp m with rfl | m
    · exact Int.dvd_mul_left ..
    · exact Int.dvd_trans (botP_dvd m) (Int.dvd_mul_right ..)
theorem botP_bd : ∀ {xs : List (Int × Int)}, (∀ p ∈ xs, ShP p) → Bd (botP xs) (97 * xs.length + 1)
  | [], _ => ⟨by decide⟩
  | p :: r, h => by
    have := botP_bd fun q m => h q (List.mem_cons_of_mem p m)
    have := (h p (by simp)).b2
    exact ⟨(inferInstance : Bd (botP r * p.2) _).up (by rw [List.length_cons]; omega)⟩
theorem topP_bd : ∀ {xs : List (Int × Int)}, (∀ p ∈ xs, ShP p) → Bd (topP xs) (97 * xs.length + 1)
  | [], _ => ⟨by decide⟩
  | p :: r, h => by
    have := topP_bd fun q m => h q (List.mem_cons_of_mem p m)
    have := (h p (by simp)).b1
    exact ⟨(inferInstance : Bd (topP r * p.1) _).up (by rw [List.length_cons]; omega)⟩
theorem sumP_mul {C e : Int} : ∀ {xs : List (Int × Int)}, (∀ p ∈ xs, 0 < p.2 ∧ p.2 ∣ C) → sumP (C * e) xs = e * sumP C xs
  | [], _ => by simp [sumP]
  | p :: r, h => by
    have ih := sumP_mul (C := C) (e := e) fun q m => h q (List.mem_cons_of_mem p m)
    obtain ⟨h1, c, hc⟩ := h p (by simp)
    unfold sumP at ih ⊢
    rw [List.map_cons, List.sum_cons, List.map_cons, List.sum_cons, ih, Int.mul_add]
    congr 1
    rw [Int.fdiv_eq_ediv_of_nonneg _ (by omega), Int.fdiv_eq_ediv_of_nonneg _ (by omega), hc, show p.2 * c * e = c * e * p.2 by ac_rfl, show p.2 * c = c * p.2 by ac_rfl, Int.mul_ediv_cancel _ (by omega), Int.mul_ediv_cancel _ (by omega)]
    ac_rfl
theorem sumP_snoc {xs : List (Int × Int)} {p : Int × Int} (h : ∀ q ∈ xs, ShP q) (hp : ShP p) : sumP (botP (xs ++ [p])) (xs ++ [p]) = p.2 * sumP (botP xs) xs + p.1 * botP xs := by
  have hp2 := hp.s.pos
  have e : sumP (botP (xs ++ [p])) (xs ++ [p]) = sumP (botP xs * p.2) xs + p.1 * (botP xs * p.2).fdiv p.2 := by
    rw [botP_snoc]
    unfold sumP
    rw [List.map_append, List.sum_append, List.map_cons, List.map_nil, List.sum_singleton]
  rw [e, sumP_mul fun q m => ⟨(h q m).s.pos, botP_dvd m⟩, Int.fdiv_eq_ediv_of_nonneg _ (by omega), Int.mul_ediv_cancel _ (by omega)]
theorem sumP_rev {C : Int} {xs : List (Int × Int)} : sumP C xs.reverse = sumP C xs := by
  unfold sumP
  rw [List.map_reverse, List.sum_reverse]
theorem snoc_cases {α : Type} : ∀ xs : List α, xs = [] ∨ ∃ ys y, xs = ys ++ [y] := fun xs => by
  rcases List.eq_nil_or_concat xs with h | ⟨ys, y, h⟩
  · exact .inl h
  · exact .inr ⟨ys, y, by simpa using h⟩
theorem sumP_bd : ∀ (n : Nat) {xs : List (Int × Int)}, xs.length = n → (∀ p ∈ xs, ShP p) → Bd (sumP (botP xs) xs) (98 * n + 1)
  | 0, xs, e, _ => by
    rw [List.length_eq_zero_iff.mp e]
    exact ⟨by decide⟩
  | n + 1, xs, e, h => by
    rcases snoc_cases xs with rfl | ⟨ys, y, rfl⟩
    · simp at e
    · rw [List.length_append, List.length_singleton] at e
      have hy := h y (by simp)
      have hys : ∀ p ∈ ys, ShP p := fun p m => h p (by simp [m])
      have i1 := sumP_bd n (by omega) hys
      have i2 := botP_bd hys
      have := hy.b1
      have := hy.b2
      rw [sumP_snoc hys hy]
      exact ⟨(inferInstance : Bd (y.2 * sumP (botP ys) ys + y.1 * botP ys) _).up (by omega)⟩
/-- _law_row_right(_law_row); _law_bottom, _law_one, _law_total, _law_top, _law_product, _law_some, _law_found; calls _law_lowest, plus, times; 1 of 8 -/
def b_row03 (k0 k1 k2 : Nat) : MSs :=
  (.cons (.asg 1 (.cst (.int 1))) (.cons (.for (.name 2) (.seq (.var 0)) (.cons (.asg 1 (.op .mul (.cons (.var 1) (.cons (.op .idx (.cons (.var 2) (.cons (.cst (.int 1)) .nil)))
    .nil)))) .nil)) (.cons (.asg 3 (.op .repr (.cons (.call k0 (.cons (.op .sum (.cons (.comp [2] (.name 2) (.seq (.var 0)) (.cst (.bool true)) (.op .mul (.cons (.op .idx (.cons
    (.var 2) (.cons (.cst (.int 0)) .nil))) (.cons (.op .fdiv (.cons (.var 1) (.cons (.op .idx (.cons (.var 2) (.cons (.cst (.int 1)) .nil))) .nil))) .nil)))) .nil)) (.cons (.var
    1) .nil))) .nil))) (.cons (.asg 4 (.cst (.int 1))) (.cons (.for (.name 2) (.seq (.var 0)) (.cons (.asg 4 (.op .mul (.cons (.var 4) (.cons (.op .idx (.cons (.var 2) (.cons (.cst
    (.int 0)) .nil))) .nil)))) .nil)) (.cons (.asg 5 (.op .repr (.cons (.call k0 (.cons (.var 4) (.cons (.var 1) .nil))) .nil))) (.cons (.for (.name 6) (.seq (.tup (.cons (.var 0)
    (.cons (.op .rev (.cons (.var 0) .nil)) .nil)))) (.cons (.asg 7 (.lst (.cons (.tup (.cons (.cst (.int 0)) (.cons (.cst (.int 1)) .nil))) (.cons (.tup (.cons (.cst (.int 1))
    (.cons (.cst (.int 1)) .nil))) .nil)))) (.cons (.for (.name 2) (.seq (.var 6)) (.cons (.asg 7 (.lst (.cons (.call k1 (.cons (.op .idx (.cons (.var 7) (.cons (.cst (.int 0))
    .nil))) (.cons (.var 2) .nil))) (.cons (.call k2 (.cons (.var 2) (.cons (.op .idx (.cons (.var 7) (.cons (.cst (.int 1)) .nil))) .nil))) .nil)))) .nil)) (.cons (.ite (.or (.op
    .ne (.cons (.op .repr (.cons (.op .idx (.cons (.var 7) (.cons (.cst (.int 0)) .nil))) .nil)) (.cons (.var 3) .nil))) (.op .ne (.cons (.op .repr (.cons (.op .idx (.cons (.var 7)
    (.cons (.cst (.int 1)) .nil))) .nil)) (.cons (.var 5) .nil)))) (.cons (.ret (.cst (.bool false))) .nil) .nil) .nil)))) (.cons (.ret (.cst (.bool true))) .nil))))))))
def Row03Sp (f : Fn) : Prop := ∀ (xs : List (Int × Int)), xs.length ≤ 20 → (∀ p ∈ xs, ShP p) → FS f [.own (.list (xs.map prD))] fun v os => v = .sh (.bool true) ∧ os = [.sh (.list (xs.map prD))]
theorem row03_sp {k0 k1 k2 : Nat} {f0 f1 f2 : Fn} (h0 : T[k0]? = some f0) (n0 : LowestSp f0) (h1 : T[k1]? = some f1) (n1 : PlusSp f1) (h2 : T[k2]? = some f2) (n2 : TimesSp f2) : Row03Sp (evalDef T 1 8 (b_row03 k0 k1 k2)) := by
  intro xs hl hs
  have bB : ∀ {ys : List (Int × Int)}, (∀ p ∈ ys, ShP p) → ys.length ≤ 20 → Bd (botP ys) 2000 := fun {ys} h e => ⟨(botP_bd h).up (by omega)⟩
  have bT : ∀ {ys : List (Int × Int)}, (∀ p ∈ ys, ShP p) → ys.length ≤ 20 → Bd (topP ys) 2000 := fun {ys} h e => ⟨(topP_bd h).up (by omega)⟩
  have bS : ∀ {ys : List (Int × Int)}, (∀ p ∈ ys, ShP p) → ys.length ≤ 20 → Bd (sumP (botP ys) ys) 2000 := fun {ys} h e => ⟨(sumP_bd _ rfl h).up (by omega)⟩
  have hB := botP_pos hs
  refine fs_of rfl (by first | (dsimp only [List.cons_append, List.nil_append, Nat.reduceSub, Nat.reduceAdd, List.replicate_succ, List.replicate_zero]; done) | exact rfl) ?_
  unfold b_row03
  array_get_dec
  refine wfor_map (fun r s' => ∃ (y2 : SV) (a : List (Int × Int)), y2.free = true ∧ a ++ r = xs ∧ s' = [.sh (.list (xs.map prD)), .sh (.int (botP a)), y2, .no, .no, .no, .no, .no]) ?_ ?_ ⟨.no, [], rfl, rfl, rfl⟩
  · rintro p r s' ⟨y2, a, g2, ha, rfl⟩
    have hp := hs p (by rw [← ha]; simp)
    have hal : a.length ≤ 20 := by
      have := congrArg List.length ha
      rw [List.length_append] at this
      omega
    have _ := bB (fun q m => hs q (by rw [← ha]; simp [m])) hal
    have _ := hp.b2
    array_get_dec
    refine ⟨.sh (prD p), a ++ [p], rfl, by rw [List.append_assoc]; exact ha, ?_⟩
    rw [botP_snoc]
  rintro s' ⟨y2, a, g2, ha, rfl⟩
  rw [List.append_nil] at ha
  subst ha
  have hsum := n0 (sumP (botP a) a) (botP a) (by omega) ((bB hs hl).to rfl)
  rw [lowD_pos hB] at hsum
  have hprd := n0 (topP a) (botP a) (by omega) ((bB hs hl).to rfl)
  rw [lowD_pos hB] at hprd
  have r1 := big_shr (t := sumP (botP a) a) hB ((bS hs hl).to rfl) ((bB hs hl).to rfl)
  have r2 := big_shr (t := topP a) hB ((bT hs hl).to rfl) ((bB hs hl).to rfl)
  array_get_dec
  refine wcomp_map (fun p => .int (p.1 * (botP a).fdiv p.2)) ?_ ?_
  · intro p hp
    have hp := hs p hp
    have hp2 := hp.s.pos
    have _ := hp.b1
    have _ := hp.b2
    have dv : divOk p.2 = true := divOk_bd (k := 97) (by omega) rfl
    have _ : Bd ((botP a).fdiv p.2) 2000 := by
      rw [Int.fdiv_eq_ediv_of_nonneg _ (by omega)]
      exact ediv_bd (bB hs hl) hp2
    array_get_dec
    exact ⟨rfl, rfl⟩
  refine wbig (by rw [List.length_map]; unfold BIG; omega) ?_
  rw [show a.map (fun p => PyData.int (p.1 * (botP a).fdiv p.2)) = (a.map fun p => p.1 * (botP a).fdiv p.2).map PyData.int by rw [List.map_map]; rfl]
  array_get_dec
  rw [show (a.map fun p => p.1 * (botP a).fdiv p.2).sum = sumP (botP a) a from rfl]
  refine wapp_pf h0 (hsum) (by exact rfl) (by exact rfl) ?_
  array_get_dec
  refine wo_reprB r1 ?_
  array_get_dec
  refine wfor_map (fun r s' => ∃ (y2 : SV) (e : List (Int × Int)), y2.free = true ∧ e ++ r = a ∧ s' = [.sh (.list (a.map prD)), .sh (.int (botP a)), y2, .sh (.str (PyData.shown (shrD (sumP (botP a) a) (botP a)))), .sh (.int (topP e)), .no, .no, .no]) ?_ ?_ ⟨_, [], g2, rfl, rfl⟩
  · rintro p r s' ⟨y2, e, g2, ha, rfl⟩
    have hp := hs p (by rw [← ha]; simp)
    have hal : e.length ≤ 20 := by
      have := congrArg List.length ha
      rw [List.length_append] at this
      omega
    have _ := bT (fun q m => hs q (by rw [← ha]; simp [m])) hal
    have _ := hp.b1
    array_get_dec
    refine ⟨.sh (prD p), e ++ [p], rfl, by rw [List.append_assoc]; exact ha, ?_⟩
    rw [topP_snoc]
  rintro s' ⟨y2, e, g2, ha, rfl⟩
  rw [List.append_nil] at ha
  rw [ha]
  clear ha
  array_get_dec
  refine wapp_pf h0 (hprd) (by exact rfl) (by exact rfl) ?_
  array_get_dec
  refine wo_reprB r2 ?_
  have z1 : shrD 0 1 = .tuple [.int 0, .int 1] := by unfold shrD; rw [show shrT 0 1 = 0 by decide +kernel, show shrB 0 1 = 1 by decide +kernel]
  have z2 : shrD 1 1 = .tuple [.int 1, .int 1] := by unfold shrD; rw [show shrT 1 1 = 1 by decide +kernel, show shrB 1 1 = 1 by decide +kernel]
  have part : ∀ (ys : List (Int × Int)), (∀ q, q ∈ ys → q ∈ a) ∧ ys.length = a.length → ∀ (e : List (Int × Int)) (p : Int × Int) (r : List (Int × Int)), e ++ p :: r = ys → ShP p ∧ (∀ q ∈ e, ShP q) ∧ e.length ≤ 19 := by
    intro ys ⟨h1, h2⟩ e p r h
    refine ⟨hs p (h1 p (by rw [← h]; simp)), fun q m => hs q (h1 q (by rw [← h]; simp [m])), ?_⟩
    have := congrArg List.length h
    rw [List.length_append, List.length_cons] at this
    omega
  have step : ∀ (e : List (Int × Int)) (p : Int × Int), (∀ q ∈ e, ShP q) → e.length ≤ 19 → ShP p → PF f1 [.sh (shrD (sumP (botP e) e) (botP e)), .sh (prD p)] (shrD (sumP (botP (e ++ [p])) (e ++ [p])) (botP (e ++ [p]))) ∧ PF f2 [.sh (prD p), .sh (shrD (topP e) (botP e))] (shrD (topP (e ++ [p])) (botP (e ++ [p]))) := by
    intro e p he hel hp
    have hb := botP_pos he
    have hp2 := hp.s.pos
    have c1 := shq_cross (t := sumP (botP e) e) hb
    have c2 := shq_cross (t := topP e) hb
    have q1 := (shq_ok (t := sumP (botP e) e) hb).pos
    have q2 := (shq_ok (t := topP e) hb).pos
    have b0 := bB he (by omega)
    have u1 := shrT_bd hb (bS he (by omega))
    have u2 := shrB_bd (t := sumP (botP e) e) hb b0
    have u3 := shrT_bd hb (bT he (by omega))
    have u4 := shrB_bd (t := topP e) hb b0
    have n1' := n1 (shrT (sumP (botP e) e) (botP e)) (shrB (sumP (botP e) e) (botP e)) p.1 p.2 q1 hp2 (u1.to rfl) (u2.to rfl) (hp.b1.to rfl) (hp.b2.to rfl)
    have n2' := n2 p.1 p.2 (shrT (topP e) (botP e)) (shrB (topP e) (botP e)) hp2 q2 (hp.b1.to rfl) (hp.b2.to rfl) (u3.to rfl) (u4.to rfl)
    constructor
    · rw [sumP_snoc he hp, botP_snoc]
      rw [shq_same (Int.mul_pos q1 hp2) (Int.mul_pos hb hp2) (t' := p.2 * sumP (botP e) e + p.1 * botP e) (b' := botP e * p.2) (by
        rw [Int.add_mul, Int.add_mul]
        congr 1
        · calc shrT (sumP (botP e) e) (botP e) * p.2 * (botP e * p.2) = (shrT (sumP (botP e) e) (botP e) * botP e) * (p.2 * p.2) := by ac_rfl
            _ = (sumP (botP e) e * shrB (sumP (botP e) e) (botP e)) * (p.2 * p.2) := by rw [c1]
            _ = _ := by ac_rfl
        · ac_rfl)] at n1'
      exact n1'
    · rw [topP_snoc, botP_snoc]
      rw [shq_same (Int.mul_pos hp2 q2) (Int.mul_pos hb hp2) (t' := topP e * p.1) (b' := botP e * p.2) (by
        calc p.1 * shrT (topP e) (botP e) * (botP e * p.2) = (shrT (topP e) (botP e) * botP e) * (p.1 * p.2) := by ac_rfl
          _ = (topP e * shrB (topP e) (botP e)) * (p.1 * p.2) := by rw [c2]
          _ = _ := by ac_rfl)] at n2'
      exact n2'
  array_get_dec
  rw [← List.map_reverse]
  refine wfor_cons ?_
  array_get_dec
  refine wfor_map (fun r s' => ∃ (y2 : SV) (e : List (Int × Int)), y2.free = true ∧ e ++ r = a ∧ s' = [.sh (.list (a.map prD)), .sh (.int (botP a)), y2, .sh (.str (PyData.shown (shrD (sumP (botP a) a) (botP a)))), .sh (.int (topP a)), .sh (.str (PyData.shown (shrD (topP a) (botP a)))), .sh (.list ((a).map prD)), .own (.list [shrD (sumP (botP e) e) (botP e), shrD (topP e) (botP e)])]) ?_ ?_ ⟨_, [], g2, rfl, by rw [show shrD (sumP (botP []) []) (botP []) = .tuple [.int 0, .int 1] from z1, show shrD (topP []) (botP []) = .tuple [.int 1, .int 1] from z2]⟩
  · rintro p r s' ⟨y2, e, g2, ha, rfl⟩
    obtain ⟨hp, he, hel⟩ := part a ⟨fun _ m => m, rfl⟩ e p r ha
    obtain ⟨n1', n2'⟩ := step e p he hel hp
    unfold shrD
    unfold shrD at n1' n2'
    array_get_dec
    refine wapp_pf h1 (n1') (by exact rfl) (by exact rfl) ?_
    array_get_dec
    refine wapp_pf h2 (n2') (by exact rfl) (by exact rfl) ?_
    array_get_dec
    exact ⟨.sh (prD p), e ++ [p], rfl, by rw [List.append_assoc]; exact ha, rfl⟩
  rintro s' ⟨y2, e, g2, ha, rfl⟩
  rw [List.append_nil] at ha
  have eb : botP e = botP a := by rw [ha]
  have et : topP e = topP a := by rw [ha]
  have es : sumP (botP e) e = sumP (botP a) a := by rw [eb, ha]
  rw [es, et, eb]
  array_get_dec
  refine wo_reprB r1 ?_
  array_get_dec
  refine wo_reprB r2 ?_
  array_get_dec
  clear ha eb et es
  refine wfor_cons ?_
  array_get_dec
  refine wfor_map (fun r s' => ∃ (y2 : SV) (e : List (Int × Int)), y2.free = true ∧ e ++ r = a.reverse ∧ s' = [.sh (.list (a.map prD)), .sh (.int (botP a)), y2, .sh (.str (PyData.shown (shrD (sumP (botP a) a) (botP a)))), .sh (.int (topP a)), .sh (.str (PyData.shown (shrD (topP a) (botP a)))), .sh (.list ((a.reverse).map prD)), .own (.list [shrD (sumP (botP e) e) (botP e), shrD (topP e) (botP e)])]) ?_ ?_ ⟨_, [], g2, rfl, by rw [show shrD (sumP (botP []) []) (botP []) = .tuple [.int 0, .int 1] from z1, show shrD (topP []) (botP []) = .tuple [.int 1, .int 1] from z2]⟩
  · rintro p r s' ⟨y2, e, g2, ha, rfl⟩
    obtain ⟨hp, he, hel⟩ := part a.reverse ⟨fun _ m => List.mem_reverse.mp m, List.length_reverse⟩ e p r ha
    obtain ⟨n1', n2'⟩ := step e p he hel hp
    unfold shrD
    unfold shrD at n1' n2'
    array_get_dec
    refine wapp_pf h1 (n1') (by exact rfl) (by exact rfl) ?_
    array_get_dec
    refine wapp_pf h2 (n2') (by exact rfl) (by exact rfl) ?_
    array_get_dec
    exact ⟨.sh (prD p), e ++ [p], rfl, by rw [List.append_assoc]; exact ha, rfl⟩
  rintro s' ⟨y2, e, g2, ha, rfl⟩
  rw [List.append_nil] at ha
  have eb : botP e = botP a := by rw [ha]; exact botP_rev a
  have et : topP e = topP a := by rw [ha]; exact topP_rev a
  have es : sumP (botP e) e = sumP (botP a) a := by rw [eb, ha]; exact sumP_rev
  rw [es, et, eb]
  array_get_dec
  refine wo_reprB r1 ?_
  array_get_dec
  refine wo_reprB r2 ?_
  array_get_dec
  clear ha eb et es
  refine wfor_nil ?_
  array_get_dec
  exact ⟨rfl, rfl⟩
/-- law(_law_script); _law_pen_here, _law_turn, _law_one, _law_other, _law_pairs, _law_first, _law_second, _law_k; calls _law_pen, _law_share, _law_lowest, _law_right, _law_row_right, _law_draw; 1 of 9 -/
def b_law03 (k0 k1 k2 k3 k4 k5 : Nat) : MSs :=
  (.cons (.asg 1 (.call k0 (.cons (.var 0) .nil))) (.cons (.for (.name 2) (.range (.cons (.op .max2 (.cons (.cst (.int 3)) (.cons (.op .min2 (.cons (.op .len (.cons (.var 0) .nil))
    (.cons (.cst (.int 12)) .nil))) .nil))) .nil)) (.cons (.asg 3 (.call k1 (.cons (.var 1) .nil))) (.cons (.asg 4 (.call k1 (.cons (.var 1) .nil))) (.cons (.asg 5 (.lst (.cons
    (.tup (.cons (.var 3) (.cons (.var 4) .nil))) (.cons (.tup (.cons (.var 3) (.cons (.var 3) .nil))) (.cons (.tup (.cons (.var 3) (.cons (.tup (.cons (.op .sub (.cons (.cst (.int
    0)) (.cons (.op .idx (.cons (.var 3) (.cons (.cst (.int 0)) .nil))) .nil))) (.cons (.op .idx (.cons (.var 3) (.cons (.cst (.int 1)) .nil))) .nil))) .nil))) (.cons (.tup (.cons
    (.var 3) (.cons (.tup (.cons (.cst (.int 0)) (.cons (.cst (.int 1)) .nil))) .nil))) (.cons (.tup (.cons (.var 3) (.cons (.tup (.cons (.cst (.int 1)) (.cons (.cst (.int 1))
    .nil))) .nil))) (.cons (.tup (.cons (.var 3) (.cons (.tup (.cons (.op .neg (.cons (.cst (.int 1)) .nil)) (.cons (.cst (.int 1)) .nil))) .nil))) .nil)))))))) (.cons (.ite (.op
    .ne (.cons (.op .idx (.cons (.var 3) (.cons (.cst (.int 0)) .nil))) (.cons (.cst (.int 0)) .nil))) (.cons (.mut .append 5 (.cons (.tup (.cons (.var 3) (.cons (.call k2 (.cons
    (.op .idx (.cons (.var 3) (.cons (.cst (.int 1)) .nil))) (.cons (.op .idx (.cons (.var 3) (.cons (.cst (.int 0)) .nil))) .nil))) .nil))) .nil)) .nil) .nil) (.cons (.for (.tup
    (.cons (.name 6) (.cons (.name 7) .nil))) (.seq (.var 5)) (.cons (.ite (.not (.call k3 (.cons (.var 6) (.cons (.var 7) .nil)))) (.cons (.ret (.cst (.bool false))) .nil) .nil)
    .nil)) .nil)))))) (.cons (.ret (.call k4 (.cons (.comp [8] (.name 8) (.range (.cons (.op .add (.cons (.cst (.int 4)) (.cons (.call k5 (.cons (.var 1) (.cons (.cst (.int 17))
    .nil))) .nil))) .nil)) (.cst (.bool true)) (.call k1 (.cons (.var 1) .nil))) .nil))) .nil)))
theorem law03_sp {k0 k1 k2 k3 k4 k5 : Nat} {f0 f1 f2 f3 f4 f5 : Fn} {sc : List Int} (h0 : T[k0]? = some f0) (n0 : FS f0 [.sh (scriptD sc)] fun v os => ∃ d, v = .own d ∧ os = [.sh (scriptD sc)] ∧ (pen1 sc).R 0 d)
    (h1 : T[k1]? = some f1) (n1 : Share03Sp (pen1 sc) f1) (h2 : T[k2]? = some f2) (n2 : LowestSp f2) (h3 : T[k3]? = some f3) (n3 : Right03Sp f3) (h4 : T[k4]? = some f4) (n4 : Row03Sp f4) (h5 : T[k5]? = some f5) (n5 : DrawSp (pen1 sc) f5) :
    FS (evalDef T 1 9 (b_law03 k0 k1 k2 k3 k4 k5)) [.sh (scriptD sc)] fun v os => v = .sh (.bool true) := by
  have hM : 3 ≤ mx 3 (mn (sc.length : Int) 12) ∧ mx 3 (mn (sc.length : Int) 12) ≤ 12 := by
    unfold mx mn
    split <;> split <;> omega
  refine fs_of rfl (by first | (dsimp only [List.cons_append, List.nil_append, Nat.reduceSub, Nat.reduceAdd, List.replicate_succ, List.replicate_zero]; done) | exact rfl) ?_
  unfold b_law03 scriptD
  array_get_dec
  refine wapp h0 (by exact rfl) (by first | exact List.nodup_nil | exact nd0 | exact nd1 | (simp only [slotsIn]; decide)) (FS.imp (n0) ?_)
  rintro _ _ ⟨d0, rfl, rfl, p0⟩
  refine wback_own (by exact rfl) (by first | (dsimp only [List.set_cons_zero, List.set_cons_succ, wipeE, restore, List.getElem?_cons_zero, List.getElem?_cons_succ, setAt]; done) | exact rfl) ?_
  array_get_dec
  refine wfor_range (fun i s' => ∃ y2 y3 y4 y5 y6 y7 y8 : SV, (y2.free = true ∧ y3.free = true ∧ y4.free = true ∧ y5.free = true ∧ y6.free = true ∧ y7.free = true ∧ y8.free = true) ∧ ∃ d : Tw.D, (pen1 sc).R (i * 100) d ∧ s' = [.sh (scriptD sc), .own d, y2, y3, y4, y5, y6, y7, y8]) ?_ ?_ ?_
  · rintro i s' hi ⟨y2, y3, y4, y5, y6, y7, y8, ⟨gy2, gy3, gy4, gy5, gy6, gy7, gy8⟩, d, p1, rfl⟩
    have hi : i < 12 := by omega
    array_get_dec
    refine wapp h1 (by exact rfl) (by first | exact List.nodup_nil | exact nd0 | exact nd1 | (simp only [slotsIn]; decide)) (FS.imp (n1 _ _ p1 (by omega)) ?_)
    rintro _ _ ⟨p, d1, rfl, rfl, hp, p2⟩
    refine wback_sh (by exact rfl) (by first | (dsimp only [List.set_cons_zero, List.set_cons_succ, wipeE, restore, List.getElem?_cons_zero, List.getElem?_cons_succ, setAt]; done) | exact rfl) ?_
    array_get_dec
    refine wapp h1 (by exact rfl) (by first | exact List.nodup_nil | exact nd0 | exact nd1 | (simp only [slotsIn]; decide)) (FS.imp (n1 _ _ p2 (by omega)) ?_)
    rintro _ _ ⟨q, d2, rfl, rfl, hq, p3⟩
    refine wback_sh (by exact rfl) (by first | (dsimp only [List.set_cons_zero, List.set_cons_succ, wipeE, restore, List.getElem?_cons_zero, List.getElem?_cons_succ, setAt]; done) | exact rfl) ?_
    array_get_dec
    have p3 := (pen1 sc).mono p3 (show (i : Int) * 100 + 10 + 10 ≤ ((i + 1 : Nat) : Int) * 100 by omega)
    have hb0 : (0 : Int) - p.1 = -p.1 := by omega
    have k3 : ShP (0 - p.1, p.2) := ⟨⟨hp.s.pos, by show Int.gcd (0 - p.1) p.2 = 1; rw [hb0, Int.neg_gcd]; exact hp.s.cop⟩, ⟨by show (0 - p.1).natAbs < 2 ^ 97; rw [hb0, Int.natAbs_neg]; exact hp.b1.h⟩, hp.b2⟩
    have k4 : ShP (0, 1) := shP_one ⟨by decide⟩
    have k5 : ShP (1, 1) := shP_one ⟨by decide⟩
    have k6 : ShP (-1, 1) := shP_one ⟨by decide⟩
    refine wif_ndec (fun z => ?_) fun z => ?_
    · have e := n2 p.2 p.1 z (hp.b1.to rfl)
      have tB : Bd (lowT p.2 p.1) 97 := ⟨by
        have := hp.b2.h
        unfold lowT
        split <;> omega⟩
      have bB : Bd (lowB p.1) 97 := ⟨by
        have := hp.b1.h
        unfold lowB
        split <;> omega⟩
      have k7 := shP_of (lowB_pos z) tB bB
      array_get_dec
      refine wapp_pf h2 (e) (by exact rfl) (by exact rfl) ?_
      array_get_dec
      refine wfor_map (xs := [(p, q), (p, p), (p, (0 - p.1, p.2)), (p, (0, 1)), (p, (1, 1)), (p, (-1, 1)), (p, (shrT (lowT p.2 p.1) (lowB p.1), shrB (lowT p.2 p.1) (lowB p.1)))]) (g := fun z : (Int × Int) × (Int × Int) => PyData.tuple [prD z.1, prD z.2]) (fun r s' => ∃ v6 v7 : SV, (v6.free = true ∧ v7.free = true) ∧ (∀ z ∈ r, ShP z.1 ∧ ShP z.2) ∧ s' = [.sh (scriptD sc), .own d2, .sh (.int (i : Nat)), .sh (prD p), .sh (prD q), .sh (.list ([(p, q), (p, p), (p, (0 - p.1, p.2)), (p, (0, 1)), (p, (1, 1)), (p, (-1, 1)), (p, (shrT (lowT p.2 p.1) (lowB p.1), shrB (lowT p.2 p.1) (lowB p.1)))].map fun z : (Int × Int) × (Int × Int) => PyData.tuple [prD z.1, prD z.2])), v6, v7, y8]) ?_ ?_ ⟨_, _, ⟨gy6, gy7⟩, by
        simp only [List.mem_cons, List.not_mem_nil, or_false, forall_eq_or_imp, forall_eq]
        exact ⟨⟨hp, hq⟩, ⟨hp, hp⟩, ⟨hp, k3⟩, ⟨hp, k4⟩, ⟨hp, k5⟩, ⟨hp, k6⟩, hp, k7⟩, rfl⟩
      · rintro ⟨u, v⟩ r s' ⟨v6, v7, ⟨gv6, gv7⟩, hm, rfl⟩
        have hz := hm (u, v) (by simp)
        array_get_dec
        refine wapp_pf h3 (n3 u v hz.1 hz.2) (by exact rfl) (by exact rfl) ?_
        array_get_dec
        exact ⟨_, _, ⟨rfl, rfl⟩, fun z m => hm z (by simp [m]), rfl⟩
      · rintro s' ⟨v6, v7, ⟨gv6, gv7⟩, hm, rfl⟩
        array_get_dec
        exact ⟨_, _, _, _, _, _, _, ⟨rfl, rfl, rfl, rfl, gv6, gv7, gy8⟩, d2, p3, rfl⟩
    · array_get_dec
      refine wfor_map (xs := [(p, q), (p, p), (p, (0 - p.1, p.2)), (p, (0, 1)), (p, (1, 1)), (p, (-1, 1))]) (g := fun z : (Int × Int) × (Int × Int) => PyData.tuple [prD z.1, prD z.2]) (fun r s' => ∃ v6 v7 : SV, (v6.free = true ∧ v7.free = true) ∧ (∀ z ∈ r, ShP z.1 ∧ ShP z.2) ∧ s' = [.sh (scriptD sc), .own d2, .sh (.int (i : Nat)), .sh (prD p), .sh (prD q), .sh (.list ([(p, q), (p, p), (p, (0 - p.1, p.2)), (p, (0, 1)), (p, (1, 1)), (p, (-1, 1))].map fun z : (Int × Int) × (Int × Int) => PyData.tuple [prD z.1, prD z.2])), v6, v7, y8]) ?_ ?_ ⟨_, _, ⟨gy6, gy7⟩, by
        simp only [List.mem_cons, List.not_mem_nil, or_false, forall_eq_or_imp, forall_eq]
        exact ⟨⟨hp, hq⟩, ⟨hp, hp⟩, ⟨hp, k3⟩, ⟨hp, k4⟩, ⟨hp, k5⟩, hp, k6⟩, rfl⟩
      · rintro ⟨u, v⟩ r s' ⟨v6, v7, ⟨gv6, gv7⟩, hm, rfl⟩
        have hz := hm (u, v) (by simp)
        array_get_dec
        refine wapp_pf h3 (n3 u v hz.1 hz.2) (by exact rfl) (by exact rfl) ?_
        array_get_dec
        exact ⟨_, _, ⟨rfl, rfl⟩, fun z m => hm z (by simp [m]), rfl⟩
      · rintro s' ⟨v6, v7, ⟨gv6, gv7⟩, hm, rfl⟩
        array_get_dec
        exact ⟨_, _, _, _, _, _, _, ⟨rfl, rfl, rfl, rfl, gv6, gv7, gy8⟩, d2, p3, rfl⟩
  · rintro s' ⟨y2, y3, y4, y5, y6, y7, y8, ⟨gy2, gy3, gy4, gy5, gy6, gy7, gy8⟩, d, p1, rfl⟩
    array_get_dec
    refine wapp h5 (by exact rfl) (by first | exact List.nodup_nil | exact nd0 | exact nd1 | (simp only [slotsIn]; decide)) (FS.imp (n5 _ _ _ p1 (by omega) (by decide) (by decide)) ?_)
    rintro _ _ ⟨k, d1, rfl, rfl, k0, k1, p2⟩
    refine wback_sh (by exact rfl) (by first | (dsimp only [List.set_cons_zero, List.set_cons_succ, wipeE, restore, List.getElem?_cons_zero, List.getElem?_cons_succ, setAt]; done) | exact rfl) ?_
    array_get_dec
    refine wcomp_pen (pen1 sc) (fun d => [.sh (scriptD sc), .own d, y2, y3, y4, y5, y6, y7, .no]) prD ShP 10 p2 (by decide) ?_ ?_
    · intro i n' d8 _ e1 e2 p8
      simp only [List.length_range] at e2
      array_get_dec
      refine wapp h1 (by exact rfl) (by first | exact List.nodup_nil | exact nd0 | exact nd1 | (simp only [slotsIn]; decide)) (FS.imp (n1 _ _ p8 (by omega)) ?_)
      rintro _ _ ⟨p, d9, rfl, rfl, hp, p9⟩
      refine wback_sh (by exact rfl) (by first | (dsimp only [List.set_cons_zero, List.set_cons_succ, wipeE, restore, List.getElem?_cons_zero, List.getElem?_cons_succ, setAt]; done) | exact rfl) ?_
      array_get_dec
      exact ⟨p, d9, rfl, hp, p9, rfl⟩
    intro xs d3 hl hp p3
    simp only [List.length_range] at hl
    refine wbig (by rw [List.length_map]; unfold BIG; omega) ?_
    array_get_dec
    refine wapp h4 (by exact rfl) (by exact List.nodup_nil) (FS.imp (n4 xs (by omega) hp) ?_)
    rintro _ os ⟨rfl, rfl⟩
    refine wback_sh (putBack_no rfl rfl) rfl ?_
    array_get_dec
    rfl
  · exact ⟨_, _, _, _, _, _, _, ⟨by first | exact rfl | assumption, by first | exact rfl | assumption, by first | exact rfl | assumption, by first | exact rfl | assumption, by first | exact rfl | assumption, by first | exact rfl | assumption, by first | exact rfl | assumption⟩, d0, p0, rfl⟩

end Lb

namespace G
open PySem PySem.Spec PyProof.Rows L2 Tw Lb
def topS (i : Nat) : Stmt := PySem.Challenge.pw_twomarks_k03_sums_and_products.main.body.getD i (.Pass ⟨0, 0, 0, 0⟩)
/-! _law_pen -/
def n1 : List Str := ["_law_script"]
theorem sc1 : FnScope n1 ["_law_script"] (defScope (topS 9)) := ⟨rfl, rfl, rfl, by decide +kernel, rfl, by decide +kernel, by decide +kernel⟩
def c0 : Defs := ⟨[], [], []⟩
def m1 : MSs := b_pen1
theorem ok1 : cBody c0 n1 (defScope (topS 9)) (defBody (topS 9)) = some m1 := by rfl
noncomputable def f1 : Fn := evalDef c0.T 1 1 m1
theorem l1 : (["_law_script"] : List Str).length = 1 ∧ n1.length = 1 := ⟨rfl, rfl⟩
theorem f1_eq : f1 = evalDef c0.T 1 1 m1 := by unfold f1; exact rfl
theorem b1 (kV doc pm : Value) (an : Option Addr) (cdv ct : Value) (us : List Value) (hl : us.length = (["_law_script"] : List Str).length) : bindArgs (PySem.W.fnOf "_law_pen" "_law_pen" (defArgs (topS 9)) (defBody (topS 9)) (defScope (topS 9)) .none kV doc pm an cdv ct) ⟨us, []⟩ = pure ((["_law_script"] : List Str).zip us) := match us, hl with | [_], _ => rfl
noncomputable def c1 : Defs := ⟨c0.T ++ [f1], c0.ns ++ [(("_law_pen" : Str), 0, 1)], c0.gl⟩
theorem c1_eq : c1 = ⟨c0.T ++ [f1], c0.ns ++ [(("_law_pen" : Str), 0, 1)], c0.gl⟩ := by unfold c1; exact rfl
/-! _law_draw -/
def n2 : List Str := ["_law_pen_here", "_law_most", "_law_cells", "_law_at", "_law_cell", "_law_prime", "_law_mixed", "_law_found"]
theorem sc2 : FnScope n2 ["_law_pen_here", "_law_most"] (defScope (topS 10)) := ⟨rfl, rfl, rfl, by decide +kernel, rfl, by decide +kernel, by decide +kernel⟩
def m2 : MSs := b_draw1
theorem ok2 : cBody c1 n2 (defScope (topS 10)) (defBody (topS 10)) = some m2 := by rfl
noncomputable def f2 : Fn := evalDef c1.T 2 8 m2
theorem l2 : (["_law_pen_here", "_law_most"] : List Str).length = 2 ∧ n2.length = 8 := ⟨rfl, rfl⟩
theorem f2_eq : f2 = evalDef c1.T 2 8 m2 := by unfold f2; exact rfl
theorem b2 (kV doc pm : Value) (an : Option Addr) (cdv ct : Value) (us : List Value) (hl : us.length = (["_law_pen_here", "_law_most"] : List Str).length) : bindArgs (PySem.W.fnOf "_law_draw" "_law_draw" (defArgs (topS 10)) (defBody (topS 10)) (defScope (topS 10)) .none kV doc pm an cdv ct) ⟨us, []⟩ = pure ((["_law_pen_here", "_law_most"] : List Str).zip us) := match us, hl with | [_, _], _ => rfl
noncomputable def c2 : Defs := ⟨c1.T ++ [f2], c1.ns ++ [(("_law_draw" : Str), 1, 2)], c1.gl⟩
theorem c2_eq : c2 = ⟨c1.T ++ [f2], c1.ns ++ [(("_law_draw" : Str), 1, 2)], c1.gl⟩ := by unfold c2; exact rfl
/-! _law_divisor -/
def n3 : List Str := ["_law_one", "_law_other"]
theorem sc3 : FnScope n3 ["_law_one", "_law_other"] (defScope (topS 12)) := ⟨rfl, rfl, rfl, by decide +kernel, rfl, by decide +kernel, by decide +kernel⟩
def m3 : MSs := b_divisorS
theorem ok3 : cBody c2 n3 (defScope (topS 12)) (defBody (topS 12)) = some m3 := by rfl
noncomputable def f3 : Fn := evalDef c2.T 2 2 m3
theorem l3 : (["_law_one", "_law_other"] : List Str).length = 2 ∧ n3.length = 2 := ⟨rfl, rfl⟩
theorem f3_eq : f3 = evalDef c2.T 2 2 m3 := by unfold f3; exact rfl
theorem b3 (kV doc pm : Value) (an : Option Addr) (cdv ct : Value) (us : List Value) (hl : us.length = (["_law_one", "_law_other"] : List Str).length) : bindArgs (PySem.W.fnOf "_law_divisor" "_law_divisor" (defArgs (topS 12)) (defBody (topS 12)) (defScope (topS 12)) .none kV doc pm an cdv ct) ⟨us, []⟩ = pure ((["_law_one", "_law_other"] : List Str).zip us) := match us, hl with | [_, _], _ => rfl
noncomputable def c3 : Defs := ⟨c2.T ++ [f3], c2.ns ++ [(("_law_divisor" : Str), 2, 2)], c2.gl⟩
theorem c3_eq : c3 = ⟨c2.T ++ [f3], c2.ns ++ [(("_law_divisor" : Str), 2, 2)], c2.gl⟩ := by unfold c3; exact rfl
/-! _law_lowest -/
def n4 : List Str := ["_law_top", "_law_bottom", "_law_both"]
theorem sc4 : FnScope n4 ["_law_top", "_law_bottom"] (defScope (topS 13)) := ⟨rfl, rfl, rfl, by decide +kernel, rfl, by decide +kernel, by decide +kernel⟩
def m4 : MSs := b_lowestS 2
theorem ok4 : cBody c3 n4 (defScope (topS 13)) (defBody (topS 13)) = some m4 := by rfl
noncomputable def f4 : Fn := evalDef c3.T 2 3 m4
theorem l4 : (["_law_top", "_law_bottom"] : List Str).length = 2 ∧ n4.length = 3 := ⟨rfl, rfl⟩
theorem f4_eq : f4 = evalDef c3.T 2 3 m4 := by unfold f4; exact rfl
theorem b4 (kV doc pm : Value) (an : Option Addr) (cdv ct : Value) (us : List Value) (hl : us.length = (["_law_top", "_law_bottom"] : List Str).length) : bindArgs (PySem.W.fnOf "_law_lowest" "_law_lowest" (defArgs (topS 13)) (defBody (topS 13)) (defScope (topS 13)) .none kV doc pm an cdv ct) ⟨us, []⟩ = pure ((["_law_top", "_law_bottom"] : List Str).zip us) := match us, hl with | [_, _], _ => rfl
noncomputable def c4 : Defs := ⟨c3.T ++ [f4], c3.ns ++ [(("_law_lowest" : Str), 3, 2)], c3.gl⟩
theorem c4_eq : c4 = ⟨c3.T ++ [f4], c3.ns ++ [(("_law_lowest" : Str), 3, 2)], c3.gl⟩ := by unfold c4; exact rfl
/-! _law_number -/
def n5 : List Str := ["_law_pen_here", "_law_way", "_law_number_here"]
theorem sc5 : FnScope n5 ["_law_pen_here"] (defScope (topS 11)) := ⟨rfl, rfl, rfl, by decide +kernel, rfl, by decide +kernel, by decide +kernel⟩
def m5 : MSs := b_numberS 1
theorem ok5 : cBody c4 n5 (defScope (topS 11)) (defBody (topS 11)) = some m5 := by rfl
noncomputable def f5 : Fn := evalDef c4.T 1 3 m5
theorem l5 : (["_law_pen_here"] : List Str).length = 1 ∧ n5.length = 3 := ⟨rfl, rfl⟩
theorem f5_eq : f5 = evalDef c4.T 1 3 m5 := by unfold f5; exact rfl
theorem b5 (kV doc pm : Value) (an : Option Addr) (cdv ct : Value) (us : List Value) (hl : us.length = (["_law_pen_here"] : List Str).length) : bindArgs (PySem.W.fnOf "_law_number" "_law_number" (defArgs (topS 11)) (defBody (topS 11)) (defScope (topS 11)) .none kV doc pm an cdv ct) ⟨us, []⟩ = pure ((["_law_pen_here"] : List Str).zip us) := match us, hl with | [_], _ => rfl
noncomputable def c5 : Defs := ⟨c4.T ++ [f5], c4.ns ++ [(("_law_number" : Str), 4, 1)], c4.gl⟩
theorem c5_eq : c5 = ⟨c4.T ++ [f5], c4.ns ++ [(("_law_number" : Str), 4, 1)], c4.gl⟩ := by unfold c5; exact rfl
/-! _law_share -/
def n6 : List Str := ["_law_pen_here", "_law_way"]
theorem sc6 : FnScope n6 ["_law_pen_here"] (defScope (topS 14)) := ⟨rfl, rfl, rfl, by decide +kernel, rfl, by decide +kernel, by decide +kernel⟩
def m6 : MSs := b_share03 1 4 3
theorem ok6 : cBody c5 n6 (defScope (topS 14)) (defBody (topS 14)) = some m6 := by rfl
noncomputable def f6 : Fn := evalDef c5.T 1 2 m6
theorem l6 : (["_law_pen_here"] : List Str).length = 1 ∧ n6.length = 2 := ⟨rfl, rfl⟩
theorem f6_eq : f6 = evalDef c5.T 1 2 m6 := by unfold f6; exact rfl
theorem b6 (kV doc pm : Value) (an : Option Addr) (cdv ct : Value) (us : List Value) (hl : us.length = (["_law_pen_here"] : List Str).length) : bindArgs (PySem.W.fnOf "_law_share" "_law_share" (defArgs (topS 14)) (defBody (topS 14)) (defScope (topS 14)) .none kV doc pm an cdv ct) ⟨us, []⟩ = pure ((["_law_pen_here"] : List Str).zip us) := match us, hl with | [_], _ => rfl
noncomputable def c6 : Defs := ⟨c5.T ++ [f6], c5.ns ++ [(("_law_share" : Str), 5, 1)], c5.gl⟩
theorem c6_eq : c6 = ⟨c5.T ++ [f6], c5.ns ++ [(("_law_share" : Str), 5, 1)], c5.gl⟩ := by unfold c6; exact rfl
/-! common -/
def n7 : List Str := ["one", "other"]
theorem sc7 : FnScope n7 ["one", "other"] (defScope (topS 4)) := ⟨rfl, rfl, rfl, by decide +kernel, rfl, by decide +kernel, by decide +kernel⟩
def m7 : MSs := b_common
theorem ok7 : cBody c6 n7 (defScope (topS 4)) (defBody (topS 4)) = some m7 := by rfl
noncomputable def f7 : Fn := evalDef c6.T 2 2 m7
theorem l7 : (["one", "other"] : List Str).length = 2 ∧ n7.length = 2 := ⟨rfl, rfl⟩
theorem f7_eq : f7 = evalDef c6.T 2 2 m7 := by unfold f7; exact rfl
theorem b7 (kV doc pm : Value) (an : Option Addr) (cdv ct : Value) (us : List Value) (hl : us.length = (["one", "other"] : List Str).length) : bindArgs (PySem.W.fnOf "common" "common" (defArgs (topS 4)) (defBody (topS 4)) (defScope (topS 4)) .none kV doc pm an cdv ct) ⟨us, []⟩ = pure ((["one", "other"] : List Str).zip us) := match us, hl with | [_, _], _ => rfl
noncomputable def c7 : Defs := ⟨c6.T ++ [f7], c6.ns ++ [(("common" : Str), 6, 2)], c6.gl⟩
theorem c7_eq : c7 = ⟨c6.T ++ [f7], c6.ns ++ [(("common" : Str), 6, 2)], c6.gl⟩ := by unfold c7; exact rfl
/-! share -/
def n8 : List Str := ["top", "bottom", "both"]
theorem sc8 : FnScope n8 ["top", "bottom"] (defScope (topS 5)) := ⟨rfl, rfl, rfl, by decide +kernel, rfl, by decide +kernel, by decide +kernel⟩
def m8 : MSs := b_share 6
theorem ok8 : cBody c7 n8 (defScope (topS 5)) (defBody (topS 5)) = some m8 := by rfl
noncomputable def f8 : Fn := evalDef c7.T 2 3 m8
theorem l8 : (["top", "bottom"] : List Str).length = 2 ∧ n8.length = 3 := ⟨rfl, rfl⟩
theorem f8_eq : f8 = evalDef c7.T 2 3 m8 := by unfold f8; exact rfl
theorem b8 (kV doc pm : Value) (an : Option Addr) (cdv ct : Value) (us : List Value) (hl : us.length = (["top", "bottom"] : List Str).length) : bindArgs (PySem.W.fnOf "share" "share" (defArgs (topS 5)) (defBody (topS 5)) (defScope (topS 5)) .none kV doc pm an cdv ct) ⟨us, []⟩ = pure ((["top", "bottom"] : List Str).zip us) := match us, hl with | [_, _], _ => rfl
noncomputable def c8 : Defs := ⟨c7.T ++ [f8], c7.ns ++ [(("share" : Str), 7, 2)], c7.gl⟩
theorem c8_eq : c8 = ⟨c7.T ++ [f8], c7.ns ++ [(("share" : Str), 7, 2)], c7.gl⟩ := by unfold c8; exact rfl
/-! plus -/
def n9 : List Str := ["one", "other"]
theorem sc9 : FnScope n9 ["one", "other"] (defScope (topS 6)) := ⟨rfl, rfl, rfl, by decide +kernel, rfl, by decide +kernel, by decide +kernel⟩
def m9 : MSs := b_plus 7
theorem ok9 : cBody c8 n9 (defScope (topS 6)) (defBody (topS 6)) = some m9 := by rfl
noncomputable def f9 : Fn := evalDef c8.T 2 2 m9
theorem l9 : (["one", "other"] : List Str).length = 2 ∧ n9.length = 2 := ⟨rfl, rfl⟩
theorem f9_eq : f9 = evalDef c8.T 2 2 m9 := by unfold f9; exact rfl
theorem b9 (kV doc pm : Value) (an : Option Addr) (cdv ct : Value) (us : List Value) (hl : us.length = (["one", "other"] : List Str).length) : bindArgs (PySem.W.fnOf "plus" "plus" (defArgs (topS 6)) (defBody (topS 6)) (defScope (topS 6)) .none kV doc pm an cdv ct) ⟨us, []⟩ = pure ((["one", "other"] : List Str).zip us) := match us, hl with | [_, _], _ => rfl
noncomputable def c9 : Defs := ⟨c8.T ++ [f9], c8.ns ++ [(("plus" : Str), 8, 2)], c8.gl⟩
theorem c9_eq : c9 = ⟨c8.T ++ [f9], c8.ns ++ [(("plus" : Str), 8, 2)], c8.gl⟩ := by unfold c9; exact rfl
/-! times -/
def n10 : List Str := ["one", "other"]
theorem sc10 : FnScope n10 ["one", "other"] (defScope (topS 7)) := ⟨rfl, rfl, rfl, by decide +kernel, rfl, by decide +kernel, by decide +kernel⟩
def m10 : MSs := b_timesS 7
theorem ok10 : cBody c9 n10 (defScope (topS 7)) (defBody (topS 7)) = some m10 := by rfl
noncomputable def f10 : Fn := evalDef c9.T 2 2 m10
theorem l10 : (["one", "other"] : List Str).length = 2 ∧ n10.length = 2 := ⟨rfl, rfl⟩
theorem f10_eq : f10 = evalDef c9.T 2 2 m10 := by unfold f10; exact rfl
theorem b10 (kV doc pm : Value) (an : Option Addr) (cdv ct : Value) (us : List Value) (hl : us.length = (["one", "other"] : List Str).length) : bindArgs (PySem.W.fnOf "times" "times" (defArgs (topS 7)) (defBody (topS 7)) (defScope (topS 7)) .none kV doc pm an cdv ct) ⟨us, []⟩ = pure ((["one", "other"] : List Str).zip us) := match us, hl with | [_, _], _ => rfl
noncomputable def c10 : Defs := ⟨c9.T ++ [f10], c9.ns ++ [(("times" : Str), 9, 2)], c9.gl⟩
theorem c10_eq : c10 = ⟨c9.T ++ [f10], c9.ns ++ [(("times" : Str), 9, 2)], c9.gl⟩ := by unfold c10; exact rfl
/-! _law_sum -/
def n11 : List Str := ["_law_one", "_law_other", "_law_both", "_law_bottom"]
theorem sc11 : FnScope n11 ["_law_one", "_law_other"] (defScope (topS 15)) := ⟨rfl, rfl, rfl, by decide +kernel, rfl, by decide +kernel, by decide +kernel⟩
def m11 : MSs := b_sum03 2 3
theorem ok11 : cBody c10 n11 (defScope (topS 15)) (defBody (topS 15)) = some m11 := by rfl
noncomputable def f11 : Fn := evalDef c10.T 2 4 m11
theorem l11 : (["_law_one", "_law_other"] : List Str).length = 2 ∧ n11.length = 4 := ⟨rfl, rfl⟩
theorem f11_eq : f11 = evalDef c10.T 2 4 m11 := by unfold f11; exact rfl
theorem b11 (kV doc pm : Value) (an : Option Addr) (cdv ct : Value) (us : List Value) (hl : us.length = (["_law_one", "_law_other"] : List Str).length) : bindArgs (PySem.W.fnOf "_law_sum" "_law_sum" (defArgs (topS 15)) (defBody (topS 15)) (defScope (topS 15)) .none kV doc pm an cdv ct) ⟨us, []⟩ = pure ((["_law_one", "_law_other"] : List Str).zip us) := match us, hl with | [_, _], _ => rfl
noncomputable def c11 : Defs := ⟨c10.T ++ [f11], c10.ns ++ [(("_law_sum" : Str), 10, 2)], c10.gl⟩
theorem c11_eq : c11 = ⟨c10.T ++ [f11], c10.ns ++ [(("_law_sum" : Str), 10, 2)], c10.gl⟩ := by unfold c11; exact rfl
/-! _law_right -/
def n12 : List Str := ["_law_one", "_law_other", "_law_kept", "_law_total", "_law_product", "_law_first", "_law_second"]
theorem sc12 : FnScope n12 ["_law_one", "_law_other"] (defScope (topS 16)) := ⟨rfl, rfl, rfl, by decide +kernel, rfl, by decide +kernel, by decide +kernel⟩
def m12 : MSs := b_right03 10 3 8 9
theorem ok12 : cBody c11 n12 (defScope (topS 16)) (defBody (topS 16)) = some m12 := by rfl
noncomputable def f12 : Fn := evalDef c11.T 2 7 m12
theorem l12 : (["_law_one", "_law_other"] : List Str).length = 2 ∧ n12.length = 7 := ⟨rfl, rfl⟩
theorem f12_eq : f12 = evalDef c11.T 2 7 m12 := by unfold f12; exact rfl
theorem b12 (kV doc pm : Value) (an : Option Addr) (cdv ct : Value) (us : List Value) (hl : us.length = (["_law_one", "_law_other"] : List Str).length) : bindArgs (PySem.W.fnOf "_law_right" "_law_right" (defArgs (topS 16)) (defBody (topS 16)) (defScope (topS 16)) .none kV doc pm an cdv ct) ⟨us, []⟩ = pure ((["_law_one", "_law_other"] : List Str).zip us) := match us, hl with | [_, _], _ => rfl
noncomputable def c12 : Defs := ⟨c11.T ++ [f12], c11.ns ++ [(("_law_right" : Str), 11, 2)], c11.gl⟩
theorem c12_eq : c12 = ⟨c11.T ++ [f12], c11.ns ++ [(("_law_right" : Str), 11, 2)], c11.gl⟩ := by unfold c12; exact rfl
/-! _law_row_right -/
def n13 : List Str := ["_law_row", "_law_bottom", "_law_one", "_law_total", "_law_top", "_law_product", "_law_some", "_law_found"]
theorem sc13 : FnScope n13 ["_law_row"] (defScope (topS 17)) := ⟨rfl, rfl, rfl, by decide +kernel, rfl, by decide +kernel, by decide +kernel⟩
def m13 : MSs := b_row03 3 8 9
theorem ok13 : cBody c12 n13 (defScope (topS 17)) (defBody (topS 17)) = some m13 := by rfl
noncomputable def f13 : Fn := evalDef c12.T 1 8 m13
theorem l13 : (["_law_row"] : List Str).length = 1 ∧ n13.length = 8 := ⟨rfl, rfl⟩
theorem f13_eq : f13 = evalDef c12.T 1 8 m13 := by unfold f13; exact rfl
theorem b13 (kV doc pm : Value) (an : Option Addr) (cdv ct : Value) (us : List Value) (hl : us.length = (["_law_row"] : List Str).length) : bindArgs (PySem.W.fnOf "_law_row_right" "_law_row_right" (defArgs (topS 17)) (defBody (topS 17)) (defScope (topS 17)) .none kV doc pm an cdv ct) ⟨us, []⟩ = pure ((["_law_row"] : List Str).zip us) := match us, hl with | [_], _ => rfl
noncomputable def c13 : Defs := ⟨c12.T ++ [f13], c12.ns ++ [(("_law_row_right" : Str), 12, 1)], c12.gl⟩
theorem c13_eq : c13 = ⟨c12.T ++ [f13], c12.ns ++ [(("_law_row_right" : Str), 12, 1)], c12.gl⟩ := by unfold c13; exact rfl
/-! law -/
def n14 : List Str := ["_law_script", "_law_pen_here", "_law_turn", "_law_one", "_law_other", "_law_pairs", "_law_first", "_law_second", "_law_k"]
theorem sc14 : FnScope n14 ["_law_script"] (defScope (topS 18)) := ⟨rfl, rfl, rfl, by decide +kernel, rfl, by decide +kernel, by decide +kernel⟩
def m14 : MSs := b_law03 0 5 3 11 12 1
theorem ok14 : cBody c13 n14 (defScope (topS 18)) (defBody (topS 18)) = some m14 := by rfl
noncomputable def f14 : Fn := evalDef c13.T 1 9 m14
theorem l14 : (["_law_script"] : List Str).length = 1 ∧ n14.length = 9 := ⟨rfl, rfl⟩
theorem f14_eq : f14 = evalDef c13.T 1 9 m14 := by unfold f14; exact rfl
theorem b14 (kV doc pm : Value) (an : Option Addr) (cdv ct : Value) (us : List Value) (hl : us.length = (["_law_script"] : List Str).length) : bindArgs (PySem.W.fnOf "law" "law" (defArgs (topS 18)) (defBody (topS 18)) (defScope (topS 18)) .none kV doc pm an cdv ct) ⟨us, []⟩ = pure ((["_law_script"] : List Str).zip us) := match us, hl with | [_], _ => rfl
theorem pure : ∀ ns : List Int, ns.length ≤ 63 → ∃ os, f14 [.sh (scriptD ns)] = some (.sh (.bool true), os) := by
  intro ns hns
  have n1 := pen1_sp (T := c0.T) (sc := ns) hns
  have n2 := draw1_sp (T := c1.T) (sc := ns)
  have n3 := divisorS_sp (T := c2.T)
  have n4 := lowestS_sp (T := c3.T)  (rfl : (c3.T)[2]? = some f3) n3
  have n5 := numberS_sp (T := c4.T)  (rfl : (c4.T)[1]? = some f2) n2
  have n6 := share03_sp (T := c5.T)  (rfl : (c5.T)[1]? = some f2) n2 (rfl : (c5.T)[4]? = some f5) n5 (rfl : (c5.T)[3]? = some f4) n4
  have n7 := common_sp (T := c6.T)
  have n8 := share_sp (T := c7.T)  (rfl : (c7.T)[6]? = some f7) n7
  have n9 := plus_sp (T := c8.T)  (rfl : (c8.T)[7]? = some f8) n8
  have n10 := timesS_sp (T := c9.T)  (rfl : (c9.T)[7]? = some f8) n8
  have n11 := sum03_sp (T := c10.T)  (rfl : (c10.T)[2]? = some f3) n3 (rfl : (c10.T)[3]? = some f4) n4
  have n12 := right03_sp (T := c11.T)  (rfl : (c11.T)[10]? = some f11) n11 (rfl : (c11.T)[3]? = some f4) n4 (rfl : (c11.T)[8]? = some f9) n9 (rfl : (c11.T)[9]? = some f10) n10
  have n13 := row03_sp (T := c12.T)  (rfl : (c12.T)[3]? = some f4) n4 (rfl : (c12.T)[8]? = some f9) n9 (rfl : (c12.T)[9]? = some f10) n10
  have n14 := law03_sp (T := c13.T)  (rfl : (c13.T)[0]? = some f1) n1 (rfl : (c13.T)[5]? = some f6) n6 (rfl : (c13.T)[3]? = some f4) n4 (rfl : (c13.T)[11]? = some f12) n12 (rfl : (c13.T)[12]? = some f13) n13 (rfl : (c13.T)[1]? = some f2) n2
  obtain ⟨v, os, e, rfl⟩ := n14
  exact ⟨os, e⟩
end G
namespace G
open PySem PySem.Spec PyProof.Rows L2 Tw
theorem all_mk {l : PySem.W.OpenLaw} {w : World} {K : PySem.W.Frag} {h : Heap} {mg : Str → Option Value} {fa : Addr} (X : K.In h) (Q : h.Ns mainGlobals mg) (hfa : mg "law" = some (.ref fa))
    {a1 a2 a3 a4 a5 a6 a7 a8 a9 a10 a11 a12 a13 a14 : Addr} {od1 an1 od2 an2 od3 an3 od4 an4 od5 an5 od6 an6 od7 an7 od8 an8 od9 an9 od10 an10 od11 an11 od12 an12 od13 an13 od14 an14 : Option Addr} {sl1 sl2 sl3 sl4 sl5 sl6 sl7 sl8 sl9 sl10 sl11 sl12 sl13 sl14 : Array (Option Value)} {oc1 kV1 dc1 pm1 cd1 ct1 oc2 kV2 dc2 pm2 cd2 ct2 oc3 kV3 dc3 pm3 cd3 ct3 oc4 kV4 dc4 pm4 cd4 ct4 oc5 kV5 dc5 pm5 cd5 ct5 oc6 kV6 dc6 pm6 cd6 ct6 oc7 kV7 dc7 pm7 cd7 ct7 oc8 kV8 dc8 pm8 cd8 ct8 oc9 kV9 dc9 pm9 cd9 ct9 oc10 kV10 dc10 pm10 cd10 ct10 oc11 kV11 dc11 pm11 cd11 ct11 oc12 kV12 dc12 pm12 cd12 ct12 oc13 kV13 dc13 pm13 cd13 ct13 oc14 kV14 dc14 pm14 cd14 ct14 : Value}
    (p1 : PySem.W.nsIn K mainGlobals "_law_pen" = some (some (.ref a1))) (q1 : K.lookup a1 = some ⟨oc1, od1, .func (PySem.W.fnOf "_law_pen" "_law_pen" (defArgs (topS 9)) (defBody (topS 9)) (defScope (topS 9)) .none kV1 dc1 pm1 an1 cd1 ct1), sl1⟩) (r1 : PySem.W.codeIn K cd1 "_law_pen" = true) (s1 : PySem.W.keepIn K (.ref a1) = true)
    (p2 : PySem.W.nsIn K mainGlobals "_law_draw" = some (some (.ref a2))) (q2 : K.lookup a2 = some ⟨oc2, od2, .func (PySem.W.fnOf "_law_draw" "_law_draw" (defArgs (topS 10)) (defBody (topS 10)) (defScope (topS 10)) .none kV2 dc2 pm2 an2 cd2 ct2), sl2⟩) (r2 : PySem.W.codeIn K cd2 "_law_draw" = true) (s2 : PySem.W.keepIn K (.ref a2) = true)
    (p3 : PySem.W.nsIn K mainGlobals "_law_divisor" = some (some (.ref a3))) (q3 : K.lookup a3 = some ⟨oc3, od3, .func (PySem.W.fnOf "_law_divisor" "_law_divisor" (defArgs (topS 12)) (defBody (topS 12)) (defScope (topS 12)) .none kV3 dc3 pm3 an3 cd3 ct3), sl3⟩) (r3 : PySem.W.codeIn K cd3 "_law_divisor" = true) (s3 : PySem.W.keepIn K (.ref a3) = true)
    (p4 : PySem.W.nsIn K mainGlobals "_law_lowest" = some (some (.ref a4))) (q4 : K.lookup a4 = some ⟨oc4, od4, .func (PySem.W.fnOf "_law_lowest" "_law_lowest" (defArgs (topS 13)) (defBody (topS 13)) (defScope (topS 13)) .none kV4 dc4 pm4 an4 cd4 ct4), sl4⟩) (r4 : PySem.W.codeIn K cd4 "_law_lowest" = true) (s4 : PySem.W.keepIn K (.ref a4) = true)
    (p5 : PySem.W.nsIn K mainGlobals "_law_number" = some (some (.ref a5))) (q5 : K.lookup a5 = some ⟨oc5, od5, .func (PySem.W.fnOf "_law_number" "_law_number" (defArgs (topS 11)) (defBody (topS 11)) (defScope (topS 11)) .none kV5 dc5 pm5 an5 cd5 ct5), sl5⟩) (r5 : PySem.W.codeIn K cd5 "_law_number" = true) (s5 : PySem.W.keepIn K (.ref a5) = true)
    (p6 : PySem.W.nsIn K mainGlobals "_law_share" = some (some (.ref a6))) (q6 : K.lookup a6 = some ⟨oc6, od6, .func (PySem.W.fnOf "_law_share" "_law_share" (defArgs (topS 14)) (defBody (topS 14)) (defScope (topS 14)) .none kV6 dc6 pm6 an6 cd6 ct6), sl6⟩) (r6 : PySem.W.codeIn K cd6 "_law_share" = true) (s6 : PySem.W.keepIn K (.ref a6) = true)
    (p7 : PySem.W.nsIn K mainGlobals "common" = some (some (.ref a7))) (q7 : K.lookup a7 = some ⟨oc7, od7, .func (PySem.W.fnOf "common" "common" (defArgs (topS 4)) (defBody (topS 4)) (defScope (topS 4)) .none kV7 dc7 pm7 an7 cd7 ct7), sl7⟩) (r7 : PySem.W.codeIn K cd7 "common" = true) (s7 : PySem.W.keepIn K (.ref a7) = true)
    (p8 : PySem.W.nsIn K mainGlobals "share" = some (some (.ref a8))) (q8 : K.lookup a8 = some ⟨oc8, od8, .func (PySem.W.fnOf "share" "share" (defArgs (topS 5)) (defBody (topS 5)) (defScope (topS 5)) .none kV8 dc8 pm8 an8 cd8 ct8), sl8⟩) (r8 : PySem.W.codeIn K cd8 "share" = true) (s8 : PySem.W.keepIn K (.ref a8) = true)
    (p9 : PySem.W.nsIn K mainGlobals "plus" = some (some (.ref a9))) (q9 : K.lookup a9 = some ⟨oc9, od9, .func (PySem.W.fnOf "plus" "plus" (defArgs (topS 6)) (defBody (topS 6)) (defScope (topS 6)) .none kV9 dc9 pm9 an9 cd9 ct9), sl9⟩) (r9 : PySem.W.codeIn K cd9 "plus" = true) (s9 : PySem.W.keepIn K (.ref a9) = true)
    (p10 : PySem.W.nsIn K mainGlobals "times" = some (some (.ref a10))) (q10 : K.lookup a10 = some ⟨oc10, od10, .func (PySem.W.fnOf "times" "times" (defArgs (topS 7)) (defBody (topS 7)) (defScope (topS 7)) .none kV10 dc10 pm10 an10 cd10 ct10), sl10⟩) (r10 : PySem.W.codeIn K cd10 "times" = true) (s10 : PySem.W.keepIn K (.ref a10) = true)
    (p11 : PySem.W.nsIn K mainGlobals "_law_sum" = some (some (.ref a11))) (q11 : K.lookup a11 = some ⟨oc11, od11, .func (PySem.W.fnOf "_law_sum" "_law_sum" (defArgs (topS 15)) (defBody (topS 15)) (defScope (topS 15)) .none kV11 dc11 pm11 an11 cd11 ct11), sl11⟩) (r11 : PySem.W.codeIn K cd11 "_law_sum" = true) (s11 : PySem.W.keepIn K (.ref a11) = true)
    (p12 : PySem.W.nsIn K mainGlobals "_law_right" = some (some (.ref a12))) (q12 : K.lookup a12 = some ⟨oc12, od12, .func (PySem.W.fnOf "_law_right" "_law_right" (defArgs (topS 16)) (defBody (topS 16)) (defScope (topS 16)) .none kV12 dc12 pm12 an12 cd12 ct12), sl12⟩) (r12 : PySem.W.codeIn K cd12 "_law_right" = true) (s12 : PySem.W.keepIn K (.ref a12) = true)
    (p13 : PySem.W.nsIn K mainGlobals "_law_row_right" = some (some (.ref a13))) (q13 : K.lookup a13 = some ⟨oc13, od13, .func (PySem.W.fnOf "_law_row_right" "_law_row_right" (defArgs (topS 17)) (defBody (topS 17)) (defScope (topS 17)) .none kV13 dc13 pm13 an13 cd13 ct13), sl13⟩) (r13 : PySem.W.codeIn K cd13 "_law_row_right" = true) (s13 : PySem.W.keepIn K (.ref a13) = true)
    (p14 : PySem.W.nsIn K mainGlobals "law" = some (some (.ref a14))) (q14 : K.lookup a14 = some ⟨oc14, od14, .func (PySem.W.fnOf "law" "law" (defArgs (topS 18)) (defBody (topS 18)) (defScope (topS 18)) .none kV14 dc14 pm14 an14 cd14 ct14), sl14⟩) (r14 : PySem.W.codeIn K cd14 "law" = true) (s14 : PySem.W.keepIn K (.ref a14) = true)
    (z_len : PySem.W.nsIn K mainGlobals "len" = some none)
    (z_abs : PySem.W.nsIn K mainGlobals "abs" = some none)
    (z_int : PySem.W.nsIn K mainGlobals "int" = some none)
    (z_str : PySem.W.nsIn K mainGlobals "str" = some none)
    (z_repr : PySem.W.nsIn K mainGlobals "repr" = some none)
    (z_sum : PySem.W.nsIn K mainGlobals "sum" = some none)
    (z_max : PySem.W.nsIn K mainGlobals "max" = some none)
    (z_min : PySem.W.nsIn K mainGlobals "min" = some none)
    (z_all : PySem.W.nsIn K mainGlobals "all" = some none)
    (z_any : PySem.W.nsIn K mainGlobals "any" = some none)
    (z_tuple : PySem.W.nsIn K mainGlobals "tuple" = some none)
    (z_list : PySem.W.nsIn K mainGlobals "list" = some none)
    (z_isinstance : PySem.W.nsIn K mainGlobals "isinstance" = some none)
    (z_range : PySem.W.nsIn K mainGlobals "range" = some none)
    (z_bool : PySem.W.nsIn K mainGlobals "bool" = some none)
    (z_dict : PySem.W.nsIn K mainGlobals "dict" = some none)
    (z_enumerate : PySem.W.nsIn K mainGlobals "enumerate" = some none)
    (z_zip : PySem.W.nsIn K mainGlobals "zip" = some none)
    (z_reversed : PySem.W.nsIn K mainGlobals "reversed" = some none)
    (z_sorted : PySem.W.nsIn K mainGlobals "sorted" = some none)
    (z_set : PySem.W.nsIn K mainGlobals "set" = some none)
    (z_type : PySem.W.nsIn K mainGlobals "type" = some none)
    (z_dig : PySem.W.nsIn K cStatics "sys.int_max_str_digits" = some none)
    : ∃ fd : FuncData, (∀ (s : Shared) (v : Value), BindsTo s fd ⟨[v], []⟩ [("_law_script", v)]) ∧ ∀ base : Heap, K.In base → base.Ns mainGlobals mg → FnG l.prog w K mg base 14 fa fd ["_law_script"] (spF K f14 1) := by
  have e := hfa.symm.trans (PySem.W.mg_of X Q p14)
  cases e
  have bi : Bi K mg bnames := by
    refine ⟨?_, z_dig⟩
    intro x hx
    simp only [bnames, List.mem_cons, List.not_mem_nil, or_false] at hx
    rcases hx with rfl | rfl | rfl | rfl | rfl | rfl | rfl | rfl | rfl | rfl | rfl | rfl | rfl | rfl | rfl | rfl | rfl | rfl | rfl | rfl | rfl | rfl
    · exact PySem.W.mg_none_of X Q z_len
    · exact PySem.W.mg_none_of X Q z_abs
    · exact PySem.W.mg_none_of X Q z_int
    · exact PySem.W.mg_none_of X Q z_str
    · exact PySem.W.mg_none_of X Q z_repr
    · exact PySem.W.mg_none_of X Q z_sum
    · exact PySem.W.mg_none_of X Q z_max
    · exact PySem.W.mg_none_of X Q z_min
    · exact PySem.W.mg_none_of X Q z_all
    · exact PySem.W.mg_none_of X Q z_any
    · exact PySem.W.mg_none_of X Q z_tuple
    · exact PySem.W.mg_none_of X Q z_list
    · exact PySem.W.mg_none_of X Q z_isinstance
    · exact PySem.W.mg_none_of X Q z_range
    · exact PySem.W.mg_none_of X Q z_bool
    · exact PySem.W.mg_none_of X Q z_dict
    · exact PySem.W.mg_none_of X Q z_enumerate
    · exact PySem.W.mg_none_of X Q z_zip
    · exact PySem.W.mg_none_of X Q z_reversed
    · exact PySem.W.mg_none_of X Q z_sorted
    · exact PySem.W.mg_none_of X Q z_set
    · exact PySem.W.mg_none_of X Q z_type
  have d1 := defI_mk (st := topS 9) (ps := ["_law_script"]) X Q p1 q1 r1 s1 b1
  have d2 := defI_mk (st := topS 10) (ps := ["_law_pen_here", "_law_most"]) X Q p2 q2 r2 s2 b2
  have d3 := defI_mk (st := topS 12) (ps := ["_law_one", "_law_other"]) X Q p3 q3 r3 s3 b3
  have d4 := defI_mk (st := topS 13) (ps := ["_law_top", "_law_bottom"]) X Q p4 q4 r4 s4 b4
  have d5 := defI_mk (st := topS 11) (ps := ["_law_pen_here"]) X Q p5 q5 r5 s5 b5
  have d6 := defI_mk (st := topS 14) (ps := ["_law_pen_here"]) X Q p6 q6 r6 s6 b6
  have d7 := defI_mk (st := topS 4) (ps := ["one", "other"]) X Q p7 q7 r7 s7 b7
  have d8 := defI_mk (st := topS 5) (ps := ["top", "bottom"]) X Q p8 q8 r8 s8 b8
  have d9 := defI_mk (st := topS 6) (ps := ["one", "other"]) X Q p9 q9 r9 s9 b9
  have d10 := defI_mk (st := topS 7) (ps := ["one", "other"]) X Q p10 q10 r10 s10 b10
  have d11 := defI_mk (st := topS 15) (ps := ["_law_one", "_law_other"]) X Q p11 q11 r11 s11 b11
  have d12 := defI_mk (st := topS 16) (ps := ["_law_one", "_law_other"]) X Q p12 q12 r12 s12 b12
  have d13 := defI_mk (st := topS 17) (ps := ["_law_row"]) X Q p13 q13 r13 s13 b13
  have d14 := defI_mk (st := topS 18) (ps := ["_law_script"]) X Q p14 q14 r14 s14 b14
  refine ⟨PySem.W.fnOf "law" "law" (defArgs (topS 18)) (defBody (topS 18)) (defScope (topS 18)) .none kV14 dc14 pm14 an14 cd14 ct14, fun s v => .of_eq (b14 _ _ _ _ _ _ [v] rfl), fun base _ _ => ?_⟩
  have t1 := Tab.def (P := l.prog) (w := w) (base := base) (Tab.nil con_nil) bi d1 sc1 ok1 l1.1 l1.2 f1_eq c1_eq
  have t2 := Tab.def (P := l.prog) (w := w) (base := base) t1 bi d2 sc2 ok2 l2.1 l2.2 f2_eq c2_eq
  have t3 := Tab.def (P := l.prog) (w := w) (base := base) t2 bi d3 sc3 ok3 l3.1 l3.2 f3_eq c3_eq
  have t4 := Tab.def (P := l.prog) (w := w) (base := base) t3 bi d4 sc4 ok4 l4.1 l4.2 f4_eq c4_eq
  have t5 := Tab.def (P := l.prog) (w := w) (base := base) t4 bi d5 sc5 ok5 l5.1 l5.2 f5_eq c5_eq
  have t6 := Tab.def (P := l.prog) (w := w) (base := base) t5 bi d6 sc6 ok6 l6.1 l6.2 f6_eq c6_eq
  have t7 := Tab.def (P := l.prog) (w := w) (base := base) t6 bi d7 sc7 ok7 l7.1 l7.2 f7_eq c7_eq
  have t8 := Tab.def (P := l.prog) (w := w) (base := base) t7 bi d8 sc8 ok8 l8.1 l8.2 f8_eq c8_eq
  have t9 := Tab.def (P := l.prog) (w := w) (base := base) t8 bi d9 sc9 ok9 l9.1 l9.2 f9_eq c9_eq
  have t10 := Tab.def (P := l.prog) (w := w) (base := base) t9 bi d10 sc10 ok10 l10.1 l10.2 f10_eq c10_eq
  have t11 := Tab.def (P := l.prog) (w := w) (base := base) t10 bi d11 sc11 ok11 l11.1 l11.2 f11_eq c11_eq
  have t12 := Tab.def (P := l.prog) (w := w) (base := base) t11 bi d12 sc12 ok12 l12.1 l12.2 f12_eq c12_eq
  have t13 := Tab.def (P := l.prog) (w := w) (base := base) t12 bi d13 sc13 ok13 l13.1 l13.2 f13_eq c13_eq
  exact Tab.step t13 bi d14 sc14 ok14 l14.1 l14.2 f14_eq
end G
open PySem PySem.W PyProof.Rows
set_option maxHeartbeats 0 in
theorem PySem.Challenge.cw_twomarks_k03_sums_and_products_holds : PySem.Challenge.rw_twomarks_k03_sums_and_products.Holds := by
  w_on; o_law; k_head; (case hw => w_witness2)
  k_fill
  refine Tw.walk_law (l := PySem.Challenge.rw_twomarks_k03_sums_and_products) (n := 63) (k := 14) (x := "_law_script") (fn := G.f14) rfl (by decide) rfl ⟨rfl, by decide, by decide⟩ (fun w h Y => PySem.W.kIn_of Y) ?F G.pure
  case F =>
    intro w mg fa h KX Q hmg
    refine' G.all_mk KX Q hmg ?p1 ?q1 ?r1 ?s1 ?p2 ?q2 ?r2 ?s2 ?p3 ?q3 ?r3 ?s3 ?p4 ?q4 ?r4 ?s4 ?p5 ?q5 ?r5 ?s5 ?p6 ?q6 ?r6 ?s6 ?p7 ?q7 ?r7 ?s7 ?p8 ?q8 ?r8 ?s8 ?p9 ?q9 ?r9 ?s9 ?p10 ?q10 ?r10 ?s10 ?p11 ?q11 ?r11 ?s11 ?p12 ?q12 ?r12 ?s12 ?p13 ?q13 ?r13 ?s13 ?p14 ?q14 ?r14 ?s14 ?z_len ?z_abs ?z_int ?z_str ?z_repr ?z_sum ?z_max ?z_min ?z_all ?z_any ?z_tuple ?z_list ?z_isinstance ?z_range ?z_bool ?z_dict ?z_enumerate ?z_zip ?z_reversed ?z_sorted ?z_set ?z_type ?z_dig
    (case p1 => k_is); (case q1 => k_is); (case r1 => k_is); (case s1 => k_is); (case p2 => k_is); (case q2 => k_is); (case r2 => k_is); (case s2 => k_is); (case p3 => k_is); (case q3 => k_is); (case r3 => k_is); (case s3 => k_is); (case p4 => k_is); (case q4 => k_is); (case r4 => k_is); (case s4 => k_is); (case p5 => k_is); (case q5 => k_is); (case r5 => k_is); (case s5 => k_is); (case p6 => k_is); (case q6 => k_is); (case r6 => k_is); (case s6 => k_is); (case p7 => k_is); (case q7 => k_is); (case r7 => k_is); (case s7 => k_is); (case p8 => k_is); (case q8 => k_is); (case r8 => k_is); (case s8 => k_is); (case p9 => k_is); (case q9 => k_is); (case r9 => k_is); (case s9 => k_is); (case p10 => k_is); (case q10 => k_is); (case r10 => k_is); (case s10 => k_is); (case p11 => k_is); (case q11 => k_is); (case r11 => k_is); (case s11 => k_is); (case p12 => k_is); (case q12 => k_is); (case r12 => k_is); (case s12 => k_is); (case p13 => k_is); (case q13 => k_is); (case r13 => k_is); (case s13 => k_is); (case p14 => k_is); (case q14 => k_is); (case r14 => k_is); (case s14 => k_is); (case z_len => k_is); (case z_abs => k_is); (case z_int => k_is); (case z_str => k_is); (case z_repr => k_is); (case z_sum => k_is); (case z_max => k_is); (case z_min => k_is); (case z_all => k_is); (case z_any => k_is); (case z_tuple => k_is); (case z_list => k_is); (case z_isinstance => k_is); (case z_range => k_is); (case z_bool => k_is); (case z_dict => k_is); (case z_enumerate => k_is); (case z_zip => k_is); (case z_reversed => k_is); (case z_sorted => k_is); (case z_set => k_is); (case z_type => k_is); (case z_dig => k_is)

