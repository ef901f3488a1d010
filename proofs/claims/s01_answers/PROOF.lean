import PyProof.Rows.All
import Wide.All
import OpenK.AllK
import Wide.FinOn
import Open.SpecLaws
import KE.OsGo
import HandS.ForSpec
import HandS.Comp
import HandS.Dict
import HandS.Iter
import HandS.WordsDict
import HandS.TupAny
import HandS.Sort
import HandS.SortRule
import HandS.Walk
import KE.GoesMore
import KE.GoesEnum
import KE.DatumOrd
import KE.KTupSum
import PySem.Challenge.RW_caskorders_s01_answers
set_option Elab.async false
set_option linter.all false
set_option maxRecDepth 100000
set_option maxHeartbeats 2000000
/-! The plain law: what the program computes, over lists of naturals, is what the specification says. No program in sight. -/
namespace Ck
open Sj07

/-- what a cellar keeps: no more than four kinds, each in its bounds -/
structure Good (c : Cellar) : Prop where
  len : c.length ≤ 4
  ok : ∀ k ∈ c, 1 ≤ k.size ∧ k.size ≤ 60 ∧ k.stock ≤ 6
theorem Good.nil : Good [] := ⟨by decide, fun k h => nomatch h⟩
theorem Good.snoc {c : Cellar} {s n : Nat} (g : Good c) (h : c.length < 4) (h1 : 1 ≤ s) (h2 : s ≤ 60) (h3 : n ≤ 6) : Good (c ++ [⟨s, n⟩]) := by
  refine ⟨by rw [List.length_append, List.length_singleton]; omega, fun k hk => ?_⟩
  rcases List.mem_append.mp hk with q | q
  · exact g.ok k q
  · rw [List.mem_singleton.mp q]
    exact ⟨h1, h2, h3⟩
theorem Good.tail {k : Kind} {c : Cellar} (g : Good (k :: c)) : Good c :=
  ⟨Nat.le_of_succ_le g.len, fun x hx => g.ok x (List.mem_cons_of_mem _ hx)⟩

/-! ### plans -/
/-- one kind more: each plan so far goes on with each number -/
def grow (f : List (List Nat)) (m : Nat) : List (List Nat) := f.flatMap fun p => (List.range (m + 1)).map fun n => p ++ [n]
/-- the program's plans, kind by kind -/
def made (c : Cellar) : List (List Nat) := c.foldl (fun f k => grow f k.stock) [[]]
theorem made_go : ∀ (c : Cellar) (f : List (List Nat)), c.foldl (fun f k => grow f k.stock) f = f.flatMap fun p => (plans c).map fun l => p ++ l
  | [], f => by
    simp only [List.foldl_nil, plans, List.map_cons, List.map_nil, List.append_nil]
    induction f with
    | nil => rfl
    | cons a r ih => rw [List.flatMap_cons, ← ih]; rfl
  | k :: c, f => by
    rw [List.foldl_cons, made_go c]
    unfold grow
    rw [List.flatMap_assoc]
    congr 1
    funext p
    simp only [plans, List.flatMap_map, List.map_flatMap, List.map_map]
    congr 1
    funext n
    refine List.map_congr_left fun l _ => ?_
    simp
theorem made_eq (c : Cellar) : made c = plans c := by
  unfold made
  rw [made_go]
  simp
theorem made_more {c : Cellar} {i : Nat} {k : Kind} (h : c[i]? = some k) : made (c.take (i + 1)) = grow (made (c.take i)) k.stock := by
  unfold made
  rw [List.take_add_one, h, List.foldl_append]
  rfl
theorem grow_more {f : List (List Nat)} {m j : Nat} {p : List Nat} (h : f[j]? = some p) : grow (f.take (j + 1)) m = grow (f.take j) m ++ (List.range (m + 1)).map fun n => p ++ [n] := by
  unfold grow
  rw [List.take_add_one, h, List.flatMap_append]
  simp
theorem grow_len : ∀ (f : List (List Nat)) (m : Nat), (grow f m).length = f.length * (m + 1)
  | [], m => by simp [grow]
  | p :: r, m => by
    have ih := grow_len r m
    unfold grow at ih ⊢
    rw [List.flatMap_cons, List.length_append, ih, List.length_map, List.length_range, List.length_cons, Nat.succ_mul]
    exact Nat.add_comm _ _
theorem plans_size : ∀ {c : Cellar}, (∀ k ∈ c, k.stock ≤ 6) → (plans c).length ≤ 7 ^ c.length
  | [], _ => Nat.le_refl _
  | k :: c, h => by
    have ih := plans_size (c := c) fun x hx => h x (List.mem_cons_of_mem _ hx)
    have hk := h k List.mem_cons_self
    have e : (plans (k :: c)).length = (k.stock + 1) * (plans c).length := by
      show ((List.range (k.stock + 1)).flatMap fun n => (plans c).map fun l => n :: l).length = _
      rw [List.length_flatMap]
      simp only [List.length_map, List.map_const', List.length_range, List.sum_replicate_nat]
    rw [e, List.length_cons, Nat.pow_succ, Nat.mul_comm (7 ^ c.length)]
    exact Nat.mul_le_mul (by omega) ih
theorem pow7 {n : Nat} (h : n ≤ 4) : 7 ^ n ≤ 2401 := Nat.le_trans (Nat.pow_le_pow_right (by decide) h) (by decide)
theorem plans_few {c : Cellar} (g : Good c) : (plans c).length ≤ 2401 := Nat.le_trans (plans_size fun k hk => (g.ok k hk).2.2) (pow7 g.len)
theorem Good.take {c : Cellar} (g : Good c) (i : Nat) : Good (c.take i) :=
  ⟨Nat.le_trans (by rw [List.length_take]; exact Nat.min_le_right _ _) g.len, fun k hk => g.ok k (List.mem_of_mem_take hk)⟩
theorem made_few {c : Cellar} (g : Good c) (i : Nat) : (made (c.take i)).length ≤ 2401 := by
  rw [made_eq]
  exact plans_few (g.take i)
theorem plans_mem : ∀ {c : Cellar} {l : List Nat}, l ∈ plans c → can c l = true ∧ l.length = c.length
  | [], l, h => by
    have e : l = [] := List.mem_singleton.mp h
    subst e
    exact ⟨rfl, rfl⟩
  | k :: c, l, h => by
    have h' : l ∈ (List.range (k.stock + 1)).flatMap fun n => (plans c).map fun l => n :: l := h
    obtain ⟨n, hn, h2⟩ := List.mem_flatMap.mp h'
    obtain ⟨r, hr, rfl⟩ := List.mem_map.mp h2
    obtain ⟨i1, i2⟩ := plans_mem hr
    refine ⟨?_, by rw [List.length_cons, List.length_cons, i2]⟩
    show (decide (n ≤ k.stock) && can c r) = true
    rw [i1, Bool.and_true, decide_eq_true_eq]
    have := List.mem_range.mp hn
    omega
/-- the filter of the specification, as the program has it -/
theorem filling_eq (c : Cellar) (v : Nat) : (plans c).filter (fills c v) = (plans c).filter fun l => decide (v ≤ holds c l) := by
  refine List.filter_congr fun l hl => ?_
  unfold fills
  rw [(plans_mem hl).1, Bool.true_and]
/-- whether it is a plan, as the program has it -/
theorem can_eq : ∀ (c : Cellar) (l : List Nat), can c l = (decide (l.length = c.length) && (l.zip c).all fun x => decide (x.1 ≤ x.2.stock))
  | [], [] => rfl
  | [], _ :: _ => rfl
  | _ :: _, [] => rfl
  | k :: c, n :: l => by
    show (decide (n ≤ k.stock) && can c l) = _
    rw [can_eq c l, List.zip_cons_cons, List.all_cons, List.length_cons, List.length_cons]
    have e : decide (l.length + 1 = c.length + 1) = decide (l.length = c.length) := by
      by_cases h : l.length = c.length
      · rw [decide_eq_true h, decide_eq_true (by omega)]
      · rw [decide_eq_false h, decide_eq_false (by omega)]
    rw [e]
    cases decide (n ≤ k.stock) <;> cases decide (l.length = c.length) <;> rfl
theorem can_len {c : Cellar} {l : List Nat} (h : can c l = true) : l.length = c.length := by
  rw [can_eq, Bool.and_eq_true, decide_eq_true_eq] at h
  exact h.1
/-- what a plan holds, as the program has it -/
theorem holds_eq (c : Cellar) (l : List Nat) : holds c l = ((l.zip c).map fun x => x.1 * x.2.size).sum := by
  unfold holds
  induction c generalizing l with
  | nil => cases l <;> rfl
  | cons k c ih =>
    cases l with
    | nil => rfl
    | cons n l =>
      simp only [List.zip_cons_cons, List.map_cons, List.sum_cons]
      rw [ih l, Nat.mul_comm]

/-! ### the best of some rows -/
/-- one pair ahead of another -/
def before (x y : Nat × Nat) : Bool := decide (x.1 < y.1) || (x.1 == y.1 && decide (x.2 < y.2))
theorem better_iff {a b x y : Nat} : better a b x y = true ↔ a < x ∨ (a = x ∧ b < y) := by
  unfold better
  simp
theorem before_iff {x y : Nat × Nat} : before x y = true ↔ x.1 < y.1 ∨ (x.1 = y.1 ∧ x.2 < y.2) := by
  unfold before
  simp
structure Bst (f g : List Nat → Nat) (p : List (List Nat)) (r : Best) : Prop where
  least : ∀ l ∈ p, ¬ (f l < r.first ∨ (f l = r.first ∧ g l < r.second))
  sel : ∃ t, p.filter (fun l => decide (f l = r.first ∧ g l = r.second)) = r.row :: t ∧ r.many = t.length + 1
def nextB (f g : List Nat → Nat) (r : Option Best) (l : List Nat) : Option Best := match r with
  | none => some ⟨f l, g l, 1, l⟩
  | some x => if better (f l) (g l) x.first x.second = true then some ⟨f l, g l, 1, l⟩ else if f l = x.first ∧ g l = x.second then some { x with many := x.many + 1 } else some x
theorem bestBy_eq (f g : List Nat → Nat) (p : List (List Nat)) : bestBy f g p = p.foldl (nextB f g) none := rfl
theorem bst_one (f g : List Nat → Nat) (l : List Nat) : Bst f g [l] ⟨f l, g l, 1, l⟩ := by
  refine ⟨fun x hx => ?_, [], ?_, rfl⟩
  · rw [List.mem_singleton.mp hx]
    show ¬ (f l < f l ∨ (f l = f l ∧ g l < g l))
    omega
  · simp
theorem bst_next {f g : List Nat → Nat} {p : List (List Nat)} {r : Best} (h : Bst f g p r) (l : List Nat) : ∃ r', nextB f g (some r) l = some r' ∧ Bst f g (p ++ [l]) r' := by
  obtain ⟨t, e1, e2⟩ := h.sel
  by_cases c1 : better (f l) (g l) r.first r.second = true
  · refine ⟨⟨f l, g l, 1, l⟩, if_pos c1, fun x hx => ?_, [], ?_, rfl⟩
    · have c := better_iff.mp c1
      rcases List.mem_append.mp hx with q | q
      · have := h.least x q
        show ¬ (f x < f l ∨ (f x = f l ∧ g x < g l))
        omega
      · rw [List.mem_singleton.mp q]
        show ¬ (f l < f l ∨ (f l = f l ∧ g l < g l))
        omega
    · rw [List.filter_append]
      have z : p.filter (fun x => decide (f x = f l ∧ g x = g l)) = [] := by
        refine List.filter_eq_nil_iff.mpr fun x hx => ?_
        have := h.least x hx
        have c := better_iff.mp c1
        rw [decide_eq_true_eq]
        omega
      show p.filter (fun x => decide (f x = f l ∧ g x = g l)) ++ _ = _
      rw [z]
      simp
  · by_cases c2 : f l = r.first ∧ g l = r.second
    · refine ⟨{ r with many := r.many + 1 }, ?_, fun x hx => ?_, t ++ [l], ?_, ?_⟩
      · show (if better (f l) (g l) r.first r.second = true then _ else _) = _
        rw [if_neg c1, if_pos c2]
      · rcases List.mem_append.mp hx with q | q
        · exact h.least x q
        · rw [List.mem_singleton.mp q]
          show ¬ (f l < r.first ∨ (f l = r.first ∧ g l < r.second))
          omega
      · show (p ++ [l]).filter (fun x => decide (f x = r.first ∧ g x = r.second)) = r.row :: (t ++ [l])
        rw [List.filter_append, e1, List.filter_cons_of_pos (by rw [decide_eq_true_eq]; exact c2)]
        rfl
      · show r.many + 1 = (t ++ [l]).length + 1
        rw [List.length_append, List.length_singleton, e2]
    · refine ⟨r, ?_, fun x hx => ?_, t, ?_, e2⟩
      · show (if better (f l) (g l) r.first r.second = true then _ else _) = _
        rw [if_neg c1, if_neg c2]
      · rcases List.mem_append.mp hx with q | q
        · exact h.least x q
        · rw [List.mem_singleton.mp q]
          exact fun z => c1 (better_iff.mpr z)
      · rw [List.filter_append, e1, List.filter_cons_of_neg (by rw [decide_eq_true_eq]; exact c2), List.filter_nil, List.append_nil]
theorem bst_go {f g : List Nat → Nat} : ∀ (q p : List (List Nat)) (r : Best), Bst f g p r → ∃ r', q.foldl (nextB f g) (some r) = some r' ∧ Bst f g (p ++ q) r'
  | [], p, r, h => ⟨r, rfl, by rw [List.append_nil]; exact h⟩
  | l :: q, p, r, h => by
    obtain ⟨r1, e1, h1⟩ := bst_next h l
    obtain ⟨r2, e2, h2⟩ := bst_go q (p ++ [l]) r1 h1
    refine ⟨r2, ?_, ?_⟩
    · rw [List.foldl_cons, e1]
      exact e2
    · rw [List.append_assoc] at h2
      exact h2
theorem best_is {f g : List Nat → Nat} {l : List Nat} {p : List (List Nat)} : ∃ r, bestBy f g (l :: p) = some r ∧ Bst f g (l :: p) r := by
  obtain ⟨r, e, h⟩ := bst_go (f := f) (g := g) p [l] _ (bst_one f g l)
  exact ⟨r, e, h⟩
/-- a row: what counts first, what then, the plan -/
abbrev Row := Nat × Nat × List Nat
def rowsOf (f g : List Nat → Nat) (p : List (List Nat)) : List Row := p.map fun l => (f l, g l, l)
def pairOf (r : Row) : Nat × Nat := (r.1, r.2.1)
/-- the rows that have one pair -/
def leastOf (m : Nat × Nat) (rows : List Row) : List Row := rows.filter fun r => decide (pairOf r = m)
/-- what is told of some rows -/
def toldRows : List Row → List Nat
  | [] => []
  | r :: t => r.1 :: r.2.1 :: (t.length + 1) :: r.2.2
theorem leastOf_rows (f g : List Nat → Nat) (m : Nat × Nat) (p : List (List Nat)) : leastOf m (rowsOf f g p) = rowsOf f g (p.filter fun l => decide (f l = m.1 ∧ g l = m.2)) := by
  unfold leastOf rowsOf
  rw [List.filter_map]
  congr 1
  refine List.filter_congr fun l _ => ?_
  show decide ((f l, g l) = m) = _
  refine decide_eq_decide.mpr ⟨fun e => ?_, fun e => ?_⟩
  · rw [← e]
    exact ⟨rfl, rfl⟩
  · exact Prod.ext e.1 e.2
/-- with a least pair: what is told of the rows that have it is the specification's best -/
theorem told_best {f g : List Nat → Nat} {p : List (List Nat)} {m : Nat × Nat} (hm : m ∈ (rowsOf f g p).map pairOf) (hl : ∀ y ∈ (rowsOf f g p).map pairOf, before y m = false) :
    ∃ r, bestBy f g p = some r ∧ leastOf m (rowsOf f g p) ≠ [] ∧ toldRows (leastOf m (rowsOf f g p)) = r.first :: r.second :: r.many :: r.row := by
  cases p with
  | nil => cases hm
  | cons l p =>
    obtain ⟨r, e, h⟩ := best_is (f := f) (g := g) (l := l) (p := p)
    obtain ⟨t, e1, e2⟩ := h.sel
    have em : m = (r.first, r.second) := by
      obtain ⟨x, hx, ex⟩ := List.mem_map.mp hm
      obtain ⟨y, hy, ey⟩ := List.mem_map.mp hx
      subst ey
      have a1 := h.least y hy
      have hrow : r.row ∈ (l :: p).filter (fun l => decide (f l = r.first ∧ g l = r.second)) := by rw [e1]; exact List.mem_cons_self
      obtain ⟨b1, b2⟩ := List.mem_filter.mp hrow
      rw [decide_eq_true_eq] at b2
      have a2 := hl (f r.row, g r.row) (List.mem_map.mpr ⟨(f r.row, g r.row, r.row), List.mem_map.mpr ⟨_, b1, rfl⟩, rfl⟩)
      have a3 : ¬ (f r.row < m.1 ∨ (f r.row = m.1 ∧ g r.row < m.2)) := fun z => by
        rw [before_iff.mpr z] at a2
        cases a2
      have c1 : f y = m.1 := congrArg Prod.fst ex
      have c2 : g y = m.2 := congrArg Prod.snd ex
      refine Prod.ext ?_ ?_
      · show m.1 = r.first
        omega
      · show m.2 = r.second
        omega
    have e3 : leastOf m (rowsOf f g (l :: p)) = rowsOf f g (r.row :: t) := by
      rw [leastOf_rows, em]
      exact congrArg _ e1
    have hrow : r.row ∈ (l :: p).filter (fun l => decide (f l = r.first ∧ g l = r.second)) := by rw [e1]; exact List.mem_cons_self
    have b2 := (List.mem_filter.mp hrow).2
    rw [decide_eq_true_eq] at b2
    refine ⟨r, e, ?_, ?_⟩
    · rw [e3]
      exact fun z => nomatch z
    · rw [e3]
      show f r.row :: g r.row :: ((rowsOf f g t).length + 1) :: r.row = _
      rw [b2.1, b2.2, e2]
      unfold rowsOf
      rw [List.length_map]
theorem best_none {f g : List Nat → Nat} {p : List (List Nat)} (h : rowsOf f g p = []) : bestBy f g p = none := by
  cases p with
  | nil => rfl
  | cons l p => cases h
theorem row_len {c : Cellar} {f g : List Nat → Nat} {v : Nat} {r : Best} (h : bestBy f g ((plans c).filter (fills c v)) = some r) : r.row.length = c.length := by
  cases e : (plans c).filter (fills c v) with
  | nil =>
    rw [e] at h
    cases h
  | cons l p =>
    obtain ⟨r', e', b⟩ := best_is (f := f) (g := g) (l := l) (p := p)
    rw [e] at h
    rw [h] at e'
    cases e'
    obtain ⟨t, e1, _⟩ := b.sel
    have hrow : r.row ∈ (l :: p).filter (fun l => decide (f l = r.first ∧ g l = r.second)) := by rw [e1]; exact List.mem_cons_self
    have h1 := (List.mem_filter.mp hrow).1
    rw [← e] at h1
    exact (plans_mem (List.mem_filter.mp h1).1).2

/-! ### never -/
def neverBelow (c : Cellar) (i : Nat) : List Nat := ((List.range i).map fun i => i + 1).filter fun v => !((plans c).map (holds c)).contains v
theorem never_eq (c : Cellar) (n : Nat) : never c n = neverBelow c n := rfl
theorem never_more (c : Cellar) (i : Nat) : neverBelow c (i + 1) = neverBelow c i ++ (if ((plans c).map (holds c)).contains (i + 1) = true then [] else [i + 1]) := by
  unfold neverBelow
  rw [List.range_succ, List.map_append, List.filter_append]
  congr 1
  show List.filter (fun v => !((plans c).map (holds c)).contains v) [i + 1] = _
  by_cases h : ((plans c).map (holds c)).contains (i + 1) = true
  · rw [if_pos h, List.filter_cons_of_neg (by rw [h]; decide)]
    rfl
  · rw [if_neg h, List.filter_cons_of_pos (by rw [Bool.not_eq_true] at h; rw [h]; rfl)]
    rfl
theorem never_len (c : Cellar) (i : Nat) : (neverBelow c i).length ≤ i := by
  unfold neverBelow
  refine Nat.le_trans (List.length_filter_le _ _) ?_
  rw [List.length_map, List.length_range]
  exact Nat.le_refl _
theorem last_split (l : List Nat) : ∃ s, 0 :: l = s ++ [l.getLastD 0] := by
  cases l with
  | nil => exact ⟨[], rfl⟩
  | cons a r =>
    refine ⟨0 :: (a :: r).dropLast, ?_⟩
    have e : (a :: r).getLastD 0 = (a :: r).getLast (List.cons_ne_nil a r) := by
      rw [List.getLastD_eq_getLast?, List.getLast?_eq_some_getLast (List.cons_ne_nil a r)]
      rfl
    rw [e, List.cons_append, List.dropLast_concat_getLast]

/-! ### the largest first -/
def sizeAt (c : Cellar) (i : Nat) : Nat := (c.getD i ⟨0, 0⟩).size
/-- the order of the kinds -/
def leK (c : Cellar) (i k : Nat) : Bool := decide ((c.getD k ⟨0, 0⟩).size < (c.getD i ⟨0, 0⟩).size) || ((c.getD i ⟨0, 0⟩).size == (c.getD k ⟨0, 0⟩).size && decide (i ≤ k))
theorem leK_iff {c : Cellar} {i k : Nat} : leK c i k = true ↔ sizeAt c k < sizeAt c i ∨ (sizeAt c i = sizeAt c k ∧ i ≤ k) := by
  unfold leK sizeAt
  simp
theorem sorted_eq (c : Cellar) : sorted c = (List.range c.length).mergeSort (leK c) := rfl
theorem sorted_perm (c : Cellar) : (sorted c).Perm (List.range c.length) := List.mergeSort_perm _ _
theorem sorted_up (c : Cellar) : (sorted c).Pairwise fun i k => leK c i k = true := by
  rw [sorted_eq]
  refine List.pairwise_mergeSort (fun x y z h1 h2 => ?_) (fun x y => ?_) _
  · have a := leK_iff.mp h1
    have b := leK_iff.mp h2
    refine leK_iff.mpr ?_
    omega
  · rw [Bool.or_eq_true, leK_iff, leK_iff]
    omega
theorem sorted_uniq {c : Cellar} {l : List Nat} (hp : l.Perm (List.range c.length)) (hu : l.Pairwise fun i k => leK c i k = true) : l = sorted c := by
  refine List.Perm.eq_of_pairwise (fun a b _ _ h1 h2 => ?_) hu (sorted_up c) (hp.trans (sorted_perm c).symm)
  have x := leK_iff.mp h1
  have y := leK_iff.mp h2
  omega
theorem sorted_nodup (c : Cellar) : (sorted c).Nodup := (sorted_perm c).nodup_iff.mpr List.nodup_range
theorem sorted_lt {c : Cellar} {i : Nat} (h : i ∈ sorted c) : i < c.length := List.mem_range.mp ((sorted_perm c).mem_iff.mp h)
theorem sorted_mem {c : Cellar} {i : Nat} (h : i < c.length) : i ∈ sorted c := (sorted_perm c).mem_iff.mpr (List.mem_range.mpr h)
/-- one kind: as many as are there and go in whole -/
def takenOf (c : Cellar) (i v : Nat) : Nat := min (c.getD i ⟨0, 0⟩).stock (v / (c.getD i ⟨0, 0⟩).size)
/-- the program's turn -/
def turn (c : Cellar) (s : List Nat × Nat) (i : Nat) : List Nat × Nat := (s.1.set i (takenOf c i s.2), s.2 - takenOf c i s.2 * sizeAt c i)
theorem plainFrom_cons {c : Cellar} {i v : Nat} {l : List Nat} (h : 1 ≤ sizeAt c i) : plainFrom c (i :: l) v = ((i, takenOf c i v) :: (plainFrom c l (v - takenOf c i v * sizeAt c i)).1, (plainFrom c l (v - takenOf c i v * sizeAt c i)).2) := by
  have h0 : ¬ (c.getD i ⟨0, 0⟩).size = 0 := by
    unfold sizeAt at h
    omega
  show (let k := c.getD i ⟨0, 0⟩; let n := if k.size = 0 then 0 else min k.stock (v / k.size); let r := plainFrom c l (v - n * k.size); ((i, n) :: r.1, r.2)) = _
  simp only [if_neg h0]
  rfl
theorem plain_go {c : Cellar} : ∀ (l : List Nat) (t : List Nat) (v : Nat), l.Nodup → (∀ i ∈ l, 1 ≤ sizeAt c i) → (∀ i ∈ l, i < t.length) →
    (l.foldl (turn c) (t, v)).2 = (plainFrom c l v).2 ∧ (l.foldl (turn c) (t, v)).1.length = t.length ∧
      ∀ j, (l.foldl (turn c) (t, v)).1[j]? = match (plainFrom c l v).1.find? (fun x => x.1 == j) with
        | some x => some x.2
        | none => t[j]?
  | [], t, v, _, _, _ => ⟨rfl, rfl, fun j => rfl⟩
  | i :: l, t, v, hn, hs, hl => by
    obtain ⟨n1, n2⟩ := List.nodup_cons.mp hn
    have ih := plain_go l (t.set i (takenOf c i v)) (v - takenOf c i v * sizeAt c i) n2 (fun x hx => hs x (List.mem_cons_of_mem _ hx)) (fun x hx => by rw [List.length_set]; exact hl x (List.mem_cons_of_mem _ hx))
    obtain ⟨a, b, d⟩ := ih
    have it : i < t.length := hl i List.mem_cons_self
    rw [plainFrom_cons (hs i List.mem_cons_self)]
    refine ⟨a, by rw [List.foldl_cons]; rw [List.length_set] at b; exact b, fun j => ?_⟩
    rw [List.foldl_cons]
    refine (d j).trans ?_
    by_cases e : i = j
    · subst e
      have no : (plainFrom c l (v - takenOf c i v * sizeAt c i)).1.find? (fun x => x.1 == i) = none := by
        refine List.find?_eq_none.mpr fun x hx q => n1 ?_
        have sub : ∀ (l : List Nat) (v : Nat) (x : Nat × Nat), x ∈ (plainFrom c l v).1 → x.1 ∈ l := by
          intro l
          induction l with
          | nil => intro v x hx; cases hx
          | cons k l ih =>
            intro v x hx
            rcases List.mem_cons.mp hx with z | z
            · rw [z]
              exact List.mem_cons_self
            · exact List.mem_cons_of_mem _ (ih _ x z)
        have e := sub _ _ _ hx
        rw [eq_of_beq q] at e
        exact e
      rw [no]
      show (t.set i (takenOf c i v))[i]? = _
      rw [List.find?_cons_of_pos (by simp), List.getElem?_set_self it]
    · rw [List.find?_cons_of_neg (by simpa using e)]
      cases (plainFrom c l (v - takenOf c i v * sizeAt c i)).1.find? (fun x => x.1 == j) with
      | some x => rfl
      | none =>
        show (t.set i (takenOf c i v))[j]? = t[j]?
        exact List.getElem?_set_ne e
/-- the program's run of the largest first -/
def runPlain (c : Cellar) (v : Nat) : List Nat × Nat := (sorted c).foldl (turn c) (List.replicate c.length 0, v)
theorem sizeAt_of {c : Cellar} (g : Good c) {i : Nat} (h : i < c.length) : 1 ≤ sizeAt c i ∧ sizeAt c i ≤ 60 := by
  have e : c.getD i ⟨0, 0⟩ = c[i] := by
    rw [List.getD_eq_getElem?_getD, List.getElem?_eq_getElem h]
    rfl
  unfold sizeAt
  rw [e]
  have := g.ok _ (List.getElem_mem h)
  exact ⟨this.1, this.2.1⟩
theorem plain_eq {c : Cellar} (g : Good c) (v : Nat) : plain c v = runPlain c v := by
  obtain ⟨a, b, d⟩ := plain_go (c := c) (sorted c) (List.replicate c.length 0) v (sorted_nodup c) (fun i hi => (sizeAt_of g (sorted_lt hi)).1) (fun i hi => by rw [List.length_replicate]; exact sorted_lt hi)
  unfold runPlain
  refine Prod.ext ?_ a.symm
  refine List.ext_getElem? fun j => ?_
  rw [d j]
  show ((List.range c.length).map fun i => (((plainFrom c (sorted c) v).1.find? fun x => x.1 == i).map fun x => x.2).getD 0)[j]? = _
  rw [List.getElem?_map]
  by_cases h : j < c.length
  · rw [List.getElem?_range h, Option.map_some]
    cases (plainFrom c (sorted c) v).1.find? (fun x => x.1 == j) with
    | some x => rfl
    | none =>
      show some 0 = (List.replicate c.length 0)[j]?
      rw [List.getElem?_replicate, if_pos h]
  · have e1 : (List.range c.length)[j]? = none := List.getElem?_eq_none (by rw [List.length_range]; omega)
    rw [e1]
    cases e : (plainFrom c (sorted c) v).1.find? (fun x => x.1 == j) with
    | none =>
      show none = (List.replicate c.length 0)[j]?
      rw [List.getElem?_eq_none (by rw [List.length_replicate]; omega)]
    | some x =>
      have q := d j
      rw [e] at q
      have : (List.foldl (turn c) (List.replicate c.length 0, v) (sorted c)).fst[j]? = none := List.getElem?_eq_none (by rw [b, List.length_replicate]; omega)
      rw [this] at q
      cases q
theorem run_len (c : Cellar) : ∀ (l : List Nat) (t : List Nat) (v : Nat), (l.foldl (turn c) (t, v)).1.length = t.length
  | [], _, _ => rfl
  | i :: l, t, v => by
    rw [List.foldl_cons]
    refine (run_len c l _ _).trans ?_
    exact List.length_set
theorem run_more {c : Cellar} {l : List Nat} {j i : Nat} {s : List Nat × Nat} (h : l[j]? = some i) : (l.take (j + 1)).foldl (turn c) s = turn c ((l.take j).foldl (turn c) s) i := by
  rw [List.take_add_one, h, List.foldl_append]
  rfl
theorem run_le (c : Cellar) : ∀ (l : List Nat) (t : List Nat) (v : Nat), (l.foldl (turn c) (t, v)).2 ≤ v
  | [], _, _ => Nat.le_refl _
  | i :: l, t, v => by
    rw [List.foldl_cons]
    exact Nat.le_trans (run_le c l _ _) (Nat.sub_le _ _)
theorem taken_le {c : Cellar} {i v : Nat} : takenOf c i v * sizeAt c i ≤ v := by
  unfold takenOf sizeAt
  exact Nat.le_trans (Nat.mul_le_mul_right _ (Nat.min_le_right _ _)) (Nat.div_mul_le_self _ _)
theorem plain_len {c : Cellar} (g : Good c) (v : Nat) : (plain c v).1.length = c.length := by
  rw [plain_eq g]
  unfold runPlain
  rw [run_len, List.length_replicate]
end Ck

/-! The request: how a list of whole numbers is read as calls, and what is due, call by call. -/
namespace Ck
open Sj07

theorem row_some {r x s : List Int} (h : PyFlat.row r = some (x, s)) : ∃ n : Int, r = n :: (x ++ s) ∧ n = (x.length : Int) := by
  cases r with
  | nil => cases h
  | cons n r =>
    have h : (if 0 ≤ n ∧ n.toNat ≤ r.length then some (r.take n.toNat, r.drop n.toNat) else none) = some (x, s) := h
    by_cases c : 0 ≤ n ∧ n.toNat ≤ r.length
    · rw [if_pos c] at h
      have e := Option.some.inj h
      have e1 : r.take n.toNat = x := congrArg Prod.fst e
      have e2 : r.drop n.toNat = s := congrArg Prod.snd e
      refine ⟨n, ?_, ?_⟩
      · rw [← e1, ← e2, List.take_append_drop]
      · rw [← e1, List.length_take]
        omega
    · rw [if_neg c] at h
      cases h
theorem rows_none {k : Nat} {r t : List Int} (h : PyFlat.rows k r = some ([], t)) : k = 0 ∧ r = t := by
  cases k with
  | zero =>
    unfold PyFlat.rows at h
    exact ⟨rfl, congrArg Prod.snd (Option.some.inj h)⟩
  | succ k =>
    unfold PyFlat.rows at h
    cases e : PyFlat.row r with
    | none =>
      rw [e] at h
      cases h
    | some x =>
      obtain ⟨x, s⟩ := x
      rw [e] at h
      cases e2 : PyFlat.rows k s with
      | none =>
        simp only [e2] at h
        cases h
      | some y =>
        obtain ⟨y, u⟩ := y
        simp only [e2] at h
        cases h
/-- a call of one row, as it stands in the request -/
theorem call_some {l : List Int} {c : List (List Int)} {t : List Int} (h : PyWide.call l = some (c, t)) (h1 : c.length = 1) : ∃ (p : Int) (ns : List Int), c = [p :: ns] ∧ l = p :: (ns.length : Int) :: (ns ++ 0 :: t) := by
  cases l with
  | nil => cases h
  | cons p r =>
    unfold PyWide.call at h
    dsimp only at h
    cases e : PyFlat.row r with
    | none =>
      rw [e] at h
      cases h
    | some x =>
      obtain ⟨ns, s⟩ := x
      rw [e] at h
      obtain ⟨n, e1, e2⟩ := row_some e
      cases s with
      | nil => cases h
      | cons k u =>
        simp only at h
        by_cases hk : 0 ≤ k
        · rw [if_pos hk] at h
          cases e3 : PyFlat.rows k.toNat u with
          | none =>
            simp only [e3] at h
            cases h
          | some y =>
            obtain ⟨xs, w⟩ := y
            simp only [e3] at h
            have e4 := Option.some.inj h
            have e5 : (p :: ns) :: xs = c := congrArg Prod.fst e4
            have e6 : w = t := congrArg Prod.snd e4
            subst e5 e6
            have e7 : xs = [] := List.eq_nil_of_length_eq_zero (by rw [List.length_cons] at h1; omega)
            subst e7
            obtain ⟨k0, e8⟩ := rows_none e3
            refine ⟨p, ns, rfl, ?_⟩
            have e9 : k = 0 := by omega
            rw [e1, e2, e8, e9]
        · rw [if_neg hk] at h
          cases h
theorem calls_cons {f : Nat} {p : Int} {r : List Int} {cs : List (List (List Int))} (h : PyWide.calls f (p :: r) = some cs) : ∃ f' c t cs', PyWide.call (p :: r) = some (c, t) ∧ PyWide.calls f' t = some cs' ∧ cs = c :: cs' := by
  cases f with
  | zero =>
    unfold PyWide.calls at h
    cases h
  | succ f =>
    unfold PyWide.calls at h
    cases e : PyWide.call (p :: r) with
    | none =>
      rw [e] at h
      cases h
    | some x =>
      obtain ⟨c, t⟩ := x
      rw [e] at h
      cases e2 : PyWide.calls f t with
      | none =>
        simp only [e2] at h
        cases h
      | some cs' =>
        simp only [e2] at h
        exact ⟨f, c, t, cs', rfl, e2, (Option.some.inj h).symm⟩
theorem calls_nil {f : Nat} {cs : List (List (List Int))} (h : PyWide.calls f [] = some cs) : cs = [] := by
  cases f <;> (unfold PyWide.calls at h; exact (Option.some.inj h).symm)

/-- a call's numbers, by its place -/
inductive Form : Nat → List Nat → Call → Prop
  | begins : Form 0 [] .begins
  | kind (s n : Nat) : Form 1 [s, n] (.kind s n)
  | check (v : Nat) (r : List Nat) (h : r.length ≤ 6) : Form 2 (v :: r) (.check v r)
  | full (v : Nat) : Form 3 [v] (.full v)
  | fewest (v : Nat) : Form 4 [v] (.fewest v)
  | never (n : Nat) : Form 5 [n] (.never n)
  | plain (v : Nat) : Form 6 [v] (.plain v)
def ints' (l : List Nat) : List Int := l.map fun (n : Nat) => (n : Int)
theorem toNats (l : List Nat) : (ints' l).map Int.toNat = l := by
  unfold ints'
  rw [List.map_map]
  refine (List.map_congr_left fun x _ => ?_).trans (List.map_id l)
  show ((x : Int)).toNat = x
  omega
theorem callOf_form {a : Nat} {l : List Nat} {q : Call} (h : Sj07Neutral.callOf (ints' (a :: l)) = some q) : Form a l q := by
  unfold Sj07Neutral.callOf at h
  rw [toNats] at h
  split at h
  all_goals first
    | (rename_i e; cases e; cases h; constructor)
    | skip
  · rename_i v r e
    cases e
    split at h
    · cases h
      exact .check _ _ (by assumption)
    · cases h
  · cases h
/-- what stands in a call that may be asked -/
theorem asked_form {p : Int} {ns : List Int} (h : Sj07Neutral.asked1 [p :: ns] = true) : ∃ (a : Nat) (l : List Nat) (q : Call), p = (a : Int) ∧ ns = ints' l ∧ Sj07Neutral.callOf (p :: ns) = some q ∧ Form a l q ∧ a < 2 ^ 32 ∧ ∀ x ∈ l, x < 2 ^ 32 := by
  unfold Sj07Neutral.asked1 at h
  simp only [Bool.and_eq_true, List.headD_cons] at h
  obtain ⟨_, h1, h2⟩ := h
  have hn : ∀ z ∈ p :: ns, 0 ≤ z ∧ z < 2 ^ 32 := fun z hz => by
    have := List.all_eq_true.mp h1 z hz
    unfold Sj07Neutral.natural at this
    rw [Bool.and_eq_true, decide_eq_true_eq, decide_eq_true_eq] at this
    exact this
  have hp : p = ((p.toNat : Nat) : Int) := by
    have := hn p List.mem_cons_self
    omega
  have hns : ns = ints' (ns.map Int.toNat) := by
    unfold ints'
    rw [List.map_map]
    refine ((List.map_congr_left fun x hx => ?_).trans (List.map_id ns)).symm
    have := hn x (List.mem_cons_of_mem _ hx)
    show ((x.toNat : Nat) : Int) = x
    omega
  obtain ⟨q, hq⟩ := Option.isSome_iff_exists.mp h2
  have e : ints' (p.toNat :: ns.map Int.toNat) = p :: ns := by
    show ((p.toNat : Nat) : Int) :: ints' (ns.map Int.toNat) = p :: ns
    rw [← hp, ← hns]
  refine ⟨p.toNat, ns.map Int.toNat, q, hp, hns, hq, callOf_form (by rw [e]; exact hq), ?_, fun x hx => ?_⟩
  · have := hn p List.mem_cons_self
    omega
  · obtain ⟨z, hz, rfl⟩ := List.mem_map.mp hx
    have := hn z (List.mem_cons_of_mem _ hz)
    omega

/-- what one call answers, as one list -/
def answerOf (c : Cellar) (q : Call) : List Int := (Sj07.step c q).2.v :: (Sj07.step c q).2.l
/-- what is due for calls from a state -/
def due (c : Cellar) (cs : List (List (List Int))) : List Int := PyFlat.told (PyFlat.played Sj07Neutral.step c cs)
theorem due_nil (c : Cellar) : due c [] = [] := rfl
theorem due_cons {c : Cellar} {p : Int} {ns : List Int} {q : Call} {cs : List (List (List Int))} (h : Sj07Neutral.callOf (p :: ns) = some q) :
    due c ([p :: ns] :: cs) = ((answerOf c q).length : Int) :: (answerOf c q ++ due (Sj07.step c q).1 cs) := by
  have e : Sj07Neutral.step c [p :: ns] = ((Sj07.step c q).1, answerOf c q) := by
    unfold Sj07Neutral.step
    show (match Sj07Neutral.callOf (p :: ns) with | none => _ | some q => _) = _
    rw [h]
    rfl
  show PyFlat.told ((Sj07Neutral.step c [p :: ns]).2 :: PyFlat.played Sj07Neutral.step (Sj07Neutral.step c [p :: ns]).1 cs) = _
  rw [e]
  rfl
theorem step_good {c : Cellar} {q : Call} (g : Good c) : Good (Sj07.step c q).1 := by
  cases q with
  | begins => exact Good.nil
  | kind s n =>
    show Good (if s < 1 ∨ SIZE < s ∨ STOCK < n then (c, ok (-1)) else if KINDS ≤ c.length then (c, ok (-5)) else (c ++ [⟨s, n⟩], ok ((c.length : Nat) : Int))).1
    by_cases h1 : s < 1 ∨ SIZE < s ∨ STOCK < n
    · rw [if_pos h1]
      exact g
    · rw [if_neg h1]
      by_cases h2 : KINDS ≤ c.length
      · rw [if_pos h2]
        exact g
      · rw [if_neg h2]
        unfold SIZE STOCK at h1
        unfold KINDS at h2
        exact g.snoc (by omega) (by omega) (by omega) (by omega)
  | check v l =>
    show Good (if _ then (c, ok (-1)) else (c, _)).1
    split <;> exact g
  | full v =>
    show Good (if _ then (c, ok (-1)) else (c, _)).1
    split <;> exact g
  | fewest v =>
    show Good (if _ then (c, ok (-1)) else (c, _)).1
    split <;> exact g
  | never v =>
    show Good (if _ then (c, ok (-1)) else (c, _)).1
    split <;> exact g
  | plain v =>
    show Good (if _ then (c, ok (-1)) else (c, _)).1
    split <;> exact g
theorem best_len {c : Cellar} {f g : List Nat → Nat} {v : Nat} (h : Good c) : (toldBest (bestBy f g ((plans c).filter (fills c v)))).l.length ≤ 6 := by
  cases e : bestBy f g ((plans c).filter (fills c v)) with
  | none => exact Nat.zero_le _
  | some r =>
    have := row_len e
    show (Sj07.ints (r.second :: r.many :: r.row)).length ≤ 6
    unfold Sj07.ints
    rw [List.length_map, List.length_cons, List.length_cons, this]
    have := h.len
    omega
theorem answer_len {c : Cellar} {q : Call} (g : Good c) : (answerOf c q).length ≤ 7 := by
  have key : (Sj07.step c q).2.l.length ≤ 6 := by
    cases q with
    | begins => exact Nat.zero_le _
    | kind s n =>
      show (if s < 1 ∨ SIZE < s ∨ STOCK < n then (c, ok (-1)) else if KINDS ≤ c.length then (c, ok (-5)) else (c ++ [⟨s, n⟩], ok ((c.length : Nat) : Int))).2.l.length ≤ 6
      split
      · exact Nat.zero_le _
      · split <;> exact Nat.zero_le _
    | check v l =>
      show (if v < 1 ∨ ORDER < v ∨ can c l = false then (c, ok (-1)) else (c, if holds c l < v then ⟨-6, Sj07.ints [v - holds c l]⟩ else ⟨((left c v l : Nat) : Int), Sj07.ints [l.sum]⟩)).2.l.length ≤ 6
      split
      · exact Nat.zero_le _
      · show (if holds c l < v then (⟨-6, Sj07.ints [v - holds c l]⟩ : Ans) else ⟨((left c v l : Nat) : Int), Sj07.ints [l.sum]⟩).l.length ≤ 6
        split <;> exact (by decide : 1 ≤ 6)
    | full v =>
      show (if v < 1 ∨ ORDER < v then (c, ok (-1)) else (c, toldBest (Sj07.full c v))).2.l.length ≤ 6
      split
      · exact Nat.zero_le _
      · exact best_len g
    | fewest v =>
      show (if v < 1 ∨ ORDER < v then (c, ok (-1)) else (c, toldBest (Sj07.fewest c v))).2.l.length ≤ 6
      split
      · exact Nat.zero_le _
      · exact best_len g
    | never n =>
      show (if n < 1 ∨ ORDER < n then (c, ok (-1)) else (c, let l := Sj07.never c n; ⟨((l.length : Nat) : Int), Sj07.ints [l.getLastD 0]⟩)).2.l.length ≤ 6
      split
      · exact Nat.zero_le _
      · show 1 ≤ 6
        decide
    | plain v =>
      show (if v < 1 ∨ ORDER < v then (c, ok (-1)) else (c, let x := Sj07.plain c v; ⟨((x.2 : Nat) : Int), Sj07.ints (x.1.sum :: x.1)⟩)).2.l.length ≤ 6
      split
      · exact Nat.zero_le _
      · show (Sj07.ints ((Sj07.plain c v).1.sum :: (Sj07.plain c v).1)).length ≤ 6
        unfold Sj07.ints
        rw [List.length_map, List.length_cons, plain_len g]
        have := g.len
        omega
  unfold answerOf
  rw [List.length_cons]
  omega
/-- the asked request: its calls, each of them one that may be asked; what is due -/
theorem asked_calls {l : List Int} (h : PySj07.answers_asked l = true) : ∃ cs, PyWide.calls l.length l = some cs ∧ (∀ c ∈ cs, Sj07Neutral.asked1 c = true) ∧ PySj07.answers l = due [] cs := by
  unfold PySj07.answers_asked at h
  cases e : PySj07.calls l with
  | none =>
    rw [e] at h
    cases h
  | some cs =>
    rw [e] at h
    simp only [Bool.and_eq_true] at h
    have h1 := h.1.2
    unfold Sj07Neutral.asked at h1
    rw [Bool.and_eq_true] at h1
    refine ⟨cs, e, fun c hc => List.all_eq_true.mp h1.1 c hc, ?_⟩
    unfold PySj07.answers
    rw [e]
    rfl
/-- one turn's reading: at the head of the rest stands a call, its numbers behind it, no lists -/
theorem calls_turn {f : Nat} {r : List Int} {cs : List (List (List Int))} (h : PyWide.calls f r = some cs) (ha : ∀ c ∈ cs, Sj07Neutral.asked1 c = true) (hr : r ≠ []) :
    ∃ (a : Nat) (l : List Nat) (q : Call) (f' : Nat) (t : List Int) (cs' : List (List (List Int))), r = (a : Int) :: (l.length : Int) :: (ints' l ++ 0 :: t) ∧ PyWide.calls f' t = some cs' ∧ (∀ c ∈ cs', Sj07Neutral.asked1 c = true) ∧
      Form a l q ∧ (∀ x ∈ l, x < 2 ^ 32) ∧ ∀ c, due c cs = ((answerOf c q).length : Int) :: (answerOf c q ++ due (Sj07.step c q).1 cs') := by
  cases r with
  | nil => exact absurd rfl hr
  | cons p r =>
    obtain ⟨f', c, t, cs', e1, e2, rfl⟩ := calls_cons h
    have a1 := ha c List.mem_cons_self
    have hl : c.length = 1 := by
      unfold Sj07Neutral.asked1 at a1
      rw [Bool.and_eq_true] at a1
      exact eq_of_beq a1.1
    obtain ⟨p', ns, rfl, e3⟩ := call_some e1 hl
    obtain ⟨a, l, q, rfl, rfl, e4, e5, _, e6⟩ := asked_form a1
    refine ⟨a, l, q, f', t, cs', ?_, e2, fun c hc => ha c (List.mem_cons_of_mem _ hc), e5, e6, fun c => due_cons e4⟩
    rw [e3]
    unfold ints'
    rw [List.length_map]
end Ck

/-! Rules that the layer lacks: zip of a tuple and a list, the sum of a tuple, the least of a list of pairs. -/
namespace Ck
open PySem PySem.Spec PyProof.Rows L2

/-! ### zip(tuple, list) -/
/-- the tuple at a and the list at b, item by item, in new pairs; both end at once -/
def ItzM (K : PySem.W.Frag) (a b : Addr) : It where
  go := fun i H => ∃ xs ys x y, SqT K H a xs ∧ SqL K H b ys ∧ xs[i]? = some x ∧ ys[i]? = some y
  yld := fun i H v H' => ∃ T x y, v = .ref T ∧ H T = none ∧ H' = upd H T (.tup [x, y]) ∧ (∀ zs, SqT K H a zs → zs[i]? = some x) ∧ (∀ zs, SqL K H b zs → zs[i]? = some y)
  stop := fun i H => ∃ xs ys, SqT K H a xs ∧ SqL K H b ys ∧ xs.length = i ∧ ys.length = i
/-- how the five objects of such a zip stand at turn i -/
def ZipM (a b z TI TO i1 i2 : Addr) (i : Nat) (h : Heap) : Prop :=
  IsZip h z TI TO .none ∧ IsTupOf2 h TI (.ref i1) (.ref i2) ∧ (∃ x y, IsTupOf2 h TO x y) ∧ h.IsTupleIter i1 a i ∧ h.IsListIter i2 b i
theorem five {c z TI TO i1 i2 : Addr} (h : c ∈ [z, TI, TO, i1, i2]) : c = z ∨ c = TI ∨ c = TO ∨ c = i1 ∨ c = i2 := by simpa using h
theorem ZipM.stays {a b z TI TO i1 i2 : Addr} {i : Nat} {h h' : Heap} (st : ZipM a b z TI TO i1 i2 i h) (k : ∀ c ∈ [z, TI, TO, i1, i2], ∀ o, h.get? c = some o → h'.get? c = some o) : ZipM a b z TI TO i1 i2 i h' := by
  obtain ⟨s1, s2, ⟨x, y, s3⟩, s4, s5⟩ := st
  exact ⟨k z (by simp) _ s1, k TI (by simp) _ s2, ⟨x, y, k TO (by simp) _ s3⟩, s4.at fun o e => k i1 (by simp) o e, s5.at fun o e => k i2 (by simp) o e⟩
theorem ZipM.there {a b z TI TO i1 i2 : Addr} {i : Nat} {h : Heap} (st : ZipM a b z TI TO i1 i2 i h) : ∀ c ∈ [z, TI, TO, i1, i2], ∃ o, h.get? c = some o ∧ ∀ v, o.data ≠ .cell v := by
  intro c hc
  obtain ⟨s1, s2, ⟨x, y, s3⟩, ⟨o1, e1, _, d1⟩, ⟨o2, e2, _, d2⟩⟩ := st
  rcases five hc with q | q | q | q | q <;> rw [q]
  · exact ⟨_, s1, fun v w => nomatch w⟩
  · exact ⟨_, s2, fun v w => nomatch w⟩
  · exact ⟨_, s3, fun v w => nomatch w⟩
  · exact ⟨o1, e1, fun v w => by rw [d1] at w; cases w⟩
  · exact ⟨o2, e2, fun v w => by rw [d2] at w; cases w⟩
/-- what changes at no address but the five -/
theorem off_five {z TI TO i1 i2 c : Addr} (hb : c ∉ [z, TI, TO, i1, i2]) : c ≠ z ∧ c ≠ TO ∧ c ≠ i1 ∧ c ≠ i2 :=
  ⟨fun w => hb (by simp [w]), fun w => hb (by simp [w]), fun w => hb (by simp [w]), fun w => hb (by simp [w])⟩
theorem turn_zipM {P : Program} {w : World} {K : PySem.W.Frag} {names : List Expr} {kk : Nat} {tp : Pos} {a b z TI TO i1 i2 : Addr} (S : ZipSep2 z TI TO i1 i2 [i1, a] [i2, b]) (ha1 : a ≠ i1) (hb2 : b ≠ i2) :
    Turn P w K (.Tuple names kk tp) (ItzM K a b) [z, TI, TO, i1, i2] z (ZipM a b z TI TO i1 i2) := by
  refine ⟨List.mem_cons_self, fun i h st => st.there, fun i h h' st k => st.stays k, ?item, ?done, fun A i s Q E st q => wpAny_pyIter_zip st.1 q⟩
  case item =>
    intro X eP ew eK calm i pins s σ H E I own st go
    subst eP ew eK
    obtain ⟨xs, ys, x, y, tx, ly, gx, gy⟩ := go
    obtain ⟨us, rus, tup, _⟩ := I.tuple tx
    obtain ⟨ws, rws, lst, _⟩ := I.list ly
    obtain ⟨u, gu, ru⟩ := rus.get gx
    obtain ⟨v, gv, rv⟩ := rws.get gy
    have all := st.there
    obtain ⟨s1, s2, ⟨x0, y0, s3⟩, s4, s5⟩ := st
    have unhandled : X.A.in1.handled = none := I.ok.hd calm
    have lu : i < us.toArray.size := by
      rw [List.size_toArray]
      exact (List.getElem?_eq_some_iff.mp gu).1
    have lv : i < ws.toArray.size := by
      rw [List.size_toArray]
      exact (List.getElem?_eq_some_iff.mp gv).1
    have lt : ∀ c ∈ [z, TI, TO, i1, i2], c < s.heap.objs.size := fun c hm => by
      obtain ⟨o, e, _⟩ := all c hm
      exact Heap.lt_size e
    refine wpAny_pyNext_zipD2_item S (Draws.tuple unhandled i1 a ha1 us.toArray) (Draws.list unhandled i2 b hb2 ws.toArray) s1 s2 s3 ⟨s4, tup⟩ ⟨s5, lst.isList⟩ lu lv fun x1 x2 h' tk e1 e2 z' TO' t1 t2 hT hsz hk => ?_
    obtain rfl : u = x1 := by
      have q : us[i]? = some x1 := by simpa using e1
      rw [gu] at q
      exact Option.some.inj q
    obtain rfl : v = x2 := by
      have q : ws[i]? = some x2 := by simpa using e2
      rw [gv] at q
      exact Option.some.inj q
    refine ⟨_, rfl, wpAny_letOwnedTupleGo_zip (s := { s with heap := h', toks := tk }) z' fun h2 z2 sb => ?_⟩
    have pair : h2.get? s.heap.objs.size = some { cls := .type "tuple", data := .seq #[u, v] } := (sb.2 _ (Nat.ne_of_gt (lt z (by simp)))).trans hT
    have made : ObjOk X.prog X.w (upd H s.heap.objs.size (.tup [x, y])) h2 s.heap.objs.size (.tup [x, y]) :=
      ⟨by show 2 ≤ sizeLine; decide, [u, v], .cons ru (.cons rv .nil), ⟨_, pair, rfl, _, rfl⟩⟩
    have I2 := I.turnedNew (t' := tk) (fun c o hb q => (sb.2 c (off_five hb).1).trans (hk c o (off_five hb).1 (off_five hb).2.1 (off_five hb).2.2.1 (off_five hb).2.2.2 q)) own (Nat.le_refl _) made
    refine ⟨.ref s.heap.objs.size, _, I2, rfl, ⟨_, x, y, rfl, I.hok.fresh (Nat.le_refl _), rfl, fun zs hz => by rw [I.tuple_inj hz tx]; exact gx, fun zs hz => by rw [I.list_inj hz ly]; exact gy⟩, ⟨z2, ?_, ⟨u, v, ?_⟩, ?_, ?_⟩, fun c hm => ?_⟩
    · exact (sb.2 _ S.TIz).trans (hk _ _ S.TIz S.TITO S.TIi1 S.TIi2 s2)
    · exact (sb.2 _ S.TOz).trans TO'
    · exact t1.1.at fun o q => (sb.2 _ S.zi1.symm).trans q
    · exact t2.1.at fun o q => (sb.2 _ S.zi2.symm).trans q
    · rw [upd_ne (Nat.ne_of_lt (lt c hm))]
      exact (own c hm).1
  case done =>
    intro X eP ew eK calm i pins s σ H E I own st stop
    subst eP ew eK
    obtain ⟨xs, ys, tx, ly, e1, e2⟩ := stop
    obtain ⟨us, rus, tup, _⟩ := I.tuple tx
    obtain ⟨ws, rws, lst, _⟩ := I.list ly
    obtain ⟨s1, s2, ⟨x0, y0, s3⟩, s4, s5⟩ := st
    have unhandled : X.A.in1.handled = none := I.ok.hd calm
    have l1 : i = us.toArray.size := by
      rw [List.size_toArray, ← rus.length, e1]
    have l2 : i = ws.toArray.size := by
      rw [List.size_toArray, ← rws.length, e2]
    refine wpAny_pyNext_zipD2_end S (Draws.tuple unhandled i1 a ha1 us.toArray) (Draws.list unhandled i2 b hb2 ws.toArray) s1 s2 s3 ⟨s4, tup⟩ ⟨s5, lst.isList⟩ (Nat.le_of_eq l1) (Nat.le_of_eq l2) (.inl l1) fun h' tk hk => ?_
    exact ⟨rfl, I.turnedL (t' := tk) (fun c o hb q => hk c o (off_five hb).1 (off_five hb).2.1 (off_five hb).2.2.1 (off_five hb).2.2.2 q) own⟩
/-- zip(t, l), t a tuple and l a list of one length -/
def iZipM (K : PySem.W.Frag) (ta : TA) : TI := fun σ H R => ta σ H fun vs H1 => ∃ a b xs ys, vs = [.ref a, .ref b] ∧ SqT K H1 a xs ∧ SqL K H1 b ys ∧ R (ItzM K a b) H1
theorem below1 {a N : Nat} (h : a < N) : ∀ c ∈ [a], c < N := fun c hc => by
  rw [List.mem_singleton.mp hc]
  exact h
theorem apart0 {a N : Nat} (h : a < N) (j : Nat) : a ≠ N + j := by omega
theorem new_five {N c : Nat} (h : c ∈ [N + 4, N + 2, N + 3, N, N + 1]) : N ≤ c := by
  simp only [List.mem_cons, List.not_mem_nil, or_false] at h
  omega
theorem pi_zipM {X : Cx} {l r : Expr} {ta : TA} {np cp tp : Pos} {names : List Expr} {kk : Nat} (glob : Gl X "zip") (free : X.mg "zip" = none) (args : PA X [l, r] ta)
    (plain : starEach [l, r] X.env = (false, eval l X.env) :: starEach [r] X.env := by rfl) (noStar : (backTo cp (starEach [r] X.env)).any (·.1) = false := by rfl) :
    PI X (.Tuple names kk tp) (.Call (.Name "zip" np) [l, r] [] cp) (iZipM X.K ta) := by
  constructor
  intro pins s σ H R I wish
  have called := args.run cp pins s σ H _ I wish
  refine Call_ (ld_blt I glob free PyProof.Rows.boot_zip (PyProof.Rows.callWith_type1 (thn called fun us sC done => ?_) plain noStar))
  obtain ⟨_, HC, IC, rel, a, b, xs, ys, rfl, tx, ly, goOn⟩ := done
  obtain ⟨u1, u2, rfl, r2, r3⟩ := vals2 rel
  obtain rfl : u1 = Value.ref a := r2
  obtain rfl : u2 = Value.ref b := r3
  obtain ⟨ts, _, tup, _⟩ := IC.tuple tx
  obtain ⟨ws, _, lst, _⟩ := IC.list ly
  refine zip_begins2 (begins_tuple a ts.toArray) (begins_list b ws.toArray) tup lst.isList fun h' z1 z2 z3 o1 o2 _ kept => wpAny_pyIter_zip z1 ?_
  refine ⟨sC.heap.objs.size + 4, [sC.heap.objs.size + 4, sC.heap.objs.size + 2, sC.heap.objs.size + 3, sC.heap.objs.size, sC.heap.objs.size + 1], _, _, HC, rfl, IC.kept (t' := sC.toks) kept, turn_zipM (zip_sep2 (below1 tup.lt) (below1 lst.lt)) (apart0 tup.lt 0) (apart0 lst.lt 1), ⟨z1, z2, ⟨_, _, z3⟩, ⟨_, o1, rfl, rfl⟩, ⟨_, o2, rfl, rfl⟩⟩, fun c hm => ?_, goOn⟩
  exact IC.fpOk (new_five hm) (IC.hok.fresh (new_five hm))
/-- .. as a walk -/
theorem walk_zipM {K : PySem.W.Frag} {a b : Addr} {xs ys : List V} (len : xs.length = ys.length) : Walk (ItzM K a b) xs.length (fun H => SqT K H a xs ∧ SqL K H b ys) (YPair (fun i => xs[i]?) (fun i => ys[i]?)) where
  goes := fun i H lt both => ⟨xs, ys, _, _, both.1, both.2, List.getElem?_eq_getElem lt, List.getElem?_eq_getElem (len ▸ lt)⟩
  stops := fun H both => ⟨xs, ys, both.1, both.2, rfl, len.symm⟩
  yields := fun i H v H' _ both given => by
    obtain ⟨T, x, y, e1, e2, e3, f1, f2⟩ := given
    exact ⟨T, x, y, e1, e2, e3, f1 xs both.1, f2 ys both.2⟩
/-- zip of two lists of one length -/
theorem walk_zipL {K : PySem.W.Frag} {a b : Addr} {xs ys : List V} (len : xs.length = ys.length) : Walk (Itz K a b) xs.length (fun H => SqL K H a xs ∧ SqL K H b ys) (YPair (fun i => xs[i]?) (fun i => ys[i]?)) :=
  walk_zip (by rw [len, Nat.min_self])

/-! ### sum(tuple) -/
def rSumT (K : PySem.W.Frag) : List V → Hp → VK → Prop := fun vs H Q => ∃ (a : Addr) (ns : List Int), vs = [V.ref a] ∧ SqT K H a (ns.map V.int) ∧ Q (.int ns.sum) H
theorem cr_sumT {X : Cx} (calm : X.calm = true) : CallR X (.builtin "sum") (rSumT X.K) := by
  intro pins s σ H args given Q I rel wish
  obtain ⟨t, ns, rfl, items, goOn⟩ := wish
  obtain ⟨us, rus, tup, _⟩ := I.tuple items
  rw [Vals.ref1 rel]
  have are := rus.ints
  obtain ⟨ps, whole⟩ := are.allInts.items
  have told := are.numsOf
  have stands : s.heap.IsTuple t us.toArray := tup
  rw [whole] at stands
  have told' : numsOf (intItems ps).toList = ns := by
    rw [← whole]
    exact told
  rw [nums_intItems] at told'
  refine PySem.W.ktm_sumG (I.ok.hd calm) stands fun h' tk u kept => ⟨.int ns.sum, H, I.kept kept, ⟨u, ?_⟩, goOn⟩
  have all : (ps.toList.map (·.1)).take ps.size = ps.toList.map (·.1) := List.take_of_length_le (by simp)
  rw [preSum_eq, all, told']

/-! ### min(list of pairs) -/
abbrev PairAt (K : PySem.W.Frag) (H : Hp) (v : V) (p : Nat × Nat) : Prop := ∃ t, v = .ref t ∧ SqT K H t [.int (p.1 : Nat), .int (p.2 : Nat)]
def iP (p : Nat × Nat) : Int × Int := ((p.1 : Int), (p.2 : Int))
def rMinP (K : PySem.W.Frag) : List V → Hp → VK → Prop := fun vs H Q => ∃ (a : Addr) (xs : List V) (ps : List (Nat × Nat)), vs = [V.ref a] ∧ SqL K H a xs ∧ Paired (PairAt K H) xs ps ∧ ps ≠ [] ∧
  ∀ t m, m ∈ ps → (∀ y ∈ ps, before y m = false) → SqT K H t [.int (m.1 : Nat), .int (m.2 : Nat)] → Q (.ref t) H
theorem hold_pairs {X : Cx} {pins : List (Addr × Obj)} {σ : L2.St} {H : Hp} {s : Shared} (I : Inv X pins σ H s) : ∀ {xs : List V} {ps : List (Nat × Nat)} {us : List Value}, Paired (PairAt X.K H) xs ps → Vals xs us → PySem.W.HoldAll s.heap us (ps.map iP)
  | [], [], _, _, .nil => PySem.W.HoldAll.nil
  | _ :: _, _ :: _, _, .cons h t, .cons r q => by
    obtain ⟨t0, rfl, h1⟩ := h
    cases r
    obtain ⟨its, rv, p, _⟩ := I.tuple h1
    obtain ⟨u1, u2, rfl, ⟨k1, rfl⟩, ⟨k2, rfl⟩⟩ := vals2 rv
    exact PySem.W.HoldAll.cons (PySem.W.holds_pair p (PySem.W.holds_int _ k1) (PySem.W.holds_int _ k2)) (hold_pairs I t q)
theorem lt_iP (x y : Nat × Nat) : PySem.W.DatumOrd.lt (iP x) (iP y) = before x y := by
  show (if ((x.1 : Nat) : Int) = ((y.1 : Nat) : Int) then decide (((x.2 : Nat) : Int) < ((y.2 : Nat) : Int)) else decide (((x.1 : Nat) : Int) < ((y.1 : Nat) : Int))) = before x y
  have e : before x y = decide (x.1 < y.1 ∨ (x.1 = y.1 ∧ x.2 < y.2)) := by
    rw [Bool.eq_iff_iff, before_iff, decide_eq_true_eq]
  rw [e]
  by_cases h : ((x.1 : Nat) : Int) = ((y.1 : Nat) : Int)
  · rw [if_pos h]
    exact decide_eq_decide.mpr (by omega)
  · rw [if_neg h]
    exact decide_eq_decide.mpr (by omega)
theorem min_iP : ∀ (xs : List (Nat × Nat)) (x : Nat × Nat), ∃ m, PySem.W.minOf (iP x) (xs.map iP) = iP m ∧ m ∈ x :: xs ∧ ∀ y ∈ x :: xs, before y m = false
  | [], x => ⟨x, rfl, List.mem_cons_self, fun y hy => by
      rw [List.mem_singleton.mp hy]
      cases e : before x x
      · rfl
      · have := before_iff.mp e
        omega⟩
  | z :: xs, x => by
    have step : PySem.W.minOf (iP x) ((z :: xs).map iP) = PySem.W.minOf (if before z x = true then iP z else iP x) (xs.map iP) := by
      show (xs.map iP).foldl _ (if PySem.W.DatumOrd.lt (iP z) (iP x) = true then iP z else iP x) = _
      rw [lt_iP]
      rfl
    rw [step]
    by_cases h : before z x = true
    · rw [if_pos h]
      obtain ⟨m, e, h1, h2⟩ := min_iP xs z
      refine ⟨m, e, List.mem_cons_of_mem _ h1, fun y hy => ?_⟩
      rcases List.mem_cons.mp hy with rfl | hy
      · have a := h2 z List.mem_cons_self
        cases e : before y m
        · rfl
        · have b := before_iff.mp h
          have c := before_iff.mp e
          have d : before z m = true := before_iff.mpr (by omega)
          rw [d] at a
          cases a
      · exact h2 y hy
    · rw [if_neg h]
      obtain ⟨m, e, h1, h2⟩ := min_iP xs x
      refine ⟨m, e, ?_, fun y hy => ?_⟩
      · rcases List.mem_cons.mp h1 with q | q
        · rw [q]
          exact List.mem_cons_self
        · exact List.mem_cons_of_mem _ (List.mem_cons_of_mem _ q)
      · rcases List.mem_cons.mp hy with rfl | hy
        · exact h2 y List.mem_cons_self
        · rcases List.mem_cons.mp hy with rfl | hy
          · have a := h2 x List.mem_cons_self
            cases e : before y m
            · rfl
            · have b : ¬ (y.1 < x.1 ∨ (y.1 = x.1 ∧ y.2 < x.2)) := fun w => h (before_iff.mpr w)
              have c := before_iff.mp e
              have d : ¬ (x.1 < m.1 ∨ (x.1 = m.1 ∧ x.2 < m.2)) := fun w => by
                rw [before_iff.mpr w] at a
                cases a
              omega
          · exact h2 y (List.mem_cons_of_mem _ hy)
theorem cr_minP {X : Cx} (hc : X.calm = true) (hu : X.A.units + 64 < cLine) : CallR X (.builtin "min") (rMinP X.K) := by
  intro pins s σ H args given Q I r wish
  obtain ⟨a, xs, ps, rfl, there, hp, hne, q⟩ := wish
  obtain ⟨its, rv, hl, _⟩ := I.list there
  rw [Vals.ref1 r]
  have hh := hold_pairs I hp rv
  cases ps with
  | nil => exact absurd rfl hne
  | cons p ps =>
    refine PySem.W.min_list_datum (α := Int × Int) (x := iP p) (xs := ps.map iP) (I.ok.hd hc) hl.isList hh (by show X.A.units + 1 + 1 < cLine; omega) fun i v h' tk hi hv hk => ?_
    obtain ⟨m, em, hm, hmin⟩ := min_iP ps p
    rw [em] at hv
    obtain ⟨x, hx⟩ : ∃ x, xs[i]? = some x := by
      have : i < its.length := (List.getElem?_eq_some_iff.mp (by simpa using hi)).1
      exact ⟨_, List.getElem?_eq_getElem (by rw [rv.length]; exact this)⟩
    obtain ⟨u, hu', ru⟩ := rv.get hx
    obtain rfl : v = u := by
      have q : its[i]? = some v := by simpa using hi
      rw [hu'] at q
      exact (Option.some.inj q).symm
    -- the item is a tuple of two numbers; they are the least ones
    have hpi : ∀ {xs : List V} {ps : List (Nat × Nat)}, Paired (PairAt X.K H) xs ps → ∀ (i : Nat) x, xs[i]? = some x → ∃ k, PairAt X.K H x k := by
      intro xs ps h
      induction h with
      | nil => intro i x e; simp at e
      | cons a _ ih =>
        intro i x e
        cases i with
        | zero =>
          obtain rfl := Option.some.inj e
          exact ⟨_, a⟩
        | succ i => exact ih i x e
    obtain ⟨k, t, rfl, ht⟩ := hpi hp i x hx
    cases ru
    have I' : Inv X pins σ H { s with heap := h', toks := tk } := I.kept hk
    obtain ⟨ws, rw', pt, _⟩ := I'.tuple ht
    obtain ⟨u1, u2, rfl, ⟨k1, rfl⟩, ⟨k2, rfl⟩⟩ := vals2 rw'
    obtain ⟨l, b1, b2, el, tl, hb1, hb2⟩ := PySem.W.pair_of_holds hv
    cases el
    obtain ⟨o1, e1, _, n1, d1⟩ := tl
    obtain ⟨o2, e2, _, n2, d2⟩ := pt
    rw [e1] at e2
    cases e2
    rw [d1] at d2
    obtain ⟨c1, w1⟩ := PySem.W.int_of_holds hb1
    obtain ⟨c2, w2⟩ := PySem.W.int_of_holds hb2
    subst w1 w2
    have e3 : k = m := by
      injection d2 with d3 d4
      have d5 := congrArg Array.toList d3
      simp only [List.cons.injEq, and_true, Value.int.injEq] at d5
      obtain ⟨⟨q1, _⟩, ⟨q2, _⟩⟩ := d5
      have q1 : ((m.1 : Nat) : Int) = ((k.1 : Nat) : Int) := q1
      have q2 : ((m.2 : Nat) : Int) = ((k.2 : Nat) : Int) := q2
      exact Prod.ext (by omega) (by omega)
    subst e3
    exact ⟨.ref t, H, I', rfl, q t k hm hmin ht⟩
end Ck

/-! What stands in the heap: kinds, plans, rows; what is kept. -/
namespace Ck
open PySem PySem.Spec PyProof.Rows L2
open Sj07 (Cellar Call)

/-- the i-th statement of the program -/
def top (i : Nat) : Stmt := PySem.Challenge.pw_caskorders_s01_answers.main.body.getD i (.Pass ⟨0, 0, 0, 0⟩)

/-! ### numbers -/
def natsV (l : List Nat) : List V := l.map fun (n : Nat) => V.int (n : Int)
theorem natsV_ints (l : List Nat) : (ints' l).map V.int = natsV l := by
  unfold ints' natsV
  rw [List.map_map]
  rfl
theorem natsV_get {l : List Nat} {i : Nat} {x : V} (h : (natsV l)[i]? = some x) : ∃ n, l[i]? = some n ∧ x = .int ((n : Nat) : Int) := by
  unfold natsV at h
  rw [List.getElem?_map] at h
  cases e : l[i]? with
  | none =>
    rw [e] at h
    cases h
  | some n =>
    rw [e] at h
    exact ⟨n, rfl, (Option.some.inj h).symm⟩
theorem natsV_at {l : List Nat} {i n : Nat} (h : l[i]? = some n) : (natsV l)[i]? = some (.int ((n : Nat) : Int)) := by
  unfold natsV
  rw [List.getElem?_map, h]
  rfl
theorem natsV_len (l : List Nat) : (natsV l).length = l.length := List.length_map _
theorem natsV_app (l m : List Nat) : natsV (l ++ m) = natsV l ++ natsV m := List.map_append
theorem sum_ints : ∀ l : List Nat, (ints' l).sum = ((l.sum : Nat) : Int)
  | [] => rfl
  | n :: l => by
    show (((n : Nat) : Int) :: ints' l).sum = (((n :: l).sum : Nat) : Int)
    rw [List.sum_cons, List.sum_cons, sum_ints l, Int.natCast_add]
theorem take_snoc {α : Type} {l : List α} {i : Nat} {x : α} (h : l[i]? = some x) : l.take (i + 1) = l.take i ++ [x] := by
  rw [List.take_add_one, h]
  rfl
theorem get_lt {α : Type} {l : List α} {i : Nat} {x : α} (h : l[i]? = some x) : i < l.length := (List.getElem?_eq_some_iff.mp h).1
theorem line_big {n : Nat} (h : n ≤ 30000) : n < sizeLine := by
  rw [sizeLine_eq]
  omega

/-! ### what is kept -/
/-- all but what stands at D is as it was -/
def But (D : Addr) (H H' : Hp) : Prop := ∀ b o, b ≠ D → H b = some o → H' b = some o
theorem But.refl (D : Addr) (H : Hp) : But D H H := fun _ _ _ h => h
theorem But.trans {D : Addr} {H H1 H2 : Hp} (a : But D H H1) (b : But D H1 H2) : But D H H2 := fun c o n h => b c o n (a c o n h)
theorem But.upd {D : Addr} {H : Hp} {o : HO} : But D H (upd H D o) := fun b x n h => by
  rw [upd_ne n]
  exact h
theorem same_upd {H : Hp} {p : Addr} {o : HO} (h : H p = none) : Same H (upd H p o) := fun b x e => by
  rw [upd_ne (ne_of_none e h)]
  exact e
theorem But.of {D : Addr} {H H' : Hp} (h : Same H H') : But D H H' := fun b o _ e => h b o e
/-- what was there ahead of D's making is as it was -/
theorem But.same {D : Addr} {H H1 H2 : Hp} (hD : H D = none) (s : Same H H1) (b : But D H1 H2) : Same H H2 := fun c o e => b c o (ne_of_none e hD) (s c o e)

/-! ### tuples in a list -/
def TupAt (H : Hp) (v : V) (xs : List V) : Prop := ∃ t, v = .ref t ∧ H t = some (.tup xs)
abbrev Tups (H : Hp) : List V → List (List V) → Prop := Paired (TupAt H)
theorem TupAt.same {H H' : Hp} {v : V} {xs : List V} (s : Same H H') (h : TupAt H v xs) : TupAt H' v xs := by
  obtain ⟨t, e, h⟩ := h
  exact ⟨t, e, s _ _ h⟩
theorem Tups.same {H H' : Hp} {vs : List V} {xs : List (List V)} (s : Same H H') (h : Tups H vs xs) : Tups H' vs xs := Paired.mapP h fun _ _ q => q.same s
/-- a write to a list leaves the tuples -/
theorem TupAt.but {D : Addr} {H H' : Hp} {v : V} {xs ys : List V} (hD : H D = some (.lst ys)) (s : But D H H') (h : TupAt H v xs) : TupAt H' v xs := by
  obtain ⟨t, e, h⟩ := h
  exact ⟨t, e, s _ _ (ne_of h hD (fun z => nomatch z)) h⟩
theorem Tups.but {D : Addr} {H H' : Hp} {vs : List V} {xs : List (List V)} {ys : List V} (hD : H D = some (.lst ys)) (s : But D H H') (h : Tups H vs xs) : Tups H' vs xs := Paired.mapP h fun _ _ q => q.but hD s
theorem paired_app {α β : Type} {F : α → β → Prop} : ∀ {l₁ l₂ : List α} {m₁ m₂ : List β}, Paired F l₁ m₁ → Paired F l₂ m₂ → Paired F (l₁ ++ l₂) (m₁ ++ m₂)
  | _, _, _, _, .nil, h => h
  | _, _, _, _, .cons a t, h => .cons a (paired_app t h)
theorem paired_one {α β : Type} {F : α → β → Prop} {a : α} {b : β} (h : F a b) : Paired F [a] [b] := .cons h .nil
theorem paired_len {α β : Type} {F : α → β → Prop} : ∀ {l : List α} {m : List β}, Paired F l m → l.length = m.length
  | _, _, .nil => rfl
  | _, _, .cons _ t => congrArg (· + 1) (paired_len t)
theorem paired_at {α β : Type} {F : α → β → Prop} : ∀ {l : List α} {m : List β}, Paired F l m → ∀ {i : Nat} {a : α}, l[i]? = some a → ∃ b, m[i]? = some b ∧ F a b
  | _, _, .nil, i, a, h => by simp at h
  | _, _, .cons q t, 0, a, h => by
    obtain rfl := Option.some.inj h
    exact ⟨_, rfl, q⟩
  | _, _, .cons q t, i + 1, a, h => paired_at t (i := i) h
theorem paired_map {α β γ : Type} {F : α → γ → Prop} {f : β → γ} : ∀ {l : List α} {m : List β}, Paired F l (m.map f) → Paired (fun a b => F a (f b)) l m
  | [], [], _ => .nil
  | _ :: _, _ :: _, .cons q t => .cons q (paired_map t)
  | [], _ :: _, h => nomatch h
  | _ :: _, [], h => nomatch h
theorem paired_map' {α β γ : Type} {F : α → γ → Prop} {f : β → γ} : ∀ {l : List α} {m : List β}, Paired (fun a b => F a (f b)) l m → Paired F l (m.map f)
  | _, _, .nil => .nil
  | _, _, .cons q t => .cons q (paired_map' t)
theorem map_at {α β : Type} {f : α → β} {l : List α} {i : Nat} {y : β} (h : (l.map f)[i]? = some y) : ∃ x, l[i]? = some x ∧ y = f x := by
  rw [List.getElem?_map] at h
  cases e : l[i]? with
  | none =>
    rw [e] at h
    cases h
  | some x =>
    rw [e] at h
    exact ⟨x, rfl, (Option.some.inj h).symm⟩

/-! ### a cellar -/
def kindV (k : Sj07.Kind) : List V := [.int ((k.size : Nat) : Int), .int ((k.stock : Nat) : Int)]
def KindsAt (H : Hp) (a : Addr) (c : Cellar) : Prop := ∃ vs, H a = some (.lst vs) ∧ Tups H vs (c.map kindV)
theorem KindsAt.same {H H' : Hp} {a : Addr} {c : Cellar} (s : Same H H') (h : KindsAt H a c) : KindsAt H' a c := by
  obtain ⟨vs, h1, h2⟩ := h
  exact ⟨vs, s _ _ h1, h2.same s⟩
theorem KindsAt.at {H : Hp} {vs : List V} {c : Cellar} (h : Tups H vs (c.map kindV)) {i : Nat} {v : V} (e : vs[i]? = some v) : ∃ k t, c[i]? = some k ∧ v = .ref t ∧ H t = some (.tup (kindV k)) := by
  obtain ⟨x, h1, t, h2, h3⟩ := paired_at h e
  obtain ⟨k, h4, rfl⟩ := map_at h1
  exact ⟨k, t, h4, h2, h3⟩
theorem kinds_len {H : Hp} {vs : List V} {c : Cellar} (h : Tups H vs (c.map kindV)) : vs.length = c.length := by
  rw [paired_len h, List.length_map]

/-! ### a plan: a tuple, or (of check) a list -/
def PlanAt (H : Hp) (b : Addr) (l : List Nat) : Prop := H b = some (.tup (natsV l)) ∨ H b = some (.lst (natsV l))
theorem PlanAt.same {H H' : Hp} {b : Addr} {l : List Nat} (s : Same H H') (h : PlanAt H b l) : PlanAt H' b l := h.imp (s _ _) (s _ _)
end Ck

namespace Ck
open PySem PySem.Spec PyProof.Rows L2
open Sj07 (Cellar Call)
section
variable {P : Program} {w : World} {K : PySem.W.Frag} {mg : Str → Option Value} {base : Heap}
/-! ### held -/
theorem yes {σ : L2.St} {H : Hp} {R : Bool → Hp → Prop} (h : R true H) : tYes σ H R := h
abbrev sHeld : Stmt := top 3
theorem scHeld : FnScope ["kinds", "plan", "number", "kind"] ["kinds", "plan"] (defScope sHeld) := ⟨rfl, rfl, rfl, by decide +kernel, rfl, by decide +kernel, by decide +kernel⟩
def spHeld : Sp := fun vs H Q _ => ∃ (a b : Addr) (c : Cellar) (l : List Nat), vs = [.ref a, .ref b] ∧ KindsAt H a c ∧ Good c ∧ l.length = c.length ∧ PlanAt H b l ∧ ∀ H', Same H H' → Q (.int ((Sj07.holds c l : Nat) : Int)) H'
/-- what the comprehension has made behind i turns -/
def heldBy (c : Cellar) (l : List Nat) (i : Nat) : List Nat := ((l.zip c).map fun x => x.1 * x.2.size).take i
theorem heldBy_more {c : Cellar} {l : List Nat} {i n : Nat} {k : Sj07.Kind} (h1 : l[i]? = some n) (h2 : c[i]? = some k) : heldBy c l (i + 1) = heldBy c l i ++ [n * k.size] := by
  unfold heldBy
  refine take_snoc ?_
  rw [List.getElem?_map, (List.getElem?_zip_eq_some (z := (n, k))).mpr ⟨h1, h2⟩]
  rfl
theorem heldBy_all {c : Cellar} {l : List Nat} (h : l.length = c.length) : (heldBy c l l.length).sum = Sj07.holds c l := by
  unfold heldBy
  rw [List.take_of_length_le (by rw [List.length_map, List.length_zip]; omega), holds_eq]
theorem heldBy_few {c : Cellar} {l : List Nat} (g : Good c) (h : l.length = c.length) (i : Nat) : (natsV (heldBy c l i)).length < sizeLine := by
  refine line_big ?_
  rw [natsV_len]
  unfold heldBy
  rw [List.length_take, List.length_map, List.length_zip]
  have := g.len
  omega
theorem ok_held {f : Addr} {fd : FuncData} (F : Fun K "held" "held" sHeld f fd) (mSum : mg "sum" = none) (mZip : mg "zip" = none) : FnOk P w K mg base CX0 1 f fd ["kinds", "plan"] spHeld := by
  refine F.ok scHeld (fun vs H Q E h => ?_) (fun cdv A outer s H vs Q E hr h => ?_)
  · obtain ⟨a, b, c, l, rfl, _⟩ := h
    rfl
  · obtain ⟨a, b, c, l, rfl, ⟨ks, ha, hk⟩, g, len, hp, q⟩ := h
    have len' : (natsV l).length = ks.length := by rw [natsV_len, kinds_len hk, len]
    have turn : ∀ (D : Addr) (H1 : Hp) (i : Nat) (x y : V) (T : Addr), H D = none → (natsV l)[i]? = some x → ks[i]? = some y → (Same H H1 ∧ H1 D = some (.lst (natsV (heldBy c l i)))) → H1 T = none →
        gTup K 2 (gCons (gName 2) (gCons (gName 3) gNil)) (.ref T) [some (V.ref a), some (V.ref b), none, none] (upd H1 T (.tup [x, y])) fun σ2 H2 => wipe σ2 [2, 3] = [some (V.ref a), some (V.ref b), none, none] ∧ tYes σ2 H2 fun b H3 =>
          if b = true then tOp (rI CMul fun i j => .int (i * j)) (tVar 2) (tOp (rIxT K) (tVar 3) (tC (.int 0))) σ2 H3 fun y H4 => ∃ acc, H4 D = some (.lst acc) ∧ acc.length < sizeLine ∧ (Same H (upd H4 D (.lst (acc ++ [y]))) ∧ upd H4 D (.lst (acc ++ [y])) D = some (.lst (natsV (heldBy c l (i + 1)))))
          else (Same H H3 ∧ H3 D = some (.lst (natsV (heldBy c l (i + 1))))) := by
      intro D H1 i x y T hD hx hy hP nT
      obtain ⟨s1, d1⟩ := hP
      obtain ⟨n, hn, rfl⟩ := natsV_get hx
      obtain ⟨k, t, hk1, rfl, ht⟩ := KindsAt.at hk hy
      have s2 : Same H1 (upd H1 T (.tup [.int ((n : Nat) : Int), .ref t])) := same_upd nT
      have ht2 := s2 _ _ (s1 _ _ ht)
      refine ⟨T, _, rfl, SqT.of upd_same, rfl, _, _, rfl, _, _, rfl, rfl, rfl, yes (iteT ?_)⟩
      refine ⟨_, rfl, _, rfl, t, _, 0, _, rfl, rfl, SqT.of ht2, atI_nat (j := 0) rfl, _, _, rfl, rfl, .inr ?_, _, s2 _ _ d1, heldBy_few g len i, ?_, ?_⟩
      · have := (g.ok k (List.mem_of_getElem? hk1)).2.1
        omega
      · exact But.same hD (s1.trans s2) But.upd
      · rw [upd_same, heldBy_more hn hk1, natsV_app]
        show some (HO.lst (_ ++ [V.int (((n : Nat) : Int) * ((k.size : Nat) : Int))])) = some (HO.lst (_ ++ [V.int (((n * k.size : Nat)) : Int)]))
        rw [Int.natCast_mul]
    have fin : ∀ (D : Addr) (H1 : Hp), (Same H H1 ∧ H1 D = some (.lst (natsV (heldBy c l (natsV l).length)))) → rSum K [.ref D] H1 Q := by
      intro D H1 ⟨s1, d1⟩
      refine ⟨D, ints' (heldBy c l (natsV l).length), rfl, SqL.of ?_, ?_⟩
      · rw [natsV_ints]
        exact d1
      · rw [sum_ints, natsV_len, heldBy_all len]
        exact q H1 s1
    have start : ∀ D, H D = none → (Same H (upd H D (.lst [])) ∧ upd H D (.lst []) D = some (.lst (natsV (heldBy c l 0)))) := fun D hD => ⟨same_upd hD, upd_same⟩
    rcases hp with hp | hp
    · refine ⟨_, pss_one (ps_ret (pe_callB (cr_sum rfl) (by rfl) mSum (by decide +kernel) (pa_cons (pe_lc (own := [("number", 2), ("kind", 3)]) (g := gTup K 2 (gCons (gName 2) (gCons (gName 3) gNil))) (te := tOp (rI CMul fun i j => .int (i * j)) (tVar 2) (tOp (rIxT K) (tVar 3) (tC (.int 0)))) rfl scHeld.nd
        (pi_zipM (by rfl) mZip (pa_cons (pv 1) (pa_cons (pv 0) pa_nil))) (blkOk_by (N := ["kinds", "plan", "number", "kind"]) (sc := defScope sHeld) (by decide +kernel))
        (fun _ _ _ _ _ => pg_tup rfl (pgs_cons (pg_name (i := 2) scHeld.nd rfl (Or.inl rfl)) (pgs_cons (pg_name (i := 3) scHeld.nd rfl (Or.inl rfl)) pgs_nil)))
        (fun _ _ _ _ _ => pts_nil) (fun _ _ _ _ _ => pe_op op_mul (pv 2) (pe_ix ix_tup (pv 3) pe_int (fun _ _ => rfl)))) pa_nil))), ?_⟩
      refine ⟨_, rfl, _, rfl, b, a, natsV l, ks, rfl, SqT.of hp, SqL.of ha, fun D hD => ?_⟩
      exact lc_it (walk_zipM len') (fun i H1 => Same H H1 ∧ H1 D = some (.lst (natsV (heldBy c l i)))) (start D hD) (fun i H1 _ h => ⟨SqT.of (h.1 _ _ hp), SqL.of (h.1 _ _ ha)⟩) (fun i v H1 H' _ hP ⟨T, x, y, e1, nT, e2, hx, hy⟩ => by subst e1 e2; exact turn D H1 i x y T hD hx hy hP nT) (fun H1 h => fin D H1 h)
    · refine ⟨_, pss_one (ps_ret (pe_callB (cr_sum rfl) (by rfl) mSum (by decide +kernel) (pa_cons (pe_lc (own := [("number", 2), ("kind", 3)]) (g := gTup K 2 (gCons (gName 2) (gCons (gName 3) gNil))) (te := tOp (rI CMul fun i j => .int (i * j)) (tVar 2) (tOp (rIxT K) (tVar 3) (tC (.int 0)))) rfl scHeld.nd
        (pi_zip (by rfl) mZip (pa_cons (pv 1) (pa_cons (pv 0) pa_nil))) (blkOk_by (N := ["kinds", "plan", "number", "kind"]) (sc := defScope sHeld) (by decide +kernel))
        (fun _ _ _ _ _ => pg_tup rfl (pgs_cons (pg_name (i := 2) scHeld.nd rfl (Or.inl rfl)) (pgs_cons (pg_name (i := 3) scHeld.nd rfl (Or.inl rfl)) pgs_nil)))
        (fun _ _ _ _ _ => pts_nil) (fun _ _ _ _ _ => pe_op op_mul (pv 2) (pe_ix ix_tup (pv 3) pe_int (fun _ _ => rfl)))) pa_nil))), ?_⟩
      refine ⟨_, rfl, _, rfl, b, a, natsV l, ks, rfl, SqL.of hp, SqL.of ha, fun D hD => ?_⟩
      exact lc_it (walk_zipL len') (fun i H1 => Same H H1 ∧ H1 D = some (.lst (natsV (heldBy c l i)))) (start D hD) (fun i H1 _ h => ⟨SqL.of (h.1 _ _ hp), SqL.of (h.1 _ _ ha)⟩) (fun i v H1 H' _ hP ⟨T, x, y, e1, nT, e2, hx, hy⟩ => by subst e1 e2; exact turn D H1 i x y T hD hx hy hP nT) (fun H1 h => fin D H1 h)
end
end Ck

namespace Ck
open PySem PySem.Spec PyProof.Rows L2
open Sj07 (Cellar Call)
/-- one tuple more at a new list's end -/
theorem push_tup {H0 H3 H4 : Hp} {D : Addr} {ds : List V} {xs : List (List V)} {y : V} {x : List V} (hD : H0 D = none) (s : Same H0 H3) (d : H3 D = some (.lst ds)) (t : Tups H3 ds xs) (s4 : Same H3 H4) (ty : TupAt H4 y x) :
    Same H0 (upd H4 D (.lst (ds ++ [y]))) ∧ upd H4 D (.lst (ds ++ [y])) D = some (.lst (ds ++ [y])) ∧ Tups (upd H4 D (.lst (ds ++ [y]))) (ds ++ [y]) (xs ++ [x]) :=
  ⟨But.same hD (s.trans s4) But.upd, upd_same, Tups.but (s4 _ _ d) But.upd (paired_app (t.same s4) (paired_one ty))⟩
/-- a test over naturals -/
theorem dec_le {a b : Nat} : decide (((a : Nat) : Int) ≤ ((b : Nat) : Int)) = decide (a ≤ b) := decide_eq_decide.mpr (by omega)
section
variable {P : Program} {w : World} {K : PySem.W.Frag} {mg : Str → Option Value} {base : Heap}
/-! ### casks -/
abbrev sCasks : Stmt := top 4
theorem scCasks : FnScope ["plan"] ["plan"] (defScope sCasks) := ⟨rfl, rfl, rfl, by decide +kernel, rfl, by decide +kernel, by decide +kernel⟩
def spCasks : Sp := fun vs H Q _ => ∃ (b : Addr) (l : List Nat), vs = [.ref b] ∧ H b = some (.tup (natsV l)) ∧ Q (.int ((l.sum : Nat) : Int)) H
theorem ok_casks {f : Addr} {fd : FuncData} (F : Fun K "casks" "casks" sCasks f fd) (mSum : mg "sum" = none) : FnOk P w K mg base CX0 1 f fd ["plan"] spCasks := by
  refine F.ok scCasks (fun vs H Q E h => ?_) (fun cdv A outer s H vs Q E hr h => ?_)
  · obtain ⟨b, l, rfl, _⟩ := h
    rfl
  · obtain ⟨b, l, rfl, hp, q⟩ := h
    refine ⟨_, pss_one (ps_ret (pe_callB (cr_sumT rfl) (by rfl) mSum (by decide +kernel) (pa_cons (pv 0) pa_nil))), ?_⟩
    refine ⟨_, rfl, b, ints' l, rfl, SqT.of ?_, ?_⟩
    · rw [natsV_ints]
      exact hp
    · rw [sum_ints]
      exact q
/-! ### fills, room -/
abbrev sFills : Stmt := top 5
theorem scFills : FnScope ["kinds", "plan", "order"] ["kinds", "plan", "order"] (defScope sFills) := ⟨rfl, rfl, rfl, by decide +kernel, rfl, by decide +kernel, by decide +kernel⟩
def spFills : Sp := fun vs H Q _ => ∃ (a b : Addr) (c : Cellar) (l : List Nat) (v : Nat), vs = [.ref a, .ref b, .int ((v : Nat) : Int)] ∧ KindsAt H a c ∧ Good c ∧ l.length = c.length ∧ PlanAt H b l ∧ ∀ H', Same H H' → Q (.bl (decide (v ≤ Sj07.holds c l))) H'
theorem ok_fills {f f1 : Addr} {fd fd1 : FuncData} (F : Fun K "fills" "fills" sFills f fd) (F1 : Fun K "held" "held" sHeld f1 fd1) (b1 : Binds K fd1 ["kinds", "plan"] []) (g1 : mg "held" = some (.ref f1)) (mSum : mg "sum" = none) (mZip : mg "zip" = none) :
    FnOk P w K mg base CX0 2 f fd ["kinds", "plan", "order"] spFills := by
  have G1 : FnOk P w K mg base CX0 1 f1 fd1 ["kinds", "plan"] spHeld := ok_held F1 mSum mZip
  refine F.ok scFills (fun vs H Q E h => ?_) (fun cdv A outer s H vs Q E hr h => ?_)
  · obtain ⟨a, b, c, l, v, rfl, _⟩ := h
    rfl
  · obtain ⟨a, b, c, l, v, rfl, hk, g, len, hp, q⟩ := h
    refine ⟨_, pss_one (ps_ret (pe_cmpR op_ge (pe_call G1 hr (by rfl) g1 F1.kp b1 .nil pass0 (pa_cons (pv 0) (pa_cons (pv 1) pa_nil))) (pv 2) (nomark _))), ?_⟩
    refine ⟨_, rfl, _, rfl, a, b, c, l, rfl, hk, g, len, hp, fun H1 s1 => ⟨_, rfl, _, _, rfl, rfl, ?_⟩⟩
    show Q (V.bl (decide (((v : Nat) : Int) ≤ ((Sj07.holds c l : Nat) : Int)))) H1
    rw [dec_le]
    exact q H1 s1
abbrev sRoom : Stmt := top 6
theorem scRoom : FnScope ["kinds", "plan", "order"] ["kinds", "plan", "order"] (defScope sRoom) := ⟨rfl, rfl, rfl, by decide +kernel, rfl, by decide +kernel, by decide +kernel⟩
/-- asked of plans that fill the order alone -/
def spRoom : Sp := fun vs H Q _ => ∃ (a b : Addr) (c : Cellar) (l : List Nat) (v : Nat), vs = [.ref a, .ref b, .int ((v : Nat) : Int)] ∧ KindsAt H a c ∧ Good c ∧ l.length = c.length ∧ PlanAt H b l ∧ v ≤ Sj07.holds c l ∧ ∀ H', Same H H' → Q (.int ((Sj07.left c v l : Nat) : Int)) H'
theorem ok_room {f f1 : Addr} {fd fd1 : FuncData} (F : Fun K "room" "room" sRoom f fd) (F1 : Fun K "held" "held" sHeld f1 fd1) (b1 : Binds K fd1 ["kinds", "plan"] []) (g1 : mg "held" = some (.ref f1)) (mSum : mg "sum" = none) (mZip : mg "zip" = none) :
    FnOk P w K mg base CX0 2 f fd ["kinds", "plan", "order"] spRoom := by
  have G1 : FnOk P w K mg base CX0 1 f1 fd1 ["kinds", "plan"] spHeld := ok_held F1 mSum mZip
  refine F.ok scRoom (fun vs H Q E h => ?_) (fun cdv A outer s H vs Q E hr h => ?_)
  · obtain ⟨a, b, c, l, v, rfl, _⟩ := h
    rfl
  · obtain ⟨a, b, c, l, v, rfl, hk, g, len, hp, hv, q⟩ := h
    refine ⟨_, pss_one (ps_ret (pe_op op_sub (pe_call G1 hr (by rfl) g1 F1.kp b1 .nil pass0 (pa_cons (pv 0) (pa_cons (pv 1) pa_nil))) (pv 2))), ?_⟩
    refine ⟨_, rfl, _, rfl, a, b, c, l, rfl, hk, g, len, hp, fun H1 s1 => ⟨_, rfl, _, _, rfl, rfl, ?_⟩⟩
    have e : ((Sj07.holds c l : Nat) : Int) - ((v : Nat) : Int) = ((Sj07.left c v l : Nat) : Int) := by
      unfold Sj07.left
      omega
    show Q (V.int (((Sj07.holds c l : Nat) : Int) - ((v : Nat) : Int))) H1
    rw [e]
    exact q H1 s1
/-! ### is_plan -/
abbrev sIs : Stmt := top 2
theorem scIs : FnScope ["kinds", "numbers", "number", "kind"] ["kinds", "numbers"] (defScope sIs) := ⟨rfl, rfl, rfl, by decide +kernel, rfl, by decide +kernel, by decide +kernel⟩
def spIs : Sp := fun vs H Q _ => ∃ (a b : Addr) (c : Cellar) (l : List Nat), vs = [.ref a, .ref b] ∧ KindsAt H a c ∧ Good c ∧ H b = some (.lst (natsV l)) ∧ ∀ H', Same H H' → Q (.bl (Sj07.can c l)) H'
def canBy (c : Cellar) (l : List Nat) (i : Nat) : List Bool := ((l.zip c).map fun x => decide (x.1 ≤ x.2.stock)).take i
theorem canBy_more {c : Cellar} {l : List Nat} {i n : Nat} {k : Sj07.Kind} (h1 : l[i]? = some n) (h2 : c[i]? = some k) : canBy c l (i + 1) = canBy c l i ++ [decide (n ≤ k.stock)] := by
  unfold canBy
  refine take_snoc ?_
  rw [List.getElem?_map, (List.getElem?_zip_eq_some (z := (n, k))).mpr ⟨h1, h2⟩]
  rfl
theorem canBy_all {c : Cellar} {l : List Nat} (h : l.length = c.length) : (canBy c l l.length).all id = Sj07.can c l := by
  unfold canBy
  rw [List.take_of_length_le (by rw [List.length_map, List.length_zip]; omega), can_eq, decide_eq_true h, Bool.true_and, List.all_map]
  rfl
theorem canBy_few {c : Cellar} {l : List Nat} (g : Good c) (h : l.length = c.length) (i : Nat) : ((canBy c l i).map V.bl).length < sizeLine := by
  refine line_big ?_
  unfold canBy
  rw [List.length_map, List.length_take, List.length_map, List.length_zip]
  have := g.len
  omega
theorem ok_is {f : Addr} {fd : FuncData} (F : Fun K "is_plan" "is_plan" sIs f fd) (mLen : mg "len" = none) (mAll : mg "all" = none) (mZip : mg "zip" = none) : FnOk P w K mg base CX0 1 f fd ["kinds", "numbers"] spIs := by
  refine F.ok scIs (fun vs H Q E h => ?_) (fun cdv A outer s H vs Q E hr h => ?_)
  · obtain ⟨a, b, c, l, rfl, _⟩ := h
    rfl
  · obtain ⟨a, b, c, l, rfl, ⟨ks, ha, hk⟩, g, hp, q⟩ := h
    refine ⟨_, pss_cons (ps_if (pt_cmpR op_ne (pe_callB call_len_seq (by rfl) mLen PySem.boot_len (pa_cons (pv 1) pa_nil)) (pe_callB call_len_seq (by rfl) mLen PySem.boot_len (pa_cons (pv 0) pa_nil)) (nomark _))
        (pss_one (ps_ret pe_bl)) pss_nil)
      (pss_one (ps_ret (pe_callB (cr_all rfl) (by rfl) mAll (by decide +kernel) (pa_cons (pe_lc (own := [("number", 2), ("kind", 3)]) (g := gTup K 2 (gCons (gName 2) (gCons (gName 3) gNil))) (te := tOp (rI0 fun i j => .bl (decide (i ≤ j))) (tVar 2) (tOp (rIxT K) (tVar 3) (tC (.int 1)))) rfl scIs.nd
        (pi_zip (by rfl) mZip (pa_cons (pv 1) (pa_cons (pv 0) pa_nil))) (blkOk_by (N := ["kinds", "numbers", "number", "kind"]) (sc := defScope sIs) (by decide +kernel))
        (fun _ _ _ _ _ => pg_tup rfl (pgs_cons (pg_name (i := 2) scIs.nd rfl (Or.inl rfl)) (pgs_cons (pg_name (i := 3) scIs.nd rfl (Or.inl rfl)) pgs_nil)))
        (fun _ _ _ _ _ => pts_nil) (fun _ _ _ _ _ => pe_cmpR op_le (pv 2) (pe_ix ix_tup (pv 3) pe_int (fun _ _ => rfl)) (nomark _))) pa_nil)))), ?_⟩
    refine ⟨_, rfl, b, natsV l, rfl, .inl (SqL.of hp), _, rfl, a, ks, rfl, .inl (SqL.of ha), rfl, _, rfl, ?_⟩
    by_cases len : l.length = c.length
    · have len' : (natsV l).length = ks.length := by rw [natsV_len, kinds_len hk, len]
      have e : (!decide (V.int (((natsV l).length : Nat) : Int) = V.int ((ks.length : Nat) : Int))) = false := by
        rw [len', decide_eq_true rfl]
        rfl
      rw [e]
      refine iteF ?_
      refine ⟨_, rfl, _, rfl, b, a, natsV l, ks, rfl, SqL.of hp, SqL.of ha, fun D hD => ?_⟩
      refine lc_it (walk_zipL len') (fun i H1 => Same H H1 ∧ H1 D = some (.lst ((canBy c l i).map V.bl))) ⟨same_upd hD, upd_same⟩ (fun i H1 _ h => ⟨SqL.of (h.1 _ _ hp), SqL.of (h.1 _ _ ha)⟩) (fun i v H1 H' _ hP given => ?_) (fun H1 h => ?_)
      · obtain ⟨T, x, y, rfl, nT, rfl, hx, hy⟩ := given
        obtain ⟨s1, d1⟩ := hP
        obtain ⟨n, hn, rfl⟩ := natsV_get hx
        obtain ⟨k, t, hk1, rfl, ht⟩ := KindsAt.at hk hy
        have s2 : Same H1 (upd H1 T (.tup [.int ((n : Nat) : Int), .ref t])) := same_upd nT
        have ht2 := s2 _ _ (s1 _ _ ht)
        refine ⟨T, _, rfl, SqT.of upd_same, rfl, _, _, rfl, _, _, rfl, rfl, rfl, yes (iteT ?_)⟩
        refine ⟨_, rfl, _, rfl, t, _, 1, _, rfl, rfl, SqT.of ht2, atI_nat (j := 1) rfl, _, _, rfl, rfl, _, s2 _ _ d1, canBy_few g len i, ?_, ?_⟩
        · exact But.same hD (s1.trans s2) But.upd
        · rw [upd_same, canBy_more hn hk1, List.map_append]
          show some (HO.lst (_ ++ [V.bl (decide (((n : Nat) : Int) ≤ ((k.stock : Nat) : Int)))])) = _
          rw [dec_le]
          rfl
      · obtain ⟨s1, d1⟩ := h
        refine ⟨D, _, rfl, SqL.of d1, ?_⟩
        rw [natsV_len, canBy_all len]
        exact q H1 s1
    · have e : (!decide (V.int (((natsV l).length : Nat) : Int) = V.int ((ks.length : Nat) : Int))) = true := by
        rw [natsV_len, kinds_len hk, decide_eq_false (fun z => len (by injection z with z; omega))]
        rfl
      rw [e]
      refine iteT ?_
      have e2 : Sj07.can c l = false := by rw [can_eq, decide_eq_false len, Bool.false_and]
      rw [e2] at q
      exact q H (Same.refl H)
/-! ### all_plans -/
abbrev sAll : Stmt := top 1
theorem scAll : FnScope ["kinds", "found", "size", "many", "longer", "plan", "number"] ["kinds"] (defScope sAll) := ⟨rfl, rfl, rfl, by decide +kernel, rfl, by decide +kernel, by decide +kernel⟩
/-- a new list of plans, all of them tuples -/
def spAll : Sp := fun vs H Q _ => ∃ (a : Addr) (c : Cellar), vs = [.ref a] ∧ KindsAt H a c ∧ Good c ∧ ∀ H' p us, Same H H' → H p = none → H' p = some (.lst us) → Tups H' us ((Sj07.plans c).map natsV) → Q (.ref p) H'
theorem ok_all {f : Addr} {fd : FuncData} (F : Fun K "all_plans" "all_plans" sAll f fd) (mRange : mg "range" = none) : FnOk P w K mg base CX0 1 f fd ["kinds"] spAll := by
  refine F.ok scAll (fun vs H Q E h => ?_) (fun cdv A outer s H vs Q E hr h => ?_)
  · obtain ⟨a, c, rfl, _⟩ := h
    rfl
  · obtain ⟨a, c, rfl, ⟨ks, ha, hk⟩, g, q⟩ := h
    refine ⟨_, pss_cons (ps_set (i := 1) scAll.nd rfl (.inl rfl) (pe_lst (pa_cons (pe_tup pa_nil) pa_nil)))
      (pss_cons (ps_for PassesOwn.never rfl (pi_list (pv 0)) (pg_tup rfl (pgs_cons (pg_name (i := 2) scAll.nd rfl (Or.inl rfl)) (pgs_cons (pg_name (i := 3) scAll.nd rfl (Or.inl rfl)) pgs_nil)))
        (pss_cons (ps_set (i := 4) scAll.nd rfl (.inl rfl) (pe_lst pa_nil))
        (pss_cons (ps_for PassesOwn.never rfl (pi_list (pv 1)) (pg_name (i := 5) scAll.nd rfl (Or.inr rfl))
          (pss_one (ps_expr (pe_bm PySem.F.plainAttrs_list PySem.F.slot_list_extend PySem.F.type_list_extend mt_extend (pv 4)
            (pa_cons (pe_lc (own := [("number", 6)]) (g := gName 6) (tt := tYes) (te := tOp (rCatA K) (tVar 5) (tTup (tCons (tVar 6) tNil))) rfl scAll.nd
              (pi_range1 (by rfl) mRange (pa_cons (pe_op op_add (pv 3) pe_int) pa_nil)) (blkOk_by (N := ["kinds", "found", "size", "many", "longer", "plan", "number"]) (sc := defScope sAll) (by decide +kernel))
              (fun _ _ _ _ _ => pg_name (i := 6) scAll.nd rfl (Or.inl rfl)) (fun _ _ _ _ _ => pts_nil) (fun _ _ _ _ _ => pe_op op_catA (pv 5) (pe_tup (pa_cons (pv 6) pa_nil)))) pa_nil)))))
        (pss_one (ps_set (i := 1) scAll.nd rfl (.inl rfl) (pv 4))))))
      (pss_one (ps_ret (pv 1)))), ?_⟩
    -- found = [()]
    refine ⟨Nat.zero_le _, fun e ne => ⟨(by show 1 ≤ sizeLine; decide), fun fo nf => ?_⟩⟩
    have s1 : Same H (upd H e (.tup [])) := same_upd ne
    have s2 : Same (upd H e (.tup [])) (upd (upd H e (.tup [])) fo (.lst [.ref e])) := same_upd nf
    have nfo : H fo = none := s1.free nf
    -- for size, many in kinds
    refine ⟨_, rfl, a, rfl, ⟨_, SqL.of (s2 _ _ (s1 _ _ ha))⟩, for_list (K := K) (a := a) (xs := ks)
      (fun i σ H' => ∃ fo us v2 v3 v4 v5, σ = [some (.ref a), some (.ref fo), v2, v3, v4, v5, none] ∧ Same H H' ∧ H fo = none ∧ H' fo = some (.lst us) ∧ Tups H' us ((made (c.take i)).map natsV)) ?_ ?_ ?_ ?_⟩
    · refine ⟨fo, [.ref e], none, none, none, none, rfl, s1.trans s2, nfo, upd_same, .cons ⟨e, rfl, ?_⟩ .nil⟩
      exact s2 _ _ upd_same
    · rintro i σ H' _ ⟨fo, us, v2, v3, v4, v5, rfl, s3, _⟩
      exact SqL.of (s3 _ _ ha)
    · rintro i x σ H' hx ⟨fo, us, v2, v3, v4, v5, rfl, s3, nfo, hfo, ht⟩
      obtain ⟨k, t, hk1, rfl, htk⟩ := KindsAt.at hk hx
      have gk := g.ok k (List.mem_of_getElem? hk1)
      refine ⟨t, _, rfl, SqT.of (s3 _ _ htk), rfl, _, _, rfl, _, _, rfl, rfl, ?_⟩
      -- longer = []
      refine ⟨Nat.zero_le _, fun lo nl => ?_⟩
      have s4 : Same H' (upd H' lo (.lst [])) := same_upd nl
      have nlo : H lo = none := s3.free nl
      -- for plan in found
      refine ⟨_, rfl, fo, rfl, ⟨_, SqL.of (s4 _ _ hfo)⟩, for_list (K := K) (a := fo) (xs := us)
        (fun j σ H2 => ∃ v5 ls, σ = [some (.ref a), some (.ref fo), some (.int ((k.size : Nat) : Int)), some (.int ((k.stock : Nat) : Int)), some (.ref lo), v5, none] ∧ Same H' H2 ∧ H2 lo = some (.lst ls) ∧ Tups H2 ls ((grow ((made (c.take i)).take j) k.stock).map natsV)) ?_ ?_ ?_ ?_⟩
      · exact ⟨v5, [], rfl, s4, upd_same, .nil⟩
      · rintro j σ H2 _ ⟨v5, ls, rfl, s5, _⟩
        exact SqL.of (s5 _ _ hfo)
      · rintro j u σ H2 hu ⟨v5, ls, rfl, s5, hlo, hls⟩
        obtain ⟨xs, hxs, up, rfl, hup⟩ := paired_at ht hu
        obtain ⟨p, hp, rfl⟩ := map_at hxs
        have hup2 := s5 _ _ hup
        have gj : j < (made (c.take i)).length := get_lt hp
        have fewM : (grow (made (c.take i)) k.stock).length ≤ 2401 := by
          rw [← made_more hk1]
          exact made_few g (i + 1)
        have fewL : ls.length + (k.stock + 1) ≤ 2401 := by
          rw [paired_len hls, List.length_map, grow_len, List.length_take, Nat.min_eq_left (Nat.le_of_lt gj)]
          rw [grow_len] at fewM
          have : (j + 1) * (k.stock + 1) ≤ (made (c.take i)).length * (k.stock + 1) := Nat.mul_le_mul_right _ gj
          rw [Nat.succ_mul] at this
          omega
        -- [plan + (number,) for number in range(many + 1)]
        refine ⟨_, rfl, .inl ⟨rfl, _, SqL.of hlo⟩, _, rfl, _, _, rfl, rfl, ((k.stock : Nat) : Int) + 1, rfl, by omega, by omega, fun D hD => ?_⟩
        have en : (((k.stock : Nat) : Int) + 1).toNat = k.stock + 1 := by omega
        refine lc_range (lo := 0) (n := (((k.stock : Nat) : Int) + 1).toNat) (fun n H3 => ∃ ds, Same H2 H3 ∧ H3 D = some (.lst ds) ∧ Tups H3 ds (((List.range n).map fun x => p ++ [x]).map natsV) ∧ ds.length = n) ?_ ?_ ?_
        · exact ⟨[], same_upd hD, upd_same, .nil, rfl⟩
        · rintro n H3 hn ⟨ds, s6, hds, hts, lds⟩
          have hup3 := s6 _ _ hup2
          have fin : ∀ (y : V) (H4 : Hp), Same H3 H4 → TupAt H4 y (natsV (p ++ [n])) → ∃ acc, H4 D = some (.lst acc) ∧ acc.length < sizeLine ∧ ∃ ds, Same H2 (upd H4 D (.lst (acc ++ [y]))) ∧ upd H4 D (.lst (acc ++ [y])) D = some (.lst ds) ∧ Tups (upd H4 D (.lst (acc ++ [y]))) ds (((List.range (n + 1)).map fun x => p ++ [x]).map natsV) ∧ ds.length = n + 1 := by
            intro y H4 s7 hy
            obtain ⟨a1, a2, a3⟩ := push_tup hD s6 hds hts s7 hy
            refine ⟨ds, s7 _ _ hds, line_big (by omega), _, a1, a2, ?_, ?_⟩
            · rw [List.range_succ, List.map_append, List.map_append]
              exact a3
            · rw [List.length_append, List.length_singleton, lds]
          have enn : (0 : Int) + ((n : Nat) : Int) = ((n : Nat) : Int) := Int.zero_add _
          refine ⟨rfl, yes (iteT ?_)⟩
          rw [enn]
          refine ⟨_, rfl, _, rfl, (by show 1 ≤ sizeLine; decide), fun T nT => ⟨up, T, natsV p, _, rfl, rfl, SqT.of (same_upd nT _ _ hup3), SqT.of upd_same, ?_, fun e => ?_, fun _ z => (nomatch z), fun _ _ T2 nT2 => ?_⟩⟩
          · rw [natsV_len]
            have hpl : p.length = (c.take i).length := (plans_mem (by rw [← made_eq]; exact List.mem_of_getElem? hp)).2
            have := g.len
            rw [List.length_take] at hpl
            refine Nat.le_of_lt (line_big ?_)
            show p.length + 1 ≤ 30000
            omega
          · refine fin _ _ (same_upd nT) ⟨T, rfl, ?_⟩
            rw [upd_same, natsV_app, e]
            rfl
          · refine fin _ _ ((same_upd nT).trans (same_upd nT2)) ⟨T2, rfl, ?_⟩
            rw [upd_same, natsV_app]
            rfl
        · rintro H3 ⟨ds, s6, hds, hts, lds⟩
          rw [en] at hts lds
          have hlo3 := s6 _ _ hlo
          refine ⟨lo, D, ls, ds, rfl, rfl, hlo3, hds, Nat.le_of_lt (line_big (by omega)), ?_⟩
          refine ⟨_, ls ++ ds, rfl, But.same nl (s5.trans s6) But.upd, upd_same, ?_⟩
          rw [grow_more hp, List.map_append]
          exact Tups.but hlo3 But.upd (paired_app (hls.same s6) hts)
      · -- found = longer
        rintro σ H2 ⟨v5, ls, rfl, s5, hlo, hls⟩
        refine ⟨_, rfl, lo, ls, _, _, _, _, rfl, s3.trans s5, nlo, hlo, ?_⟩
        have el : us.length = (made (c.take i)).length := by rw [paired_len ht, List.length_map]
        rw [el, List.take_length, ← made_more hk1] at hls
        exact hls
    · rintro σ H' ⟨fo, us, v2, v3, v4, v5, rfl, s3, nfo, hfo, ht⟩
      rw [kinds_len hk, List.take_length, made_eq] at ht
      exact ⟨_, rfl, q H' fo us s3 nfo hfo ht⟩
end
end Ck

namespace Ck
open PySem PySem.Spec PyProof.Rows L2
open Sj07 (Cellar Call)
/-! ### rows in a list -/
def RowAt (H : Hp) (v : V) (r : Row) : Prop := ∃ t p, v = .ref t ∧ H t = some (.tup [.int ((r.1 : Nat) : Int), .int ((r.2.1 : Nat) : Int), .ref p]) ∧ H p = some (.tup (natsV r.2.2))
abbrev Rows (H : Hp) : List V → List Row → Prop := Paired (RowAt H)
theorem RowAt.same {H H' : Hp} {v : V} {r : Row} (s : Same H H') (h : RowAt H v r) : RowAt H' v r := by
  obtain ⟨t, p, e, h1, h2⟩ := h
  exact ⟨t, p, e, s _ _ h1, s _ _ h2⟩
theorem Rows.same {H H' : Hp} {vs : List V} {rs : List Row} (s : Same H H') (h : Rows H vs rs) : Rows H' vs rs := Paired.mapP h fun _ _ q => q.same s
theorem RowAt.but {D : Addr} {H H' : Hp} {v : V} {r : Row} {ys : List V} (hD : H D = some (.lst ys)) (s : But D H H') (h : RowAt H v r) : RowAt H' v r := by
  obtain ⟨t, p, e, h1, h2⟩ := h
  exact ⟨t, p, e, s _ _ (ne_of h1 hD (fun z => nomatch z)) h1, s _ _ (ne_of h2 hD (fun z => nomatch z)) h2⟩
theorem Rows.but {D : Addr} {H H' : Hp} {vs : List V} {rs : List Row} {ys : List V} (hD : H D = some (.lst ys)) (s : But D H H') (h : Rows H vs rs) : Rows H' vs rs := Paired.mapP h fun _ _ q => q.but hD s
/-- one row more at a new list's end -/
theorem push_row {H0 H3 H4 : Hp} {D : Addr} {ds : List V} {rs : List Row} {y : V} {r : Row} (hD : H0 D = none) (s : Same H0 H3) (d : H3 D = some (.lst ds)) (t : Rows H3 ds rs) (s4 : Same H3 H4) (ty : RowAt H4 y r) :
    Same H0 (upd H4 D (.lst (ds ++ [y]))) ∧ upd H4 D (.lst (ds ++ [y])) D = some (.lst (ds ++ [y])) ∧ Rows (upd H4 D (.lst (ds ++ [y]))) (ds ++ [y]) (rs ++ [r]) :=
  ⟨But.same hD (s.trans s4) But.upd, upd_same, Rows.but (s4 _ _ d) But.upd (paired_app (t.same s4) (paired_one ty))⟩
theorem push_pair {H0 H3 H4 : Hp} {D : Addr} {ds : List V} {ps : List (Nat × Nat)} {y : V} {p : Nat × Nat} (hD : H0 D = none) (s : Same H0 H3) (d : H3 D = some (.lst ds)) (t : Tups H3 ds (ps.map fun p => [.int ((p.1 : Nat) : Int), .int ((p.2 : Nat) : Int)])) (s4 : Same H3 H4) (ty : TupAt H4 y [.int ((p.1 : Nat) : Int), .int ((p.2 : Nat) : Int)]) :
    Same H0 (upd H4 D (.lst (ds ++ [y]))) ∧ upd H4 D (.lst (ds ++ [y])) D = some (.lst (ds ++ [y])) ∧ Tups (upd H4 D (.lst (ds ++ [y]))) (ds ++ [y]) ((ps ++ [p]).map fun p => [.int ((p.1 : Nat) : Int), .int ((p.2 : Nat) : Int)]) := by
  rw [List.map_append]
  exact push_tup hD s d t s4 ty
/-- two pairs of numbers, by the model's == -/
theorem eqv_pair (a b c d : Int) : PyData.eqv (.tuple [.int a, .int b]) (.tuple [.int c, .int d]) = (a == c && (b == d && true)) := by
  simp only [PyData.eqv, PyData.eqvAll]
theorem dp_pair {K : PySem.W.Frag} {H : Hp} {t : Addr} {a b : Int} (h : SqT K H t [.int a, .int b]) : Dp K H (.ref t) (.tuple [.int a, .int b]) := .tup h (.cons (.int a) (.cons (.int b) .nil))
theorem shaped_pair (a b : Int) : SeqAt.shaped (.tuple [.int a, .int b]) = true := rfl
theorem pair_eq (x m : Nat × Nat) : (((x.1 : Nat) : Int) == ((m.1 : Nat) : Int) && (((x.2 : Nat) : Int) == ((m.2 : Nat) : Int) && true)) = decide (x = m) := by
  rw [Bool.eq_iff_iff, decide_eq_true_eq, Bool.and_eq_true, Bool.and_eq_true, beq_iff_eq, beq_iff_eq]
  refine ⟨fun h => Prod.ext (by omega) (by omega), fun h => ?_⟩
  rw [h]
  exact ⟨rfl, rfl, rfl⟩
theorem filter_take {α : Type} {p : α → Bool} {l : List α} {i : Nat} {x : α} (h : l[i]? = some x) : (l.take (i + 1)).filter p = (l.take i).filter p ++ (if p x = true then [x] else []) := by
  rw [take_snoc h, List.filter_append]
  congr 1
  cases e : p x with
  | true => rw [List.filter_cons_of_pos e]; rfl
  | false => rw [List.filter_cons_of_neg (by rw [e]; decide)]; rfl
theorem leastOf_take {m : Nat × Nat} {rows : List Row} {i : Nat} {r : Row} (h : rows[i]? = some r) : leastOf m (rows.take (i + 1)) = leastOf m (rows.take i) ++ (if decide (pairOf r = m) = true then [r] else []) := filter_take (p := fun r => decide (pairOf r = m)) h
section
variable {P : Program} {w : World} {K : PySem.W.Frag} {mg : Str → Option Value} {base : Heap}
/-! ### filling -/
abbrev sFilling : Stmt := top 7
theorem scFilling : FnScope ["kinds", "order", "plan"] ["kinds", "order"] (defScope sFilling) := ⟨rfl, rfl, rfl, by decide +kernel, rfl, by decide +kernel, by decide +kernel⟩
def filled (c : Cellar) (v : Nat) : List (List Nat) := (Sj07.plans c).filter (Sj07.fills c v)
theorem filled_mem {c : Cellar} {v : Nat} {l : List Nat} (h : l ∈ filled c v) : l.length = c.length ∧ v ≤ Sj07.holds c l := by
  unfold filled at h
  rw [filling_eq] at h
  obtain ⟨h1, h2⟩ := List.mem_filter.mp h
  exact ⟨(plans_mem h1).2, of_decide_eq_true h2⟩
theorem filled_few {c : Cellar} (g : Good c) (v : Nat) : (filled c v).length ≤ 2401 := Nat.le_trans (List.length_filter_le _ _) (plans_few g)
def spFilling : Sp := fun vs H Q _ => ∃ (a : Addr) (c : Cellar) (v : Nat), vs = [.ref a, .int ((v : Nat) : Int)] ∧ KindsAt H a c ∧ Good c ∧ ∀ H' p us, Same H H' → H p = none → H' p = some (.lst us) → Tups H' us ((filled c v).map natsV) → Q (.ref p) H'
theorem ok_filling {f f1 f2 f3 : Addr} {fd fd1 fd2 fd3 : FuncData} (F : Fun K "filling" "filling" sFilling f fd) (F1 : Fun K "all_plans" "all_plans" sAll f1 fd1) (F2 : Fun K "fills" "fills" sFills f2 fd2) (F3 : Fun K "held" "held" sHeld f3 fd3)
    (b1 : Binds K fd1 ["kinds"] []) (b2 : Binds K fd2 ["kinds", "plan", "order"] []) (b3 : Binds K fd3 ["kinds", "plan"] []) (g1 : mg "all_plans" = some (.ref f1)) (g2 : mg "fills" = some (.ref f2)) (g3 : mg "held" = some (.ref f3))
    (mSum : mg "sum" = none) (mZip : mg "zip" = none) (mRange : mg "range" = none) : FnOk P w K mg base CX0 3 f fd ["kinds", "order"] spFilling := by
  have G1 : FnOk P w K mg base CX0 1 f1 fd1 ["kinds"] spAll := ok_all F1 mRange
  have G2 : FnOk P w K mg base CX0 2 f2 fd2 ["kinds", "plan", "order"] spFills := ok_fills F2 F3 b3 g3 mSum mZip
  refine F.ok scFilling (fun vs H Q E h => ?_) (fun cdv A outer s H vs Q E hr h => ?_)
  · obtain ⟨a, c, v, rfl, _⟩ := h
    rfl
  · obtain ⟨a, c, v, rfl, hk, g, q⟩ := h
    refine ⟨_, pss_one (ps_ret (pe_lc (own := [("plan", 2)]) (g := gName 2) (tt := tB (tCall spFills [] E0 (tCons (tVar 0) (tCons (tVar 2) (tCons (tVar 1) tNil))))) (te := tVar 2) rfl scFilling.nd
      (pi_list (pe_call G1 (hr.mono (by decide)) (by rfl) g1 F1.kp b1 .nil pass0 (pa_cons (pv 0) pa_nil))) (blkOk_by (N := ["kinds", "order", "plan"]) (sc := defScope sFilling) (by decide +kernel))
      (fun _ _ _ _ _ => pg_name (i := 2) scFilling.nd rfl (Or.inl rfl)) (fun _ _ _ _ _ => pts_one (pt_val (pe_call G2 hr (by rfl) g2 F2.kp b2 .nil pass0 (pa_cons (pv 0) (pa_cons (pv 2) (pa_cons (pv 1) pa_nil)))))) (fun _ _ _ _ _ => pv 2))), ?_⟩
    refine ⟨_, rfl, a, c, rfl, hk, g, fun H1 p1 us s1 np1 hp1 ht => ⟨p1, rfl, ⟨_, SqL.of hp1⟩, fun D hD => ?_⟩⟩
    have nD : H D = none := s1.free hD
    refine lc_list (K := K) (a := p1) (xs := us) (fun i H2 => ∃ ds, Same H1 H2 ∧ H2 D = some (.lst ds) ∧ Tups H2 ds ((((Sj07.plans c).take i).filter (Sj07.fills c v)).map natsV)) ?_ ?_ ?_ ?_
    · exact ⟨[], same_upd hD, upd_same, .nil⟩
    · rintro i H2 _ ⟨ds, s2, _⟩
      exact SqL.of (s2 _ _ hp1)
    · rintro i x H2 hx ⟨ds, s2, hds, hts⟩
      obtain ⟨xs, hxs, t, rfl, htt⟩ := paired_at ht hx
      obtain ⟨l, hl, rfl⟩ := map_at hxs
      have hlm := plans_mem (List.mem_of_getElem? hl)
      have ht2 := s2 _ _ htt
      have hk2 : KindsAt H2 a c := hk.same (s1.trans s2)
      refine ⟨rfl, _, rfl, _, rfl, _, rfl, a, t, c, l, v, rfl, hk2, g, hlm.2, .inl ht2, fun H3 s3 => ⟨_, rfl, ?_⟩⟩
      have ef : Sj07.fills c v l = decide (v ≤ Sj07.holds c l) := by
        unfold Sj07.fills
        rw [hlm.1, Bool.true_and]
      refine ite2 (fun e => ?_) (fun e => ?_)
      · obtain ⟨a1, a2, a3⟩ := push_tup hD s2 hds hts s3 ⟨t, rfl, s3 _ _ ht2⟩
        refine ⟨_, rfl, ds, s3 _ _ hds, ?_, ds ++ [.ref t], a1, a2, ?_⟩
        · rw [paired_len hts, List.length_map]
          refine line_big ?_
          have e1 := List.length_filter_le (Sj07.fills c v) ((Sj07.plans c).take i)
          have e2 := plans_few g
          rw [List.length_take] at e1
          omega
        · rw [filter_take hl, ef, if_pos e, List.map_append]
          exact a3
      · refine ⟨ds, s2.trans s3, s3 _ _ hds, ?_⟩
        rw [filter_take hl, ef, if_neg e, List.append_nil]
        exact hts.same s3
    · rintro H2 ⟨ds, s2, hds, hts⟩
      have el : us.length = (Sj07.plans c).length := by rw [paired_len ht, List.length_map]
      rw [el, List.take_length] at hts
      exact q H2 D ds (s1.trans s2) nD hds hts
/-! ### rows_by_room, rows_by_casks -/
abbrev sRR : Stmt := top 14
abbrev sRC : Stmt := top 15
theorem scRR : FnScope ["kinds", "order", "plan"] ["kinds", "order"] (defScope sRR) := ⟨rfl, rfl, rfl, by decide +kernel, rfl, by decide +kernel, by decide +kernel⟩
theorem scRC : FnScope ["kinds", "order", "plan"] ["kinds", "order"] (defScope sRC) := ⟨rfl, rfl, rfl, by decide +kernel, rfl, by decide +kernel, by decide +kernel⟩
def roomRows (c : Cellar) (v : Nat) : List Row := rowsOf (Sj07.left c v) List.sum (filled c v)
def casksRows (c : Cellar) (v : Nat) : List Row := rowsOf List.sum (Sj07.left c v) (filled c v)
def spRows (R : Cellar → Nat → List Row) : Sp := fun vs H Q _ => ∃ (a : Addr) (c : Cellar) (v : Nat), vs = [.ref a, .int ((v : Nat) : Int)] ∧ KindsAt H a c ∧ Good c ∧ ∀ H' p us, Same H H' → H p = none → H' p = some (.lst us) → Rows H' us (R c v) → Q (.ref p) H'
theorem rowsOf_take {f g : List Nat → Nat} {p : List (List Nat)} {i : Nat} {l : List Nat} (h : p[i]? = some l) : rowsOf f g (p.take (i + 1)) = rowsOf f g (p.take i) ++ [(f l, g l, l)] := by
  unfold rowsOf
  rw [take_snoc h, List.map_append]
  rfl
theorem rowsOf_len (f g : List Nat → Nat) (p : List (List Nat)) : (rowsOf f g p).length = p.length := List.length_map _
theorem ok_rr {f f1 f2 f3 f4 f5 f6 : Addr} {fd fd1 fd2 fd3 fd4 fd5 fd6 : FuncData} (F : Fun K "rows_by_room" "rows_by_room" sRR f fd) (F1 : Fun K "all_plans" "all_plans" sAll f1 fd1) (F2 : Fun K "fills" "fills" sFills f2 fd2) (F3 : Fun K "held" "held" sHeld f3 fd3)
    (F4 : Fun K "filling" "filling" sFilling f4 fd4) (F5 : Fun K "room" "room" sRoom f5 fd5) (F6 : Fun K "casks" "casks" sCasks f6 fd6)
    (b1 : Binds K fd1 ["kinds"] []) (b2 : Binds K fd2 ["kinds", "plan", "order"] []) (b3 : Binds K fd3 ["kinds", "plan"] []) (b4 : Binds K fd4 ["kinds", "order"] []) (b5 : Binds K fd5 ["kinds", "plan", "order"] []) (b6 : Binds K fd6 ["plan"] [])
    (g1 : mg "all_plans" = some (.ref f1)) (g2 : mg "fills" = some (.ref f2)) (g3 : mg "held" = some (.ref f3)) (g4 : mg "filling" = some (.ref f4)) (g5 : mg "room" = some (.ref f5)) (g6 : mg "casks" = some (.ref f6))
    (mSum : mg "sum" = none) (mZip : mg "zip" = none) (mRange : mg "range" = none) : FnOk P w K mg base CX0 4 f fd ["kinds", "order"] (spRows roomRows) := by
  have G4 : FnOk P w K mg base CX0 3 f4 fd4 ["kinds", "order"] spFilling := ok_filling F4 F1 F2 F3 b1 b2 b3 g1 g2 g3 mSum mZip mRange
  have G5 : FnOk P w K mg base CX0 2 f5 fd5 ["kinds", "plan", "order"] spRoom := ok_room F5 F3 b3 g3 mSum mZip
  have G6 : FnOk P w K mg base CX0 1 f6 fd6 ["plan"] spCasks := ok_casks F6 mSum
  refine F.ok scRR (fun vs H Q E h => ?_) (fun cdv A outer s H vs Q E hr h => ?_)
  · obtain ⟨a, c, v, rfl, _⟩ := h
    rfl
  · obtain ⟨a, c, v, rfl, hk, g, q⟩ := h
    refine ⟨_, pss_one (ps_ret (pe_lc (own := [("plan", 2)]) (g := gName 2) (tt := tYes) (te := tTup (tCons (tCall spRoom [] E0 (tCons (tVar 0) (tCons (tVar 2) (tCons (tVar 1) tNil)))) (tCons (tCall spCasks [] E0 (tCons (tVar 2) tNil)) (tCons (tVar 2) tNil)))) rfl scRR.nd
      (pi_list (pe_call G4 hr (by rfl) g4 F4.kp b4 .nil pass0 (pa_cons (pv 0) (pa_cons (pv 1) pa_nil)))) (blkOk_by (N := ["kinds", "order", "plan"]) (sc := defScope sRR) (by decide +kernel))
      (fun _ _ _ _ _ => pg_name (i := 2) scRR.nd rfl (Or.inl rfl)) (fun _ _ _ _ _ => pts_nil)
      (fun _ _ _ _ _ => pe_tup (pa_cons (pe_call G5 (hr.mono (by decide)) (by rfl) g5 F5.kp b5 .nil pass0 (pa_cons (pv 0) (pa_cons (pv 2) (pa_cons (pv 1) pa_nil)))) (pa_cons (pe_call G6 (hr.mono (by decide)) (by rfl) g6 F6.kp b6 .nil pass0 (pa_cons (pv 2) pa_nil)) (pa_cons (pv 2) pa_nil)))))), ?_⟩
    refine ⟨_, rfl, _, rfl, a, c, v, rfl, hk, g, fun H1 p1 us s1 np1 hp1 ht => ⟨p1, rfl, ⟨_, SqL.of hp1⟩, fun D hD => ?_⟩⟩
    have nD : H D = none := s1.free hD
    refine lc_list (K := K) (a := p1) (xs := us) (fun i H2 => ∃ ds, Same H1 H2 ∧ H2 D = some (.lst ds) ∧ Rows H2 ds (rowsOf (Sj07.left c v) List.sum ((filled c v).take i))) ?_ ?_ ?_ ?_
    · exact ⟨[], same_upd hD, upd_same, .nil⟩
    · rintro i H2 _ ⟨ds, s2, _⟩
      exact SqL.of (s2 _ _ hp1)
    · rintro i x H2 hx ⟨ds, s2, hds, hts⟩
      obtain ⟨xs, hxs, t, rfl, htt⟩ := paired_at ht hx
      obtain ⟨l, hl, rfl⟩ := map_at hxs
      have hlm := filled_mem (List.mem_of_getElem? hl)
      have ht2 := s2 _ _ htt
      have hk2 : KindsAt H2 a c := hk.same (s1.trans s2)
      refine ⟨rfl, yes (iteT ?_)⟩
      refine ⟨_, rfl, _, rfl, _, rfl, a, t, c, l, v, rfl, hk2, g, hlm.1, .inl ht2, hlm.2, fun H3 s3 => ?_⟩
      refine ⟨_, rfl, t, l, rfl, s3 _ _ ht2, _, rfl, (by show 3 ≤ sizeLine; decide), fun T nT => ?_⟩
      have s4 : Same H3 (upd H3 T (.tup [.int ((Sj07.left c v l : Nat) : Int), .int ((l.sum : Nat) : Int), .ref t])) := same_upd nT
      obtain ⟨a1, a2, a3⟩ := push_row (r := (Sj07.left c v l, l.sum, l)) hD s2 hds hts (s3.trans s4) ⟨T, t, rfl, upd_same, s4 _ _ (s3 _ _ ht2)⟩
      refine ⟨ds, s4 _ _ (s3 _ _ hds), ?_, ds ++ [.ref T], a1, a2, ?_⟩
      · rw [paired_len hts, rowsOf_len, List.length_take]
        refine line_big ?_
        have := filled_few g v
        omega
      · rw [rowsOf_take hl]
        exact a3
    · rintro H2 ⟨ds, s2, hds, hts⟩
      have el : us.length = (filled c v).length := by rw [paired_len ht, List.length_map]
      rw [el, List.take_length] at hts
      exact q H2 D ds (s1.trans s2) nD hds hts
theorem ok_rc {f f1 f2 f3 f4 f5 f6 : Addr} {fd fd1 fd2 fd3 fd4 fd5 fd6 : FuncData} (F : Fun K "rows_by_casks" "rows_by_casks" sRC f fd) (F1 : Fun K "all_plans" "all_plans" sAll f1 fd1) (F2 : Fun K "fills" "fills" sFills f2 fd2) (F3 : Fun K "held" "held" sHeld f3 fd3)
    (F4 : Fun K "filling" "filling" sFilling f4 fd4) (F5 : Fun K "room" "room" sRoom f5 fd5) (F6 : Fun K "casks" "casks" sCasks f6 fd6)
    (b1 : Binds K fd1 ["kinds"] []) (b2 : Binds K fd2 ["kinds", "plan", "order"] []) (b3 : Binds K fd3 ["kinds", "plan"] []) (b4 : Binds K fd4 ["kinds", "order"] []) (b5 : Binds K fd5 ["kinds", "plan", "order"] []) (b6 : Binds K fd6 ["plan"] [])
    (g1 : mg "all_plans" = some (.ref f1)) (g2 : mg "fills" = some (.ref f2)) (g3 : mg "held" = some (.ref f3)) (g4 : mg "filling" = some (.ref f4)) (g5 : mg "room" = some (.ref f5)) (g6 : mg "casks" = some (.ref f6))
    (mSum : mg "sum" = none) (mZip : mg "zip" = none) (mRange : mg "range" = none) : FnOk P w K mg base CX0 4 f fd ["kinds", "order"] (spRows casksRows) := by
  have G4 : FnOk P w K mg base CX0 3 f4 fd4 ["kinds", "order"] spFilling := ok_filling F4 F1 F2 F3 b1 b2 b3 g1 g2 g3 mSum mZip mRange
  have G5 : FnOk P w K mg base CX0 2 f5 fd5 ["kinds", "plan", "order"] spRoom := ok_room F5 F3 b3 g3 mSum mZip
  have G6 : FnOk P w K mg base CX0 1 f6 fd6 ["plan"] spCasks := ok_casks F6 mSum
  refine F.ok scRC (fun vs H Q E h => ?_) (fun cdv A outer s H vs Q E hr h => ?_)
  · obtain ⟨a, c, v, rfl, _⟩ := h
    rfl
  · obtain ⟨a, c, v, rfl, hk, g, q⟩ := h
    refine ⟨_, pss_one (ps_ret (pe_lc (own := [("plan", 2)]) (g := gName 2) (tt := tYes) (te := tTup (tCons (tCall spCasks [] E0 (tCons (tVar 2) tNil)) (tCons (tCall spRoom [] E0 (tCons (tVar 0) (tCons (tVar 2) (tCons (tVar 1) tNil)))) (tCons (tVar 2) tNil)))) rfl scRC.nd
      (pi_list (pe_call G4 hr (by rfl) g4 F4.kp b4 .nil pass0 (pa_cons (pv 0) (pa_cons (pv 1) pa_nil)))) (blkOk_by (N := ["kinds", "order", "plan"]) (sc := defScope sRC) (by decide +kernel))
      (fun _ _ _ _ _ => pg_name (i := 2) scRC.nd rfl (Or.inl rfl)) (fun _ _ _ _ _ => pts_nil)
      (fun _ _ _ _ _ => pe_tup (pa_cons (pe_call G6 (hr.mono (by decide)) (by rfl) g6 F6.kp b6 .nil pass0 (pa_cons (pv 2) pa_nil)) (pa_cons (pe_call G5 (hr.mono (by decide)) (by rfl) g5 F5.kp b5 .nil pass0 (pa_cons (pv 0) (pa_cons (pv 2) (pa_cons (pv 1) pa_nil)))) (pa_cons (pv 2) pa_nil)))))), ?_⟩
    refine ⟨_, rfl, _, rfl, a, c, v, rfl, hk, g, fun H1 p1 us s1 np1 hp1 ht => ⟨p1, rfl, ⟨_, SqL.of hp1⟩, fun D hD => ?_⟩⟩
    have nD : H D = none := s1.free hD
    refine lc_list (K := K) (a := p1) (xs := us) (fun i H2 => ∃ ds, Same H1 H2 ∧ H2 D = some (.lst ds) ∧ Rows H2 ds (rowsOf List.sum (Sj07.left c v) ((filled c v).take i))) ?_ ?_ ?_ ?_
    · exact ⟨[], same_upd hD, upd_same, .nil⟩
    · rintro i H2 _ ⟨ds, s2, _⟩
      exact SqL.of (s2 _ _ hp1)
    · rintro i x H2 hx ⟨ds, s2, hds, hts⟩
      obtain ⟨xs, hxs, t, rfl, htt⟩ := paired_at ht hx
      obtain ⟨l, hl, rfl⟩ := map_at hxs
      have hlm := filled_mem (List.mem_of_getElem? hl)
      have ht2 := s2 _ _ htt
      have hk2 : KindsAt H2 a c := hk.same (s1.trans s2)
      refine ⟨rfl, yes (iteT ?_)⟩
      refine ⟨_, rfl, t, l, rfl, ht2, _, rfl, _, rfl, _, rfl, a, t, c, l, v, rfl, hk2, g, hlm.1, .inl ht2, hlm.2, fun H3 s3 => ?_⟩
      refine ⟨_, rfl, (by show 3 ≤ sizeLine; decide), fun T nT => ?_⟩
      have s4 : Same H3 (upd H3 T (.tup [.int ((l.sum : Nat) : Int), .int ((Sj07.left c v l : Nat) : Int), .ref t])) := same_upd nT
      obtain ⟨a1, a2, a3⟩ := push_row (r := (l.sum, Sj07.left c v l, l)) hD s2 hds hts (s3.trans s4) ⟨T, t, rfl, upd_same, s4 _ _ (s3 _ _ ht2)⟩
      refine ⟨ds, s4 _ _ (s3 _ _ hds), ?_, ds ++ [.ref T], a1, a2, ?_⟩
      · rw [paired_len hts, rowsOf_len, List.length_take]
        refine line_big ?_
        have := filled_few g v
        omega
      · rw [rowsOf_take hl]
        exact a3
    · rintro H2 ⟨ds, s2, hds, hts⟩
      have el : us.length = (filled c v).length := by rw [paired_len ht, List.length_map]
      rw [el, List.take_length] at hts
      exact q H2 D ds (s1.trans s2) nD hds hts
/-! ### least_rows -/
abbrev sLeast : Stmt := top 13
theorem scLeast : FnScope ["rows", "least", "row"] ["rows"] (defScope sLeast) := ⟨rfl, rfl, rfl, by decide +kernel, rfl, by decide +kernel, by decide +kernel⟩
def LeastPair (m : Nat × Nat) (rows : List Row) : Prop := m ∈ rows.map pairOf ∧ ∀ y ∈ rows.map pairOf, before y m = false
def spLeast : Sp := fun vs H Q _ => ∃ (a : Addr) (rs : List V) (rows : List Row), vs = [.ref a] ∧ H a = some (.lst rs) ∧ Rows H rs rows ∧ rows ≠ [] ∧ rows.length ≤ 2401 ∧
  ∀ H' p us m, Same H H' → H p = none → LeastPair m rows → H' p = some (.lst us) → Rows H' us (leastOf m rows) → Q (.ref p) H'
theorem cut2 (x y z : V) : cutV [x, y, z] none (some 2) = [x, y] := rfl
theorem notWhole3 (x y z : V) : ¬ (HT.sIx [x, y, z].length 0 none = 0 ∧ HT.sIx [x, y, z].length [x, y, z].length (some 2) = [x, y, z].length) := by
  show ¬ (HT.sIx 3 0 none = 0 ∧ HT.sIx 3 3 (some 2) = 3)
  decide
theorem ok_least {f : Addr} {fd : FuncData} (F : Fun K "least_rows" "least_rows" sLeast f fd) (mMin : mg "min" = none) : FnOk P w K mg base CX0 1 f fd ["rows"] spLeast := by
  refine F.ok scLeast (fun vs H Q E h => ?_) (fun cdv A outer s H vs Q E hr h => ?_)
  · obtain ⟨a, rs, rows, rfl, _⟩ := h
    rfl
  · obtain ⟨a, rs, rows, rfl, ha, hrs, hne, few, q⟩ := h
    refine ⟨_, pss_cons (ps_set (i := 1) scLeast.nd rfl (.inr rfl) (pe_callB (cr_minP rfl hr.units) (by rfl) mMin (by decide +kernel) (pa_cons (pe_lc (own := [("row", 2)]) (g := gName 2) (tt := tYes) (te := tSl (rSlT K) (tVar 2) tNoPart (tPart (tC (.int 2)))) rfl scLeast.nd
        (pi_list (pv 0)) (blkOk_by (N := ["rows", "least", "row"]) (sc := defScope sLeast) (by decide +kernel)) (fun _ _ _ _ _ => pg_name (i := 2) scLeast.nd rfl (Or.inl rfl)) (fun _ _ _ _ _ => pts_nil)
        (fun _ _ _ _ _ => pe_slice sl_tup (pv 2) po_none (po_some pe_int))) pa_nil)))
      (pss_one (ps_ret (pe_lc (own := [("row", 2)]) (g := gName 2) (tt := tTest (tOp (rEqD K) (tSl (rSlT K) (tVar 2) tNoPart (tPart (tC (.int 2)))) (tVar 1))) (te := tVar 2) rfl scLeast.nd
        (pi_list (pv 0)) (blkOk_by (N := ["rows", "least", "row"]) (sc := defScope sLeast) (by decide +kernel)) (fun _ _ _ _ _ => pg_name (i := 2) scLeast.nd rfl (Or.inl rfl))
        (fun _ _ _ _ _ => pts_one (pt_cmpR (op_eqD hr.units) (pe_slice sl_tup (pv 2) po_none (po_some pe_int)) (pv 1) (nomark _))) (fun _ _ _ _ _ => pv 2)))), ?_⟩
    -- [row[:2] for row in rows]
    refine ⟨_, rfl, a, rfl, ⟨_, SqL.of ha⟩, fun D hD => ?_⟩
    refine lc_list (K := K) (a := a) (xs := rs) (fun i H1 => ∃ ds, Same H H1 ∧ H1 D = some (.lst ds) ∧ Tups H1 ds (((rows.take i).map pairOf).map fun p => [.int ((p.1 : Nat) : Int), .int ((p.2 : Nat) : Int)])) ?_ ?_ ?_ ?_
    · exact ⟨[], same_upd hD, upd_same, .nil⟩
    · rintro i H1 _ ⟨ds, s1, _⟩
      exact SqL.of (s1 _ _ ha)
    · rintro i x H1 hx ⟨ds, s1, hds, hts⟩
      obtain ⟨r, hr1, t, p, rfl, ht, hp⟩ := paired_at hrs hx
      refine ⟨rfl, yes (iteT ?_)⟩
      refine ⟨_, rfl, 2, rfl, t, _, rfl, SqT.of (s1 _ _ ht), notWhole3 _ _ _, fun T nT => ?_⟩
      have s2 : Same H1 (upd H1 T (.tup (cutV [.int ((r.1 : Nat) : Int), .int ((r.2.1 : Nat) : Int), .ref p] none (some 2)))) := same_upd nT
      obtain ⟨a1, a2, a3⟩ := push_pair (p := pairOf r) hD s1 hds hts s2 ⟨T, rfl, upd_same⟩
      refine ⟨ds, s2 _ _ hds, ?_, _, a1, a2, ?_⟩
      · rw [paired_len hts, List.length_map, List.length_map, List.length_take]
        exact line_big (by omega)
      · rw [take_snoc hr1, List.map_append]
        exact a3
    · rintro H1 ⟨ds, s1, hds, hts⟩
      have el : rs.length = rows.length := paired_len hrs
      rw [el, List.take_length] at hts
      have hps : Paired (PairAt K H1) ds (rows.map pairOf) := Paired.mapP (paired_map hts) fun v p ⟨t, e, h⟩ => ⟨t, e, SqT.of h⟩
      refine ⟨D, ds, rows.map pairOf, rfl, SqL.of hds, hps, fun z => hne (List.map_eq_nil_iff.mp z), fun lt m hm hl hlt => ?_⟩
      have nD : H D = none := hD
      -- [row for row in rows if row[:2] == least]
      refine ⟨_, rfl, a, rfl, ⟨_, SqL.of (s1 _ _ ha)⟩, fun D2 hD2 => ?_⟩
      have nD2 : H D2 = none := s1.free hD2
      refine lc_list (K := K) (a := a) (xs := rs) (fun i H2 => ∃ ds, Same H1 H2 ∧ H2 D2 = some (.lst ds) ∧ Rows H2 ds (leastOf m (rows.take i))) ?_ ?_ ?_ ?_
      · exact ⟨[], same_upd hD2, upd_same, .nil⟩
      · rintro i H2 _ ⟨ds, s2, _⟩
        exact SqL.of (s2 _ _ (s1 _ _ ha))
      · rintro i x H2 hx ⟨ds, s2, hds, hts⟩
        obtain ⟨r, hr1, hrow⟩ := paired_at hrs hx
        have hrow2 : RowAt H2 x r := hrow.same (s1.trans s2)
        obtain ⟨t, p, rfl, ht, hp⟩ := hrow2
        refine ⟨rfl, _, rfl, 2, rfl, t, _, rfl, SqT.of ht, notWhole3 _ _ _, fun T nT => ?_⟩
        have s3 : Same H2 (upd H2 T (.tup (cutV [.int ((r.1 : Nat) : Int), .int ((r.2.1 : Nat) : Int), .ref p] none (some 2)))) := same_upd nT
        have hlt3 : SqT K (upd H2 T (.tup (cutV [.int ((r.1 : Nat) : Int), .int ((r.2.1 : Nat) : Int), .ref p] none (some 2)))) lt [.int ((m.1 : Nat) : Int), .int ((m.2 : Nat) : Int)] := by
          rcases hlt with (h | ⟨o, h⟩) | h
          · exact .inl (.inl (s3 _ _ (s2 _ _ h)))
          · exact .inl (.inr ⟨o, s3 _ _ (s2 _ _ h)⟩)
          · exact .inr h
        refine ⟨_, rfl, _, _, dp_pair (K := K) (t := T) (a := ((r.1 : Nat) : Int)) (b := ((r.2.1 : Nat) : Int)) (SqT.of upd_same), dp_pair hlt3, shaped_pair _ _, shaped_pair _ _, _, rfl, ?_⟩
        rw [eqv_pair]
        have e := pair_eq (pairOf r) m
        have e : (((r.1 : Nat) : Int) == ((m.1 : Nat) : Int) && (((r.2.1 : Nat) : Int) == ((m.2 : Nat) : Int) && true)) = decide (pairOf r = m) := e
        rw [e]
        refine ite2 (fun e => ?_) (fun e => ?_)
        · obtain ⟨a1, a2, a3⟩ := push_row (r := r) hD2 s2 hds hts s3 ⟨t, p, rfl, s3 _ _ ht, s3 _ _ hp⟩
          refine ⟨_, rfl, ds, s3 _ _ hds, ?_, _, a1, a2, ?_⟩
          · rw [paired_len hts]
            refine line_big ?_
            unfold leastOf
            have := List.length_filter_le (fun r => decide (pairOf r = m)) (rows.take i)
            rw [List.length_take] at this
            omega
          · rw [leastOf_take hr1, if_pos e]
            exact a3
        · refine ⟨ds, s2.trans s3, s3 _ _ hds, ?_⟩
          rw [leastOf_take hr1, if_neg e, List.append_nil]
          exact hts.same s3
      · rintro H2 ⟨ds, s2, hds, hts⟩
        rw [el, List.take_length] at hts
        exact q H2 D2 ds m (s1.trans s2) nD2 ⟨hm, hl⟩ hds hts
/-! ### told_of -/
abbrev sTold : Stmt := top 16
theorem scTold : FnScope ["rows", "some"] ["rows"] (defScope sTold) := ⟨rfl, rfl, rfl, by decide +kernel, rfl, by decide +kernel, by decide +kernel⟩
def spTold : Sp := fun vs H Q _ => ∃ (a : Addr) (rs : List V) (rows : List Row), vs = [.ref a] ∧ H a = some (.lst rs) ∧ Rows H rs rows ∧ rows ≠ [] ∧ rows.length ≤ 2401 ∧ (∀ r ∈ rows, r.2.2.length ≤ 4) ∧
  ∀ H' p m, Same H H' → H p = none → LeastPair m rows → H' p = some (.lst (natsV (toldRows (leastOf m rows)))) → Q (.ref p) H'
theorem leastOf_ne {m : Nat × Nat} {rows : List Row} (h : m ∈ rows.map pairOf) : leastOf m rows ≠ [] := by
  obtain ⟨r, hr, e⟩ := List.mem_map.mp h
  have : r ∈ leastOf m rows := List.mem_filter.mpr ⟨hr, decide_eq_true e⟩
  intro z
  rw [z] at this
  cases this
theorem ok_told {f f1 : Addr} {fd fd1 : FuncData} (F : Fun K "told_of" "told_of" sTold f fd) (F1 : Fun K "least_rows" "least_rows" sLeast f1 fd1) (b1 : Binds K fd1 ["rows"] []) (g1 : mg "least_rows" = some (.ref f1)) (mMin : mg "min" = none) (mLen : mg "len" = none) (mList : mg "list" = none) :
    FnOk P w K mg base CX0 2 f fd ["rows"] spTold := by
  have G1 : FnOk P w K mg base CX0 1 f1 fd1 ["rows"] spLeast := ok_least F1 mMin
  refine F.ok scTold (fun vs H Q E h => ?_) (fun cdv A outer s H vs Q E hr h => ?_)
  · obtain ⟨a, rs, rows, rfl, _⟩ := h
    rfl
  · obtain ⟨a, rs, rows, rfl, ha, hrs, hne, few, fr, q⟩ := h
    refine ⟨_, pss_cons (ps_set (i := 1) scTold.nd rfl (.inl rfl) (pe_call G1 hr (by rfl) g1 F1.kp b1 .nil pass0 (pa_cons (pv 0) pa_nil)))
      (pss_one (ps_ret (pe_op op_cat (pe_lst (pa_cons (pe_ix ix_tup (pe_ix ix_list (pv 1) pe_int (fun _ _ => rfl)) pe_int (fun _ _ => rfl))
        (pa_cons (pe_ix ix_tup (pe_ix ix_list (pv 1) pe_int (fun _ _ => rfl)) pe_int (fun _ _ => rfl)) (pa_cons (pe_callB call_len_seq (by rfl) mLen PySem.boot_len (pa_cons (pv 1) pa_nil)) pa_nil))))
        (pe_callTy call_list_of (by rfl) mList (by decide +kernel) (pa_cons (pe_ix ix_tup (pe_ix ix_list (pv 1) pe_int (fun _ _ => rfl)) pe_int (fun _ _ => rfl)) pa_nil))))), ?_⟩
    refine ⟨_, rfl, a, rs, rows, rfl, ha, hrs, hne, few, fun H1 p1 us m s1 np1 lm hp1 hus => ?_⟩
    have hne1 := leastOf_ne lm.1
    have hfew : ∀ r ∈ leastOf m rows, r.2.2.length ≤ 4 := fun r hr => fr r (List.mem_filter.mp hr).1
    cases hl : leastOf m rows with
    | nil => exact absurd hl hne1
    | cons r t =>
      rw [hl] at hus
      have hr4 : r.2.2.length ≤ 4 := hfew r (by rw [hl]; exact List.mem_cons_self)
      cases hus with
      | @cons v _ vt _ h1 h2 =>
        obtain ⟨tr, p, rfl, ht, hp⟩ := h1
        have i0 : atI (V.ref tr :: vt) 0 = some (.ref tr) := atI_nat (j := 0) rfl
        refine ⟨_, rfl, p1, _, 0, _, rfl, rfl, SqL.of hp1, i0, tr, _, 0, _, rfl, rfl, SqT.of ht, atI_nat (j := 0) rfl, ?_⟩
        refine ⟨_, rfl, p1, _, 0, _, rfl, rfl, SqL.of hp1, i0, tr, _, 1, _, rfl, rfl, SqT.of ht, atI_nat (j := 1) rfl, ?_⟩
        refine ⟨_, rfl, p1, _, rfl, .inl (SqL.of hp1), (by show 3 ≤ sizeLine; decide), fun L nL => ?_⟩
        have s2 : Same H1 (upd H1 L (.lst [.int ((r.1 : Nat) : Int), .int ((r.2.1 : Nat) : Int), .int (((V.ref tr :: vt).length : Nat) : Int)])) := same_upd nL
        refine ⟨_, rfl, p1, _, 0, _, rfl, rfl, SqL.of (s2 _ _ hp1), i0, tr, _, 2, _, rfl, rfl, SqT.of (s2 _ _ ht), atI_nat (j := 2) rfl, p, _, rfl, .inr (SqT.of (s2 _ _ hp)), fun L2 nL2 => ?_⟩
        have s3 := same_upd (o := .lst (natsV r.2.2)) nL2
        refine ⟨L, L2, _, _, rfl, rfl, s3 _ _ upd_same, upd_same, ?_, fun L3 nL3 => ?_⟩
        · rw [natsV_len]
          refine Nat.le_of_lt (line_big ?_)
          show 3 + r.2.2.length ≤ 30000
          omega
        · have s4 := same_upd (o := .lst ([.int ((r.1 : Nat) : Int), .int ((r.2.1 : Nat) : Int), .int (((V.ref tr :: vt).length : Nat) : Int)] ++ natsV r.2.2)) nL3
          have sAll := (s1.trans s2).trans (s3.trans s4)
          refine q _ L3 m sAll ((s1.trans (s2.trans s3)).free nL3) lm ?_
          rw [upd_same, hl]
          show some (HO.lst (V.int ((r.1 : Nat) : Int) :: V.int ((r.2.1 : Nat) : Int) :: V.int (((vt.length + 1 : Nat)) : Int) :: natsV r.2.2)) = some (HO.lst (V.int ((r.1 : Nat) : Int) :: V.int ((r.2.1 : Nat) : Int) :: V.int (((t.length + 1 : Nat)) : Int) :: natsV r.2.2))
          rw [paired_len h2]
end
end Ck

namespace Ck
open PySem PySem.Spec PyProof.Rows L2
open Sj07 (Cellar Call)
section
variable {P : Program} {w : World} {K : PySem.W.Frag} {mg : Str → Option Value} {base : Heap}
/-! ### never_held -/
abbrev sNever : Stmt := top 9
theorem scNever : FnScope ["kinds", "most", "just", "plan", "number"] ["kinds", "most"] (defScope sNever) := ⟨rfl, rfl, rfl, by decide +kernel, rfl, by decide +kernel, by decide +kernel⟩
/-- the dict's keys are what the plans so far hold -/
def JustOf (c : Cellar) (i : Nat) (kvs : List (Key × V)) : Prop := kvs.length ≤ i ∧ ∀ n : Nat, (valV kvs (Sum.inl ((n : Nat) : Int))).isSome = (((Sj07.plans c).take i).map (Sj07.holds c)).contains n
theorem just_more {c : Cellar} {i : Nat} {kvs : List (Key × V)} {l : List Nat} (h : (Sj07.plans c)[i]? = some l) (j : JustOf c i kvs) (v : V) : JustOf c (i + 1) (putK kvs (Sum.inl ((Sj07.holds c l : Nat) : Int)) v) := by
  obtain ⟨j1, j2⟩ := j
  refine ⟨Nat.le_trans (length_putK _ _ _) (by omega), fun n => ?_⟩
  rw [valV_put, take_snoc h, List.map_append, List.contains_append]
  by_cases e : n = Sj07.holds c l
  · subst e
    rw [if_pos rfl]
    simp
  · rw [if_neg (fun z => e (by injection z with z; omega)), j2 n]
    have : ([l].map (Sj07.holds c)).contains n = false := by simp [e]
    rw [this, Bool.or_false]
def spNever : Sp := fun vs H Q _ => ∃ (a : Addr) (c : Cellar) (m : Nat), vs = [.ref a, .int ((m : Nat) : Int)] ∧ KindsAt H a c ∧ Good c ∧ m ≤ 1500 ∧ ∀ H' p, Same H H' → H p = none → H' p = some (.lst (natsV (Sj07.never c m))) → Q (.ref p) H'
theorem ok_never {f f1 f3 : Addr} {fd fd1 fd3 : FuncData} (F : Fun K "never_held" "never_held" sNever f fd) (F1 : Fun K "all_plans" "all_plans" sAll f1 fd1) (F3 : Fun K "held" "held" sHeld f3 fd3)
    (b1 : Binds K fd1 ["kinds"] []) (b3 : Binds K fd3 ["kinds", "plan"] []) (g1 : mg "all_plans" = some (.ref f1)) (g3 : mg "held" = some (.ref f3))
    (mSum : mg "sum" = none) (mZip : mg "zip" = none) (mRange : mg "range" = none) : FnOk P w K mg base CX0 2 f fd ["kinds", "most"] spNever := by
  have G1 : FnOk P w K mg base CX0 1 f1 fd1 ["kinds"] spAll := ok_all F1 mRange
  have G3 : FnOk P w K mg base CX0 1 f3 fd3 ["kinds", "plan"] spHeld := ok_held F3 mSum mZip
  refine F.ok scNever (fun vs H Q E h => ?_) (fun cdv A outer s H vs Q E hr h => ?_)
  · obtain ⟨a, c, v, rfl, _⟩ := h
    rfl
  · obtain ⟨a, c, m, rfl, hk, g, hm, q⟩ := h
    refine ⟨_, pss_cons (ps_set (i := 2) scNever.nd rfl (.inr rfl) pe_dnewK)
      (pss_cons (ps_for PassesOwn.never rfl (pi_list (pe_call G1 hr (by rfl) g1 F1.kp b1 .nil pass0 (pa_cons (pv 0) pa_nil))) (pg_name (i := 3) scNever.nd rfl (Or.inl rfl))
        (pss_one (ps_dput (hu_of hr) (pv 2) (pe_call G3 hr (by rfl) g3 F3.kp b3 .nil pass0 (pa_cons (pv 0) (pa_cons (pv 3) pa_nil))) pe_bl rfl)))
      (pss_one (ps_ret (pe_lc (own := [("number", 4)]) (g := gName 4) (tt := tB (tDNotIn (tVar 4) (tVar 2))) (te := tVar 4) rfl scNever.nd
        (pi_range2 (by rfl) mRange (pa_cons pe_int (pa_cons (pe_op op_add (pv 1) pe_int) pa_nil))) (blkOk_by (N := ["kinds", "most", "just", "plan", "number"]) (sc := defScope sNever) (by decide +kernel))
        (fun _ _ _ _ _ => pg_name (i := 4) scNever.nd rfl (Or.inl rfl)) (fun _ _ _ _ _ => pts_one (pt_cmp (pc_dnotin (hu_of hr) (pv 4) (pv 2)))) (fun _ _ _ _ _ => pv 4))))), ?_⟩
    -- just = {}
    intro d nd
    have s0 : Same H (upd H d (.dK [])) := same_upd nd
    -- for plan in all_plans(kinds)
    refine ⟨_, rfl, a, c, rfl, hk.same s0, g, fun H1 p us s1 np hp ht => ⟨p, rfl, ⟨_, SqL.of hp⟩, ?_⟩⟩
    have hd1 : H1 d = some (.dK []) := s1 _ _ upd_same
    refine for_list (K := K) (a := p) (xs := us) (fun i σ H2 => ∃ v3 kvs, σ = [some (.ref a), some (.int ((m : Nat) : Int)), some (.ref d), v3, none] ∧ But d H1 H2 ∧ H2 d = some (.dK kvs) ∧ JustOf c i kvs) ?_ ?_ ?_ ?_
    · exact ⟨none, [], rfl, But.refl _ _, hd1, Nat.le_refl _, fun n => rfl⟩
    · rintro i σ H2 _ ⟨v3, kvs, rfl, s2, _⟩
      exact SqL.of (s2 _ _ (ne_of hp hd1 (fun z => nomatch z)) hp)
    · rintro i x σ H2 hx ⟨v3, kvs, rfl, s2, hd2, hj⟩
      obtain ⟨xs, hxs, t, rfl, htt⟩ := paired_at ht hx
      obtain ⟨l, hl, rfl⟩ := map_at hxs
      have hlm := plans_mem (List.mem_of_getElem? hl)
      have ht2 := s2 _ _ (ne_of htt hd1 (fun z => nomatch z)) htt
      have sH2 : Same H H2 := But.same nd (s0.trans s1) s2
      refine ⟨_, rfl, _, rfl, _, rfl, a, t, c, l, rfl, hk.same sH2, g, hlm.2, .inl ht2, fun H3 s3 => ?_⟩
      have hd3 := s3 _ _ hd2
      have few : kvs.length < sizeLine := by
        refine line_big ?_
        have e1 := hj.1
        have e2 := plans_few g
        have e3 := get_lt hl
        omega
      refine ⟨d, _, rfl, DPut.k (k := Sum.inl ((Sj07.holds c l : Nat) : Int)) hd3 few, _, _, rfl, (s2.trans (But.of s3)).trans But.upd, upd_same, just_more hl hj _⟩
    · rintro σ H2 ⟨v3, kvs, rfl, s2, hd2, hj⟩
      have el : us.length = (Sj07.plans c).length := by rw [paired_len ht, List.length_map]
      rw [el] at hj
      have sH2 : Same H H2 := But.same nd (s0.trans s1) s2
      -- [number for number in range(1, most + 1) if number not in just]
      refine ⟨_, rfl, _, _, rfl, rfl, 1, ((m : Nat) : Int) + 1, rfl, ⟨by omega, by omega, by omega, by omega⟩, fun D hD => ?_⟩
      have nD : H D = none := sH2.free hD
      have en : (((m : Nat) : Int) + 1 - 1).toNat = m := by omega
      refine lc_range (lo := 1) (n := (((m : Nat) : Int) + 1 - 1).toNat) (fun i H3 => Same H2 H3 ∧ H3 D = some (.lst (natsV (neverBelow c i)))) ⟨same_upd hD, upd_same⟩ ?_ ?_
      · rintro i H3 hi ⟨s3, hD3⟩
        rw [en] at hi
        have e1 : (1 : Int) + ((i : Nat) : Int) = (((i + 1 : Nat)) : Int) := by omega
        rw [e1]
        have hd3 := s3 _ _ hd2
        have hc := hj.2 (i + 1)
        rw [List.take_length] at hc
        refine ⟨rfl, _, rfl, _, rfl, d, _, rfl, DGet.k (k := Sum.inl (((i + 1 : Nat)) : Int)) hd3, _, rfl, ?_⟩
        rw [hc]
        cases e : ((Sj07.plans c).map (Sj07.holds c)).contains (i + 1) with
        | true =>
          refine iteF ⟨s3, ?_⟩
          rw [never_more, if_pos e, List.append_nil]
          exact hD3
        | false =>
          refine iteT ⟨_, rfl, _, hD3, ?_, But.same hD s3 But.upd, ?_⟩
          · rw [natsV_len]
            have := never_len c i
            exact line_big (by omega)
          · rw [upd_same, never_more, if_neg (by rw [e]; decide), natsV_app]
            rfl
      · rintro H3 ⟨s3, hD3⟩
        rw [en, ← never_eq] at hD3
        exact q H3 D (sH2.trans s3) nD hD3
/-! ### by_size -/
abbrev sBy : Stmt := top 10
theorem scBy : FnScope ["kinds", "rows", "number", "kind", "row"] ["kinds"] (defScope sBy) := ⟨rfl, rfl, rfl, by decide +kernel, rfl, by decide +kernel, by decide +kernel⟩
def spBy : Sp := fun vs H Q _ => ∃ (a : Addr) (c : Cellar), vs = [.ref a] ∧ KindsAt H a c ∧ Good c ∧ ∀ H' p, Same H H' → H p = none → H' p = some (.lst (natsV (Sj07.sorted c))) → Q (.ref p) H'
def sizeRow (c : Cellar) (j : Nat) : List V := [.int (-((sizeAt c j : Nat) : Int)), .int ((j : Nat) : Int)]
/-- a pair's two numbers, by what stands in the heap -/
def keyOf (H : Hp) (x : V) : Int × Int := match x with
  | .ref t => match H t with
    | some (.tup [.int i, .int j]) => (i, j)
    | _ => (0, 0)
  | _ => (0, 0)
theorem keyOf_at {H : Hp} {x : V} {i j : Int} (h : TupAt H x [.int i, .int j]) : keyOf H x = (i, j) := by
  obtain ⟨t, rfl, h⟩ := h
  unfold keyOf
  simp only [h]
theorem sizeAt_get {c : Cellar} {i : Nat} {k : Sj07.Kind} (h : c[i]? = some k) : sizeAt c i = k.size := by
  unfold sizeAt
  rw [List.getD_eq_getElem?_getD, h]
  rfl
theorem mem_of_paired {α β : Type} {F : α → β → Prop} : ∀ {l : List α} {m : List β}, Paired F l m → ∀ {a : α}, a ∈ l → ∃ b, b ∈ m ∧ F a b
  | _, _, .cons q t, a, h => by
    rcases List.mem_cons.mp h with rfl | h
    · exact ⟨_, List.mem_cons_self, q⟩
    · obtain ⟨b, h1, h2⟩ := mem_of_paired t h
      exact ⟨b, List.mem_cons_of_mem _ h1, h2⟩
theorem keys_map {H : Hp} {c : Cellar} : ∀ {ds : List V} {l : List Nat}, Tups H ds (l.map (sizeRow c)) → ds.map (fun x => (keyOf H x).2.toNat) = l
  | [], [], _ => rfl
  | _ :: _, [], h => nomatch h
  | [], _ :: _, h => nomatch h
  | x :: ds, j :: l, .cons q t => by
    rw [List.map_cons, keyOf_at q, keys_map t]
    show ((j : Nat) : Int).toNat :: l = j :: l
    rw [Int.toNat_natCast]
theorem ok_by {f : Addr} {fd : FuncData} (F : Fun K "by_size" "by_size" sBy f fd) (mSorted : mg "sorted" = none) (mEnum : mg "enumerate" = none) : FnOk P w K mg base CX0 1 f fd ["kinds"] spBy := by
  refine F.ok scBy (fun vs H Q E h => ?_) (fun cdv A outer s H vs Q E hr h => ?_)
  · obtain ⟨a, c, rfl, _⟩ := h
    rfl
  · obtain ⟨a, c, rfl, ⟨ks, ha, hk⟩, g, q⟩ := h
    refine ⟨_, pss_cons (ps_set (i := 1) scBy.nd rfl (.inl rfl) (pe_callB cr_sortedPO (by rfl) mSorted (by decide +kernel) (pa_cons (pe_lc (own := [("number", 2), ("kind", 3)]) (g := gTup K 2 (gCons (gName 2) (gCons (gName 3) gNil))) (tt := tYes)
        (te := tTup (tCons (tUn (rU fun i => .int (-i)) (tOp (rIxT K) (tVar 3) (tC (.int 0)))) (tCons (tVar 2) tNil))) rfl scBy.nd
        (pi_enum (by rfl) mEnum (pa_cons (pv 0) pa_nil)) (blkOk_by (N := ["kinds", "rows", "number", "kind", "row"]) (sc := defScope sBy) (by decide +kernel))
        (fun _ _ _ _ _ => pg_tup rfl (pgs_cons (pg_name (i := 2) scBy.nd rfl (Or.inl rfl)) (pgs_cons (pg_name (i := 3) scBy.nd rfl (Or.inl rfl)) pgs_nil)))
        (fun _ _ _ _ _ => pts_nil) (fun _ _ _ _ _ => pe_tup (pa_cons (pe_un un_neg (pe_ix ix_tup (pv 3) pe_int (fun _ _ => rfl))) (pa_cons (pv 2) pa_nil)))) pa_nil)))
      (pss_one (ps_ret (pe_lc (own := [("row", 4)]) (g := gName 4) (tt := tYes) (te := tOp (rIxT K) (tVar 4) (tC (.int 1))) rfl scBy.nd (pi_list (pv 1)) (blkOk_by (N := ["kinds", "rows", "number", "kind", "row"]) (sc := defScope sBy) (by decide +kernel))
        (fun _ _ _ _ _ => pg_name (i := 4) scBy.nd rfl (Or.inl rfl)) (fun _ _ _ _ _ => pts_nil) (fun _ _ _ _ _ => pe_ix ix_tup (pv 4) pe_int (fun _ _ => rfl))))), ?_⟩
    refine ⟨_, rfl, a, ks, rfl, SqL.of ha, fun D hD => ?_⟩
    have lk : ks.length = c.length := kinds_len hk
    refine lc_it (walk_enum (K := K) (a := a) (xs := ks)) (fun i H1 => ∃ ds, Same H H1 ∧ H1 D = some (.lst ds) ∧ Tups H1 ds ((List.range i).map (sizeRow c))) ?_ ?_ ?_ ?_
    · exact ⟨[], same_upd hD, upd_same, .nil⟩
    · rintro i H1 _ ⟨ds, s1, _⟩
      exact SqL.of (s1 _ _ ha)
    · rintro i v H1 H' _ ⟨ds, s1, hds, hts⟩ ⟨T, x0, x, rfl, nT, rfl, h0, hx⟩
      obtain rfl := Option.some.inj h0
      obtain ⟨k, t, hk1, rfl, ht⟩ := KindsAt.at hk hx
      have s2 : Same H1 (upd H1 T (.tup [.int ((i : Nat) : Int), .ref t])) := same_upd nT
      refine ⟨T, _, rfl, SqT.of upd_same, rfl, _, _, rfl, _, _, rfl, rfl, rfl, yes (iteT ?_)⟩
      refine ⟨_, rfl, t, _, 0, _, rfl, rfl, SqT.of (s2 _ _ (s1 _ _ ht)), atI_nat (j := 0) rfl, _, rfl, _, rfl, (by show 2 ≤ sizeLine; decide), fun T2 nT2 => ?_⟩
      have s3 := same_upd (o := .tup [.int (-((k.size : Nat) : Int)), .int ((i : Nat) : Int)]) nT2
      have e : sizeRow c i = [.int (-((k.size : Nat) : Int)), .int ((i : Nat) : Int)] := by
        unfold sizeRow
        rw [sizeAt_get hk1]
      obtain ⟨a1, a2, a3⟩ := push_tup (x := sizeRow c i) hD s1 hds hts (s2.trans s3) ⟨T2, rfl, by rw [e]; exact upd_same⟩
      refine ⟨ds, s3 _ _ (s2 _ _ hds), ?_, _, a1, a2, ?_⟩
      · rw [paired_len hts, List.length_map, List.length_range]
        have := get_lt hk1
        have := g.len
        exact line_big (by omega)
      · rw [List.range_succ, List.map_append]
        exact a3
    · rintro H1 ⟨ds, s1, hds, hts⟩
      rw [lk] at hts
      have each : ∀ x ∈ ds, ∃ j, j < c.length ∧ TupAt H1 x (sizeRow c j) := fun x hx => by
        obtain ⟨xs, h1, h2⟩ := mem_of_paired hts hx
        obtain ⟨j, hj, rfl⟩ := List.mem_map.mp h1
        exact ⟨j, List.mem_range.mp hj, h2⟩
      refine ⟨D, ds, keyOf H1, rfl, SqL.of hds, fun x hx => ?_, fun ys p hs hb np => ?_⟩
      · obtain ⟨j, _, h2⟩ := each x hx
        rw [keyOf_at h2]
        exact h2
      · have s2 : Same H1 (upd H1 p (.lst ys)) := same_upd np
        have nD : H D = none := hD
        -- the numbers, in the order of the sorted pairs
        have perm : (ys.map fun x => (keyOf H1 x).2.toNat).Perm (List.range c.length) := by
          have := hb.perm.map fun x => (keyOf H1 x).2.toNat
          rw [keys_map hts] at this
          exact this
        have up : (ys.map fun x => (keyOf H1 x).2.toNat).Pairwise fun i k => leK c i k = true := by
          rw [List.pairwise_map]
          refine List.Pairwise.imp_of_mem (fun {x y} hx hy h => ?_) hs
          obtain ⟨i, _, h1⟩ := each x (hb.perm.mem_iff.mp hx)
          obtain ⟨j, _, h2⟩ := each y (hb.perm.mem_iff.mp hy)
          have h3 : SrtO.lexB (keyOf H1 y) (keyOf H1 x) = false := h
          rw [keyOf_at h1, keyOf_at h2] at h3
          rw [keyOf_at h1, keyOf_at h2]
          have h4 := SrtO.lexB_no.mp h3
          refine leK_iff.mpr ?_
          have e1 : (((i : Nat) : Int)).toNat = i := Int.toNat_natCast i
          have e2 : (((j : Nat) : Int)).toNat = j := Int.toNat_natCast j
          show sizeAt c (((j : Nat) : Int)).toNat < sizeAt c (((i : Nat) : Int)).toNat ∨ (sizeAt c (((i : Nat) : Int)).toNat = sizeAt c (((j : Nat) : Int)).toNat ∧ (((i : Nat) : Int)).toNat ≤ (((j : Nat) : Int)).toNat)
          rw [e1, e2]
          have h5 : ¬ ((-((sizeAt c j : Nat) : Int)) < -((sizeAt c i : Nat) : Int) ∨ ((-((sizeAt c j : Nat) : Int)) = -((sizeAt c i : Nat) : Int) ∧ ((j : Nat) : Int) < ((i : Nat) : Int))) := h4
          omega
        have is : (ys.map fun x => (keyOf H1 x).2.toNat) = Sj07.sorted c := sorted_uniq perm up
        -- [row[1] for row in rows]
        refine ⟨_, rfl, p, rfl, ⟨_, SqL.of upd_same⟩, fun D2 hD2 => ?_⟩
        have nD2 : H D2 = none := (s1.trans s2).free hD2
        refine lc_list (K := K) (a := p) (xs := ys) (fun i H3 => Same (upd H1 p (.lst ys)) H3 ∧ H3 D2 = some (.lst (natsV ((Sj07.sorted c).take i)))) ?_ ?_ ?_ ?_
        · exact ⟨same_upd hD2, upd_same⟩
        · rintro i H3 _ ⟨s3, _⟩
          exact SqL.of (s3 _ _ upd_same)
        · rintro i x H3 hx ⟨s3, hD3⟩
          obtain ⟨j, hj, h1⟩ := each x (hb.perm.mem_iff.mp (List.mem_of_getElem? hx))
          have ej : (Sj07.sorted c)[i]? = some j := by
            rw [← is, List.getElem?_map, hx, Option.map_some, keyOf_at h1]
            show some (((j : Nat) : Int)).toNat = some j
            rw [Int.toNat_natCast]
          obtain ⟨t, rfl, ht⟩ := h1
          refine ⟨rfl, yes (iteT ?_)⟩
          refine ⟨_, rfl, t, _, 1, _, rfl, rfl, SqT.of (s3 _ _ (s2 _ _ ht)), atI_nat (j := 1) rfl, _, hD3, ?_, But.same hD2 s3 But.upd, ?_⟩
          · rw [natsV_len, List.length_take]
            have e1 := get_lt ej
            have e2 := (sorted_perm c).length_eq
            have e3 := g.len
            rw [List.length_range] at e2
            exact line_big (by omega)
          · rw [upd_same, take_snoc ej, natsV_app]
            rfl
        · rintro H3 ⟨s3, hD3⟩
          have el : ys.length = (Sj07.sorted c).length := by
            rw [← is, List.length_map]
          rw [el, List.take_length] at hD3
          exact q H3 D2 ((s1.trans s2).trans s3) nD2 hD3
/-! ### largest_first -/
abbrev sLarg : Stmt := top 11
theorem scLarg : FnScope ["kinds", "order", "taken", "left", "number", "size", "many"] ["kinds", "order"] (defScope sLarg) := ⟨rfl, rfl, rfl, by decide +kernel, rfl, by decide +kernel, by decide +kernel⟩
def spLarg : Sp := fun vs H Q _ => ∃ (a : Addr) (c : Cellar) (v : Nat), vs = [.ref a, .int ((v : Nat) : Int)] ∧ KindsAt H a c ∧ Good c ∧
  ∀ H' p t, Same H H' → H p = none → H t = none → H' p = some (.tup [.int (((Sj07.plain c v).2 : Nat) : Int), .ref t]) → H' t = some (.lst (natsV (Sj07.plain c v).1)) → Q (.ref p) H'
/-- the program's state behind i kinds -/
def runBy (c : Cellar) (v i : Nat) : List Nat × Nat := ((Sj07.sorted c).take i).foldl (turn c) (List.replicate c.length 0, v)
theorem rep_flat : ∀ n : Nat, (List.replicate n [V.int 0]).flatten = natsV (List.replicate n 0)
  | 0 => rfl
  | n + 1 => by
    rw [List.replicate_succ, List.flatten_cons, rep_flat n, List.replicate_succ]
    rfl
theorem ok_larg {f f1 : Addr} {fd fd1 : FuncData} (F : Fun K "largest_first" "largest_first" sLarg f fd) (F1 : Fun K "by_size" "by_size" sBy f1 fd1) (b1 : Binds K fd1 ["kinds"] []) (g1 : mg "by_size" = some (.ref f1))
    (mSorted : mg "sorted" = none) (mEnum : mg "enumerate" = none) (mLen : mg "len" = none) (mMin : mg "min" = none) : FnOk P w K mg base CX0 2 f fd ["kinds", "order"] spLarg := by
  have G1 : FnOk P w K mg base CX0 1 f1 fd1 ["kinds"] spBy := ok_by F1 mSorted mEnum
  refine F.ok scLarg (fun vs H Q E h => ?_) (fun cdv A outer s H vs Q E hr h => ?_)
  · obtain ⟨a, c, v, rfl, _⟩ := h
    rfl
  · obtain ⟨a, c, v, rfl, ⟨ks, ha, hk⟩, g, q⟩ := h
    refine ⟨_, pss_cons (ps_set (i := 2) scLarg.nd rfl (.inl rfl) (pe_op op_rep (pe_lst (pa_cons pe_int pa_nil)) (pe_callB call_len_seq (by rfl) mLen PySem.boot_len (pa_cons (pv 0) pa_nil))))
      (pss_cons (ps_set (i := 3) scLarg.nd rfl (.inl rfl) (pv 1))
      (pss_cons (ps_for PassesOwn.never rfl (pi_list (pe_call G1 hr (by rfl) g1 F1.kp b1 .nil pass0 (pa_cons (pv 0) pa_nil))) (pg_name (i := 4) scLarg.nd rfl (Or.inl rfl))
        (pss_cons (ps_asg (pe_ix ix_list (pv 0) (pv 4) (fun _ _ => rfl)) (pg_tup rfl (pgs_cons (pg_name (i := 5) scLarg.nd rfl (Or.inl rfl)) (pgs_cons (pg_name (i := 6) scLarg.nd rfl (Or.inl rfl)) pgs_nil))))
        (pss_cons (ps_asg (pe_callB (call_min2 rfl) (by rfl) mMin (by decide +kernel) (pa_cons (pv 6) (pa_cons (pe_op op_fdiv (pv 3) (pv 5)) pa_nil))) (pg_sub (pv 2) (pv 4) set_list))
        (pss_one (ps_set (i := 3) scLarg.nd rfl (.inl rfl) (pe_op op_sub (pv 3) (pe_op op_mul (pe_ix ix_list (pv 2) (pv 4) (fun _ _ => rfl)) (pv 5))))))))
      (pss_one (ps_ret (pe_tup (pa_cons (pv 3) (pa_cons (pv 2) pa_nil))))))), ?_⟩
    have lk : ks.length = c.length := kinds_len hk
    have g4 := g.len
    -- taken = [0] * len(kinds)
    refine ⟨(by show 1 ≤ sizeLine; decide), fun z nz => ?_⟩
    have s0 : Same H (upd H z (.lst [.int 0])) := same_upd nz
    refine ⟨_, rfl, a, ks, rfl, .inl (SqL.of (s0 _ _ ha)), z, ((ks.length : Nat) : Int), _, rfl, rfl, upd_same, by omega, by omega, ?_, fun tk ntk => ?_⟩
    · rw [Int.toNat_natCast]
      refine Nat.le_of_lt (line_big ?_)
      show 1 * ks.length ≤ 30000
      omega
    rw [Int.toNat_natCast, rep_flat, lk]
    have s1 : Same (upd H z (.lst [.int 0])) (upd (upd H z (.lst [.int 0])) tk (.lst (natsV (List.replicate c.length 0)))) := same_upd ntk
    have ntkH : H tk = none := s0.free ntk
    -- left = order
    refine ⟨_, rfl, ?_⟩
    -- for number in by_size(kinds)
    have hkk : KindsAt (upd (upd H z (.lst [.int 0])) tk (.lst (natsV (List.replicate c.length 0)))) a c := KindsAt.same (s0.trans s1) ⟨ks, ha, hk⟩
    refine ⟨_, rfl, a, c, rfl, hkk, g, fun H1 p s2 np hp => ⟨p, rfl, ⟨_, SqL.of hp⟩, ?_⟩⟩
    have htk1 : H1 tk = some (.lst (natsV (List.replicate c.length 0))) := s2 _ _ upd_same
    have pne : p ≠ tk := (ne_of_none upd_same np).symm
    refine for_list (K := K) (a := p) (xs := natsV (Sj07.sorted c)) (fun i σ H2 => ∃ v4 v5 v6, σ = [some (.ref a), some (.int ((v : Nat) : Int)), some (.ref tk), some (.int (((runBy c v i).2 : Nat) : Int)), v4, v5, v6] ∧ But tk H1 H2 ∧ H2 tk = some (.lst (natsV (runBy c v i).1))) ?_ ?_ ?_ ?_
    · exact ⟨none, none, none, rfl, But.refl _ _, htk1⟩
    · rintro i σ H2 _ ⟨v4, v5, v6, rfl, s3, _⟩
      exact SqL.of (s3 _ _ pne hp)
    · rintro i x σ H2 hx ⟨v4, v5, v6, rfl, s3, htk2⟩
      obtain ⟨j, hj, rfl⟩ := natsV_get hx
      have jl : j < c.length := sorted_lt (List.mem_of_getElem? hj)
      have sH2 : Same H H2 := But.same ntkH ((s0.trans s1).trans s2) s3
      obtain ⟨k, hkj⟩ : ∃ k, c[j]? = some k := ⟨_, List.getElem?_eq_getElem jl⟩
      obtain ⟨vk, hvk⟩ : ∃ y, ks[j]? = some y := ⟨_, List.getElem?_eq_getElem (by rw [lk]; exact jl)⟩
      obtain ⟨k', t, hk1, rfl, ht⟩ := KindsAt.at hk hvk
      obtain rfl : k = k' := by
        rw [hkj] at hk1
        exact Option.some.inj hk1
      have gk := g.ok k (List.mem_of_getElem? hkj)
      have eS : sizeAt c j = k.size := sizeAt_get hkj
      have eT : ∀ u, takenOf c j u = min k.stock (u / k.size) := fun u => by
        unfold takenOf
        rw [List.getD_eq_getElem?_getD, hkj]
        rfl
      have step : runBy c v (i + 1) = turn c (runBy c v i) j := by
        unfold runBy
        exact run_more hj
      have ltk : (runBy c v i).1.length = c.length := by
        unfold runBy
        rw [run_len, List.length_replicate]
      generalize hR : runBy c v i = R at *
      -- size, many = kinds[number]
      refine ⟨_, rfl, _, rfl, a, ks, ((j : Nat) : Int), _, rfl, rfl, SqL.of (sH2 _ _ ha), atI_nat hvk, t, _, rfl, SqT.of (sH2 _ _ ht), rfl, _, _, rfl, _, _, rfl, rfl, ?_⟩
      -- taken[number] = min(many, left // size)
      refine ⟨_, rfl, _, rfl, _, rfl, _, _, rfl, rfl, ⟨by omega, by omega⟩, _, _, rfl, ?_⟩
      have em : (if ((R.2 : Nat) : Int) / ((k.size : Nat) : Int) < ((k.stock : Nat) : Int) then ((R.2 : Nat) : Int) / ((k.size : Nat) : Int) else ((k.stock : Nat) : Int)) = ((takenOf c j R.2 : Nat) : Int) := by
        rw [eT, ← Int.natCast_ediv]
        by_cases h : R.2 / k.size < k.stock
        · rw [if_pos (by omega)]
          omega
        · rw [if_neg (by omega)]
          omega
      have ei : ixN (natsV R.1).length ((j : Nat) : Int) = some j := by
        unfold ixN
        rw [natsV_len, ltk, if_pos (by omega), if_pos (by omega), Int.toNat_natCast]
      refine ⟨_, rfl, _, rfl, tk, _, _, j, rfl, rfl, htk2, ei, ?_⟩
      have es : (natsV R.1).set j (.int (if ((R.2 : Nat) : Int) / ((k.size : Nat) : Int) < ((k.stock : Nat) : Int) then ((R.2 : Nat) : Int) / ((k.size : Nat) : Int) else ((k.stock : Nat) : Int))) = natsV (R.1.set j (takenOf c j R.2)) := by
        rw [em]
        unfold natsV
        rw [List.map_set]
      have at1 : (natsV (R.1.set j (takenOf c j R.2)))[j]? = some (.int ((takenOf c j R.2 : Nat) : Int)) := natsV_at (List.getElem?_set_self (by rw [ltk]; exact jl))
      -- left = left - taken[number] * size
      refine ⟨_, rfl, _, rfl, _, rfl, tk, natsV (R.1.set j (takenOf c j R.2)), ((j : Nat) : Int), _, rfl, rfl, SqL.of (by rw [upd_same]; exact congrArg (fun q => some (HO.lst q)) es), atI_nat at1, _, rfl, _, _, rfl, rfl, .inr ⟨by omega, by omega⟩, _, _, rfl, rfl, ?_⟩
      refine ⟨some (.int ((j : Nat) : Int)), some (.int ((k.size : Nat) : Int)), some (.int ((k.stock : Nat) : Int)), ?_, s3.trans But.upd, ?_⟩
      · have el : ((R.2 : Nat) : Int) - ((takenOf c j R.2 : Nat) : Int) * ((k.size : Nat) : Int) = (((turn c R j).2 : Nat) : Int) := by
          have h1 : takenOf c j R.2 * sizeAt c j ≤ R.2 := taken_le
          show _ = ((R.2 - takenOf c j R.2 * sizeAt c j : Nat) : Int)
          rw [eS] at h1 ⊢
          rw [← Int.natCast_mul]
          omega
        rw [step, ← el]
        rfl
      · rw [upd_same, step]
        exact congrArg (fun q => some (HO.lst q)) es
    · rintro σ H2 ⟨v4, v5, v6, rfl, s3, htk2⟩
      have eR : runBy c v (natsV (Sj07.sorted c)).length = Sj07.plain c v := by
        rw [plain_eq g]
        unfold runBy runPlain
        rw [natsV_len, List.take_length]
      rw [eR] at htk2 ⊢
      have sH2 : Same H H2 := But.same ntkH ((s0.trans s1).trans s2) s3
      refine ⟨_, rfl, _, rfl, (by show 2 ≤ sizeLine; decide), fun T nT => ?_⟩
      have s4 := same_upd (o := .tup [.int (((Sj07.plain c v).2 : Nat) : Int), .ref tk]) nT
      exact q _ T tk (sH2.trans s4) (sH2.free nT) ntkH upd_same (s4 _ _ htk2)
end
end Ck

namespace Ck
open PySem PySem.Spec PyProof.Rows L2
open Sj07 (Cellar Call)
/-! ### what the module's names hold -/
abbrev IsC (mg : Str → Option Value) (x : Str) (i : Int) : Prop := ∃ t, mg x = some (.int i t)
structure Consts (mg : Str → Option Value) : Prop where
  begins : IsC mg "BEGINS" 0
  kind : IsC mg "KIND" 1
  check : IsC mg "CHECK" 2
  full : IsC mg "FULL" 3
  fewest : IsC mg "FEWEST" 4
  never : IsC mg "NEVER" 5
  bad : IsC mg "BAD" (-1)
  four : IsC mg "FOUR_THERE" (-5)
  notF : IsC mg "NOT_FILLED" (-6)
  size : IsC mg "MOST_SIZE" 60
  many : IsC mg "MOST_MANY" 6
  kinds : IsC mg "MOST_KINDS" 4
  order : IsC mg "MOST_ORDER" 1500
/-- a def that callers use -/
structure Has (P : Program) (w : World) (K : PySem.W.Frag) (mg : Str → Option Value) (base : Heap) (k : Nat) (x : Str) (ps : List Str) (sp : Sp) (f : Addr) (fd : FuncData) : Prop where
  ok : FnOk P w K mg base CX0 k f fd ps sp
  kp : PySem.W.keepIn K (.ref f) = true
  bd : Binds K fd ps []
  gl : mg x = some (.ref f)
/-! ### what is due, case by case -/
theorem due_check_bad {c : Cellar} {v : Nat} {l : List Nat} (h : v < 1 ∨ 1500 < v ∨ Sj07.can c l = false) : answerOf c (.check v l) = [-1] := by
  have e : Sj07.step c (.check v l) = (c, Sj07.ok (-1)) := if_pos h
  unfold answerOf
  rw [e]
  rfl
theorem due_check_short {c : Cellar} {v : Nat} {l : List Nat} (h : ¬ (v < 1 ∨ 1500 < v ∨ Sj07.can c l = false)) (h2 : Sj07.holds c l < v) : answerOf c (.check v l) = [-6, ((v - Sj07.holds c l : Nat) : Int)] := by
  have e : Sj07.step c (.check v l) = (c, if Sj07.holds c l < v then ⟨-6, Sj07.ints [v - Sj07.holds c l]⟩ else ⟨((Sj07.left c v l : Nat) : Int), Sj07.ints [l.sum]⟩) := if_neg h
  unfold answerOf
  rw [e, if_pos h2]
  rfl
theorem due_check_good {c : Cellar} {v : Nat} {l : List Nat} (h : ¬ (v < 1 ∨ 1500 < v ∨ Sj07.can c l = false)) (h2 : ¬ Sj07.holds c l < v) : answerOf c (.check v l) = [((Sj07.left c v l : Nat) : Int), ((l.sum : Nat) : Int)] := by
  have e : Sj07.step c (.check v l) = (c, if Sj07.holds c l < v then ⟨-6, Sj07.ints [v - Sj07.holds c l]⟩ else ⟨((Sj07.left c v l : Nat) : Int), Sj07.ints [l.sum]⟩) := if_neg h
  unfold answerOf
  rw [e, if_neg h2]
  rfl
theorem due_best_bad {c : Cellar} {v : Nat} (h : v < 1 ∨ 1500 < v) : answerOf c (.full v) = [-1] ∧ answerOf c (.fewest v) = [-1] := by
  have e1 : Sj07.step c (.full v) = (c, Sj07.ok (-1)) := if_pos h
  have e2 : Sj07.step c (.fewest v) = (c, Sj07.ok (-1)) := if_pos h
  unfold answerOf
  rw [e1, e2]
  exact ⟨rfl, rfl⟩
theorem due_full {c : Cellar} {v : Nat} (h : ¬ (v < 1 ∨ 1500 < v)) : answerOf c (.full v) = (Sj07.toldBest (Sj07.full c v)).v :: (Sj07.toldBest (Sj07.full c v)).l := by
  have e1 : Sj07.step c (.full v) = (c, Sj07.toldBest (Sj07.full c v)) := if_neg h
  unfold answerOf
  rw [e1]
theorem due_fewest {c : Cellar} {v : Nat} (h : ¬ (v < 1 ∨ 1500 < v)) : answerOf c (.fewest v) = (Sj07.toldBest (Sj07.fewest c v)).v :: (Sj07.toldBest (Sj07.fewest c v)).l := by
  have e1 : Sj07.step c (.fewest v) = (c, Sj07.toldBest (Sj07.fewest c v)) := if_neg h
  unfold answerOf
  rw [e1]
theorem due_never_bad {c : Cellar} {v : Nat} (h : v < 1 ∨ 1500 < v) : answerOf c (.never v) = [-1] := by
  have e1 : Sj07.step c (.never v) = (c, Sj07.ok (-1)) := if_pos h
  unfold answerOf
  rw [e1]
  rfl
theorem due_never {c : Cellar} {v : Nat} (h : ¬ (v < 1 ∨ 1500 < v)) : answerOf c (.never v) = [(((Sj07.never c v).length : Nat) : Int), (((Sj07.never c v).getLastD 0 : Nat) : Int)] := by
  have e1 : Sj07.step c (.never v) = (c, ⟨(((Sj07.never c v).length : Nat) : Int), Sj07.ints [(Sj07.never c v).getLastD 0]⟩) := if_neg h
  unfold answerOf
  rw [e1]
  rfl
theorem due_plain_bad {c : Cellar} {v : Nat} (h : v < 1 ∨ 1500 < v) : answerOf c (.plain v) = [-1] := by
  have e1 : Sj07.step c (.plain v) = (c, Sj07.ok (-1)) := if_pos h
  unfold answerOf
  rw [e1]
  rfl
theorem due_plain {c : Cellar} {v : Nat} (h : ¬ (v < 1 ∨ 1500 < v)) : answerOf c (.plain v) = (((Sj07.plain c v).2 : Nat) : Int) :: ints' ((Sj07.plain c v).1.sum :: (Sj07.plain c v).1) := by
  have e1 : Sj07.step c (.plain v) = (c, ⟨(((Sj07.plain c v).2 : Nat) : Int), Sj07.ints ((Sj07.plain c v).1.sum :: (Sj07.plain c v).1)⟩) := if_neg h
  unfold answerOf
  rw [e1]
  rfl
theorem best_told {f g : List Nat → Nat} {p : List (List Nat)} {m : Nat × Nat} (h : LeastPair m (rowsOf f g p)) : natsV (toldRows (leastOf m (rowsOf f g p))) = ((Sj07.toldBest (Sj07.bestBy f g p)).v :: (Sj07.toldBest (Sj07.bestBy f g p)).l).map V.int := by
  obtain ⟨r, e, _, e2⟩ := told_best h.1 h.2
  rw [e, e2]
  show _ = V.int ((r.first : Nat) : Int) :: (Sj07.ints (r.second :: r.many :: r.row)).map V.int
  unfold Sj07.ints natsV
  rw [List.map_map]
  rfl
/-! ### rows == [] -/
def planD (l : List Nat) : PyData := .tuple (l.map fun n => .int ((n : Nat) : Int))
def rowD (r : Row) : PyData := .tuple [.int ((r.1 : Nat) : Int), .int ((r.2.1 : Nat) : Int), planD r.2.2]
theorem dp_nats {K : PySem.W.Frag} {H : Hp} : ∀ l : List Nat, DpAll K H (natsV l) (l.map fun n => .int ((n : Nat) : Int))
  | [] => .nil
  | n :: l => .cons (.int _) (dp_nats l)
theorem dp_rows {K : PySem.W.Frag} {H : Hp} : ∀ {us : List V} {rs : List Row}, Rows H us rs → DpAll K H us (rs.map rowD)
  | _, _, .nil => .nil
  | _, _, .cons ⟨t, p, e, h1, h2⟩ q => by
    subst e
    exact .cons (.tup (SqT.of h1) (.cons (.int _) (.cons (.int _) (.cons (.tup (SqT.of h2) (dp_nats _)) .nil)))) (dp_rows q)
theorem lay_ints : ∀ l : List Nat, PyData.canLayAll0 (l.map fun n => .int ((n : Nat) : Int)) = true ∧ PyData.depthAll (l.map fun n => .int ((n : Nat) : Int)) = 0
  | [] => ⟨rfl, rfl⟩
  | n :: l => by
    obtain ⟨a, b⟩ := lay_ints l
    simp only [List.map_cons, PyData.canLayAll0, PyData.canLay0, PyData.depthAll, PyData.depth, a, b]
    exact ⟨rfl, rfl⟩
theorem lay_rows : ∀ rs : List Row, PyData.canLayAll0 (rs.map rowD) = true ∧ PyData.depthAll (rs.map rowD) ≤ 2
  | [] => ⟨rfl, by decide⟩
  | r :: rs => by
    obtain ⟨a, b⟩ := lay_rows rs
    obtain ⟨c, d⟩ := lay_ints r.2.2
    simp only [List.map_cons, PyData.canLayAll0, PyData.canLay0, PyData.depthAll, PyData.depth, rowD, planD, a, c, d]
    exact ⟨rfl, by omega⟩
theorem shaped_rows (rs : List Row) : SeqAt.shaped (.list (rs.map rowD)) = true := by
  obtain ⟨a, b⟩ := lay_rows rs
  have e : PyData.canLay0 (.list (rs.map rowD)) = true := by
    simp only [PyData.canLay0]
    exact a
  have d : PyData.depth (.list (rs.map rowD)) ≤ 64 := by
    simp only [PyData.depth]
    omega
  unfold SeqAt.shaped
  rw [e, decide_eq_true d]
  rfl
theorem eqv_none (rs : List Row) : PyData.eqv (.list (rs.map rowD)) (.list []) = rs.isEmpty := by
  cases rs <;> simp only [PyData.eqv, PyData.eqvAll, List.map_nil, List.map_cons] <;> rfl
section
variable {P : Program} {w : World} {K : PySem.W.Frag} {mg : Str → Option Value} {base : Heap}
/-! ### is_order -/
abbrev sOrder : Stmt := top 31
theorem scOrder : FnScope ["number"] ["number"] (defScope sOrder) := ⟨rfl, rfl, rfl, by decide +kernel, rfl, by decide +kernel, by decide +kernel⟩
def spOrder : Sp := fun vs H Q _ => ∃ v : Nat, vs = [.int ((v : Nat) : Int)] ∧ Q (.bl (decide (¬ (v < 1 ∨ 1500 < v)))) H
theorem ok_order {f : Addr} {fd : FuncData} (F : Fun K "is_order" "is_order" sOrder f fd) (C : Consts mg) : FnOk P w K mg base CX0 1 f fd ["number"] spOrder := by
  obtain ⟨t0, c0⟩ := C.order
  refine F.ok scOrder (fun vs H Q E h => ?_) (fun cdv A outer s H vs Q E hr h => ?_)
  · obtain ⟨v, rfl, _⟩ := h
    rfl
  · obtain ⟨v, rfl, q⟩ := h
    refine ⟨_, pss_one (ps_ret (pe_chain op_le op_le pe_int (pv 0) (pe_glob rfl c0 (v := .int 1500) ⟨_, rfl⟩))), ?_⟩
    refine ⟨_, rfl, _, _, rfl, rfl, _, rfl, ite2 (fun e => ⟨_, _, rfl, rfl, ?_⟩) (fun e => ?_)⟩
    · have e1 : (1 : Int) ≤ ((v : Nat) : Int) := of_decide_eq_true e
      have e2 : decide (((v : Nat) : Int) ≤ 1500) = decide (¬ (v < 1 ∨ 1500 < v)) := decide_eq_decide.mpr (by omega)
      show Q (.bl (decide (((v : Nat) : Int) ≤ 1500))) H
      rw [e2]
      exact q
    · have e1 : ¬ (1 : Int) ≤ ((v : Nat) : Int) := fun z => e (decide_eq_true z)
      have e2 : decide (¬ (v < 1 ∨ 1500 < v)) = false := decide_eq_false (by omega)
      rw [e2] at q
      exact q
/-! ### told_kind -/
abbrev sKind : Stmt := top 32
theorem scKind : FnScope ["kinds", "size", "many"] ["kinds", "size", "many"] (defScope sKind) := ⟨rfl, rfl, rfl, by decide +kernel, rfl, by decide +kernel, by decide +kernel⟩
/-- a pair: the kinds (the same list, or a new one) and a new list of what is answered -/
def Told (H H' : Hp) (a p : Addr) (c' : Cellar) (ans : List Int) : Prop := ∃ a' r, H' p = some (.tup [.ref a', .ref r]) ∧ (a' = a ∨ H a' = none) ∧ H r = none ∧ KindsAt H' a' c' ∧ H' r = some (.lst (ans.map V.int))
def spKind : Sp := fun vs H Q _ => ∃ (a : Addr) (c : Cellar) (s n : Nat), vs = [.ref a, .int ((s : Nat) : Int), .int ((n : Nat) : Int)] ∧ KindsAt H a c ∧ Good c ∧
  ∀ H' p, Same H H' → H p = none → Told H H' a p (Sj07.step c (.kind s n)).1 (answerOf c (.kind s n)) → Q (.ref p) H'
theorem ok_kind {f : Addr} {fd : FuncData} (F : Fun K "told_kind" "told_kind" sKind f fd) (C : Consts mg) (mLen : mg "len" = none) : FnOk P w K mg base CX0 1 f fd ["kinds", "size", "many"] spKind := by
  obtain ⟨t0, c0⟩ := C.size
  obtain ⟨t1, c1⟩ := C.many
  obtain ⟨t2, c2⟩ := C.kinds
  obtain ⟨t3, c3⟩ := C.bad
  obtain ⟨t4, c4⟩ := C.four
  refine F.ok scKind (fun vs H Q E h => ?_) (fun cdv A outer s H vs Q E hr h => ?_)
  · obtain ⟨a, c, s, n, rfl, _⟩ := h
    rfl
  · obtain ⟨a, c, s, n, rfl, hk, g, q⟩ := h
    refine ⟨_, pss_cons (ps_if (PW.pt (pw_or (pt_not (pt_chain op_le op_le pe_int (pv 1) (pe_glob rfl c0 (v := .int 60) ⟨_, rfl⟩))) (pw_or1 (pt_cmpR op_gt (pv 2) (pe_glob rfl c1 (v := .int 6) ⟨_, rfl⟩) (nomark _)))))
        (pss_one (ps_ret (pe_tup (pa_cons (pv 0) (pa_cons (pe_lst (pa_cons (pe_glob rfl c3 (v := .int (-1)) ⟨_, rfl⟩) pa_nil)) pa_nil))))) pss_nil)
      (pss_cons (ps_if (pt_cmpR op_eq (pe_callB call_len_seq (by rfl) mLen PySem.boot_len (pa_cons (pv 0) pa_nil)) (pe_glob rfl c2 (v := .int 4) ⟨_, rfl⟩) (nomark _))
        (pss_one (ps_ret (pe_tup (pa_cons (pv 0) (pa_cons (pe_lst (pa_cons (pe_glob rfl c4 (v := .int (-5)) ⟨_, rfl⟩) pa_nil)) pa_nil))))) pss_nil)
      (pss_one (ps_ret (pe_tup (pa_cons (pe_op op_cat (pv 0) (pe_lst (pa_cons (pe_tup (pa_cons (pv 1) (pa_cons (pv 2) pa_nil))) pa_nil))) (pa_cons (pe_lst (pa_cons (pe_callB call_len_seq (by rfl) mLen PySem.boot_len (pa_cons (pv 0) pa_nil)) pa_nil)) pa_nil)))))), ?_⟩
    -- a refusal
    have refuse : ∀ z : Int, (Sj07.step c (.kind s n)) = (c, Sj07.ok z) → (1 ≤ sizeLine ∧ ∀ r, H r = none → 2 ≤ sizeLine ∧ ∀ p, upd H r (.lst [.int z]) p = none → Q (.ref p) (upd (upd H r (.lst [.int z])) p (.tup [.ref a, .ref r]))) := by
      intro z e
      refine ⟨(by show 1 ≤ sizeLine; decide), fun r nr => ⟨(by show 2 ≤ sizeLine; decide), fun p np => ?_⟩⟩
      have s1 := same_upd (o := .lst [.int z]) nr
      have s2 := same_upd (o := .tup [.ref a, .ref r]) np
      refine q _ p (s1.trans s2) (s1.free np) ⟨a, r, upd_same, .inl rfl, nr, ?_, ?_⟩
      · rw [e]
        exact hk.same (s1.trans s2)
      · unfold answerOf
        rw [e]
        exact s2 _ _ upd_same
    have go_on : ¬ (s < 1 ∨ 60 < s ∨ 6 < n) → tSeq (tIfS (tTest (tOp rEq (tCB (fun xs H Q => ∃ p ys, xs = [.ref p] ∧ (SqL K H p ys ∨ SqT K H p ys) ∧ Q (.int ys.length) H) (tCons (tVar 0) tNil)) (tC (.int 4)))) (tRet (tTup (tCons (tVar 0) (tCons (tLst (tCons (tC (.int (-5))) tNil)) tNil)))) tNext)
        (tRet (tTup (tCons (tOp rCat (tVar 0) (tLst (tCons (tTup (tCons (tVar 1) (tCons (tVar 2) tNil))) tNil))) (tCons (tLst (tCons (tCB (fun xs H Q => ∃ p ys, xs = [.ref p] ∧ (SqL K H p ys ∨ SqT K H p ys) ∧ Q (.int ys.length) H) (tCons (tVar 0) tNil)) tNil)) tNil))))
        { nx := fun _ H' => Q .non H', rt := Q } [some (.ref a), some (.int ((s : Nat) : Int)), some (.int ((n : Nat) : Int))] H := by
      intro hb
      obtain ⟨ks, ha, hks⟩ := hk
      have lk := kinds_len hks
      refine ⟨_, rfl, a, ks, rfl, .inl (SqL.of ha), rfl, _, rfl, ite2 (fun e => ?_) (fun e => ?_)⟩
      · have e1 : c.length = 4 := by
          have := of_decide_eq_true e
          injection this with this
          omega
        refine ⟨_, rfl, refuse (-5) ?_⟩
        show (if s < 1 ∨ 60 < s ∨ 6 < n then _ else if 4 ≤ c.length then _ else _) = _
        rw [if_neg hb, if_pos (by omega)]
      · have e1 : ¬ c.length = 4 := fun z => e (decide_eq_true (by rw [lk, z]; rfl))
        have g4 := g.len
        have es : Sj07.step c (.kind s n) = (c ++ [⟨s, n⟩], Sj07.ok ((c.length : Nat) : Int)) := by
          show (if s < 1 ∨ 60 < s ∨ 6 < n then _ else if 4 ≤ c.length then _ else _) = _
          rw [if_neg hb, if_neg (by omega)]
        -- kinds + [(size, many)]
        refine ⟨_, rfl, _, rfl, _, rfl, (by show 2 ≤ sizeLine; decide), fun t nt => ⟨(by show 1 ≤ sizeLine; decide), fun l nl => ?_⟩⟩
        have s1 := same_upd (o := .tup [.int ((s : Nat) : Int), .int ((n : Nat) : Int)]) nt
        have s2 := same_upd (o := .lst [.ref t]) nl
        refine ⟨a, l, ks, _, rfl, rfl, s2 _ _ (s1 _ _ ha), upd_same, ?_, fun a' na' => ?_⟩
        · refine Nat.le_of_lt (line_big ?_)
          show ks.length + 1 ≤ 30000
          omega
        have s3 := same_upd (o := .lst (ks ++ [.ref t])) na'
        refine ⟨_, rfl, a, ks, rfl, .inl (SqL.of (s3 _ _ (s2 _ _ (s1 _ _ ha)))), (by show 1 ≤ sizeLine; decide), fun r nr => ⟨(by show 2 ≤ sizeLine; decide), fun p np => ?_⟩⟩
        have s4 := same_upd (o := .lst [.int ((ks.length : Nat) : Int)]) nr
        have s5 := same_upd (o := .tup [.ref a', .ref r]) np
        have sA := (s1.trans s2).trans s3
        have sB := s4.trans s5
        refine q _ p (sA.trans sB) ((sA.trans s4).free np) ⟨a', r, upd_same, .inr ((s1.trans s2).free na'), sA.free nr, ?_, ?_⟩
        · rw [es]
          refine ⟨ks ++ [.ref t], sB _ _ upd_same, ?_⟩
          rw [List.map_append]
          exact paired_app (hks.same (sA.trans sB)) (paired_one ⟨t, rfl, sB _ _ (s3 _ _ (s2 _ _ upd_same))⟩)
        · unfold answerOf
          rw [es, ← lk]
          exact s5 _ _ upd_same
    have bad : (s < 1 ∨ 60 < s ∨ 6 < n) → Sj07.step c (.kind s n) = (c, Sj07.ok (-1)) := fun hb => if_pos hb
    -- not 1 <= size <= MOST_SIZE or many > MOST_MANY
    refine ⟨_, rfl, _, _, rfl, rfl, _, rfl, ite2 (fun e => ⟨_, _, rfl, rfl, _, rfl, ite2 (fun e2 => ?_) (fun e2 => ?_)⟩) (fun e => ⟨_, rfl, iteT ?_⟩)⟩
    · refine iteT ⟨_, rfl, refuse (-1) (bad ?_)⟩
      have := Bool.not_eq_true' _ ▸ e2
      have := of_decide_eq_false this
      omega
    · refine ⟨_, rfl, _, _, rfl, rfl, _, rfl, ite2 (fun e3 => ?_) (fun e3 => ?_)⟩
      · refine ⟨_, rfl, refuse (-1) (bad ?_)⟩
        have := of_decide_eq_true e3
        omega
      · refine go_on ?_
        have h1 : (1 : Int) ≤ ((s : Nat) : Int) := of_decide_eq_true e
        have h2 : ((s : Nat) : Int) ≤ 60 := by
          by_cases z : ((s : Nat) : Int) ≤ 60
          · exact z
          · exact absurd (by rw [decide_eq_false z]; rfl) e2
        have h3 : ¬ (6 : Int) < ((n : Nat) : Int) := fun z => e3 (decide_eq_true z)
        omega
    · refine ⟨_, rfl, refuse (-1) (bad ?_)⟩
      have : ¬ (1 : Int) ≤ ((s : Nat) : Int) := fun z => e (decide_eq_true z)
      omega
end
end Ck

namespace Ck
open PySem PySem.Spec PyProof.Rows L2
open Sj07 (Cellar Call)
section
variable {P : Program} {w : World} {K : PySem.W.Frag} {mg : Str → Option Value} {base : Heap}
/-- a new list of what is answered -/
abbrev Ans (H : Hp) (Q : VK) (ans : List Int) : Prop := ∀ H' p, Same H H' → H p = none → H' p = some (.lst (ans.map V.int)) → Q (.ref p) H'
/-- one number alone -/
theorem ans_one {H : Hp} {Q : VK} {z : Int} (q : Ans H Q [z]) : 1 ≤ sizeLine ∧ ∀ p, H p = none → Q (.ref p) (upd H p (.lst [.int z])) :=
  ⟨(by show 1 ≤ sizeLine; decide), fun p np => q _ p (same_upd np) np upd_same⟩
theorem Ans.from {H H1 : Hp} {Q : VK} {ans : List Int} (q : Ans H Q ans) (s : Same H H1) : Ans H1 Q ans := fun H' p s' np h => q H' p (s.trans s') (s.free np) h
/-! ### told_check -/
abbrev sCheck : Stmt := top 33
theorem scCheck : FnScope ["kinds", "order", "plan"] ["kinds", "order", "plan"] (defScope sCheck) := ⟨rfl, rfl, rfl, by decide +kernel, rfl, by decide +kernel, by decide +kernel⟩
def spCheck : Sp := fun vs H Q _ => ∃ (a b : Addr) (c : Cellar) (v : Nat) (l : List Nat), vs = [.ref a, .int ((v : Nat) : Int), .ref b] ∧ KindsAt H a c ∧ Good c ∧ H b = some (.lst (natsV l)) ∧ l.length ≤ 6 ∧ Ans H Q (answerOf c (.check v l))
theorem ok_check {f f1 f2 f3 f4 f5 : Addr} {fd fd1 fd2 fd3 fd4 fd5 : FuncData} (F : Fun K "told_check" "told_check" sCheck f fd) (C : Consts mg) (h1 : Has P w K mg base 1 "is_order" ["number"] spOrder f1 fd1) (h2 : Has P w K mg base 1 "is_plan" ["kinds", "numbers"] spIs f2 fd2)
    (h3 : Has P w K mg base 2 "fills" ["kinds", "plan", "order"] spFills f3 fd3) (h4 : Has P w K mg base 1 "held" ["kinds", "plan"] spHeld f4 fd4) (h5 : Has P w K mg base 2 "room" ["kinds", "plan", "order"] spRoom f5 fd5) (mSum : mg "sum" = none) :
    FnOk P w K mg base CX0 3 f fd ["kinds", "order", "plan"] spCheck := by
  obtain ⟨t0, c0⟩ := C.bad
  obtain ⟨t1, c1⟩ := C.notF
  refine F.ok scCheck (fun vs H Q E h => ?_) (fun cdv A outer s H vs Q E hr h => ?_)
  · obtain ⟨a, b, c, v, l, rfl, _⟩ := h
    rfl
  · obtain ⟨a, b, c, v, l, rfl, hk, g, hb, few, q⟩ := h
    refine ⟨_, pss_cons (ps_if (PW.pt (pw_or (pt_not (pt_val (pe_call h1.ok (hr.mono (by decide)) (by rfl) h1.gl h1.kp h1.bd .nil pass0 (pa_cons (pv 1) pa_nil))))
          (pw_or1 (pt_not (pt_val (pe_call h2.ok (hr.mono (by decide)) (by rfl) h2.gl h2.kp h2.bd .nil pass0 (pa_cons (pv 0) (pa_cons (pv 2) pa_nil))))))))
        (pss_one (ps_ret (pe_lst (pa_cons (pe_glob rfl c0 (v := .int (-1)) ⟨_, rfl⟩) pa_nil)))) pss_nil)
      (pss_cons (ps_if (pt_not (pt_val (pe_call h3.ok hr (by rfl) h3.gl h3.kp h3.bd .nil pass0 (pa_cons (pv 0) (pa_cons (pv 2) (pa_cons (pv 1) pa_nil))))))
        (pss_one (ps_ret (pe_lst (pa_cons (pe_glob rfl c1 (v := .int (-6)) ⟨_, rfl⟩) (pa_cons (pe_op op_sub (pv 1) (pe_call h4.ok (hr.mono (by decide)) (by rfl) h4.gl h4.kp h4.bd .nil pass0 (pa_cons (pv 0) (pa_cons (pv 2) pa_nil)))) pa_nil))))) pss_nil)
      (pss_one (ps_ret (pe_lst (pa_cons (pe_call h5.ok hr (by rfl) h5.gl h5.kp h5.bd .nil pass0 (pa_cons (pv 0) (pa_cons (pv 2) (pa_cons (pv 1) pa_nil)))) (pa_cons (pe_callB (cr_sum rfl) (by rfl) mSum (by decide +kernel) (pa_cons (pv 2) pa_nil)) pa_nil)))))), ?_⟩
    refine ⟨_, rfl, v, rfl, _, rfl, ?_⟩
    by_cases hv : v < 1 ∨ 1500 < v
    · rw [decide_eq_false (fun z => z hv)]
      refine iteT (iteT (ans_one ?_))
      rw [due_check_bad (by omega)] at q
      exact q
    · rw [decide_eq_true hv]
      refine iteF ⟨_, rfl, _, rfl, a, b, c, l, rfl, hk, g, hb, fun H1 s1 => ⟨_, rfl, ?_⟩⟩
      have q1 := q.from s1
      have hk1 := hk.same s1
      have hb1 := s1 _ _ hb
      cases hc : Sj07.can c l with
      | false =>
        refine iteT (ans_one ?_)
        rw [due_check_bad (.inr (.inr hc))] at q1
        exact q1
      | true =>
        have len := can_len hc
        have nb : ¬ (v < 1 ∨ 1500 < v ∨ Sj07.can c l = false) := by
          rw [hc]
          simp
          omega
        refine iteF ⟨_, rfl, _, rfl, _, rfl, a, b, c, l, v, rfl, hk1, g, len, .inr hb1, fun H2 s2 => ⟨_, rfl, ?_⟩⟩
        have q2 := q1.from s2
        have hk2 := hk1.same s2
        have hb2 := s2 _ _ hb1
        by_cases hf : Sj07.holds c l < v
        · rw [decide_eq_false (by omega)]
          refine iteT ⟨_, rfl, _, rfl, _, rfl, a, b, c, l, rfl, hk2, g, len, .inr hb2, fun H3 s3 => ⟨_, _, rfl, rfl, (by show 2 ≤ sizeLine; decide), fun p np => ?_⟩⟩
          have q3 := q2.from s3
          rw [due_check_short nb hf] at q3
          have e : ((v : Nat) : Int) - ((Sj07.holds c l : Nat) : Int) = ((v - Sj07.holds c l : Nat) : Int) := by omega
          refine q3 _ p (same_upd np) np ?_
          rw [upd_same]
          show some (HO.lst [V.int (-6), V.int (((v : Nat) : Int) - ((Sj07.holds c l : Nat) : Int))]) = _
          rw [e]
          rfl
        · rw [decide_eq_true (by omega)]
          refine iteF ⟨_, rfl, _, rfl, _, rfl, a, b, c, l, v, rfl, hk2, g, len, .inr hb2, by omega, fun H3 s3 => ?_⟩
          have q3 := q2.from s3
          rw [due_check_good nb hf] at q3
          refine ⟨_, rfl, b, ints' l, rfl, SqL.of ?_, (by show 2 ≤ sizeLine; decide), fun p np => ?_⟩
          · rw [natsV_ints]
            exact s3 _ _ hb2
          · refine q3 _ p (same_upd np) np ?_
            rw [upd_same, sum_ints]
            rfl
/-! ### told_full, told_fewest -/
abbrev sFull : Stmt := top 34
abbrev sFew : Stmt := top 35
theorem scFull : FnScope ["kinds", "order", "rows"] ["kinds", "order"] (defScope sFull) := ⟨rfl, rfl, rfl, by decide +kernel, rfl, by decide +kernel, by decide +kernel⟩
theorem scFew : FnScope ["kinds", "order", "rows"] ["kinds", "order"] (defScope sFew) := ⟨rfl, rfl, rfl, by decide +kernel, rfl, by decide +kernel, by decide +kernel⟩
def spAsk (q : Nat → Call) : Sp := fun vs H Q _ => ∃ (a : Addr) (c : Cellar) (v : Nat), vs = [.ref a, .int ((v : Nat) : Int)] ∧ KindsAt H a c ∧ Good c ∧ Ans H Q (answerOf c (q v))
theorem rows_small {f g : List Nat → Nat} {c : Cellar} (gc : Good c) {v : Nat} : ∀ r ∈ rowsOf f g (filled c v), r.2.2.length ≤ 4 := fun r hr => by
  obtain ⟨l, hl, rfl⟩ := List.mem_map.mp hr
  have := (filled_mem hl).1
  have := gc.len
  show l.length ≤ 4
  omega
theorem ok_full {f f1 f2 f3 : Addr} {fd fd1 fd2 fd3 : FuncData} (F : Fun K "told_full" "told_full" sFull f fd) (C : Consts mg) (h1 : Has P w K mg base 1 "is_order" ["number"] spOrder f1 fd1) (h2 : Has P w K mg base 4 "rows_by_room" ["kinds", "order"] (spRows roomRows) f2 fd2)
    (h3 : Has P w K mg base 2 "told_of" ["rows"] spTold f3 fd3) : FnOk P w K mg base CX0 5 f fd ["kinds", "order"] (spAsk .full) := by
  obtain ⟨t0, c0⟩ := C.bad
  obtain ⟨t1, c1⟩ := C.notF
  refine F.ok scFull (fun vs H Q E h => ?_) (fun cdv A outer s H vs Q E hr h => ?_)
  · obtain ⟨a, c, v, rfl, _⟩ := h
    rfl
  · obtain ⟨a, c, v, rfl, hk, g, q⟩ := h
    refine ⟨_, pss_cons (ps_if (pt_not (pt_val (pe_call h1.ok (hr.mono (by decide)) (by rfl) h1.gl h1.kp h1.bd .nil pass0 (pa_cons (pv 1) pa_nil))))
        (pss_one (ps_ret (pe_lst (pa_cons (pe_glob rfl c0 (v := .int (-1)) ⟨_, rfl⟩) pa_nil)))) pss_nil)
      (pss_cons (ps_set (i := 2) scFull.nd rfl (.inl rfl) (pe_call h2.ok hr (by rfl) h2.gl h2.kp h2.bd .nil pass0 (pa_cons (pv 0) (pa_cons (pv 1) pa_nil))))
      (pss_cons (ps_if (pt_cmpR (op_eqD hr.units) (pv 2) (pe_lst pa_nil) (nomark _)) (pss_one (ps_ret (pe_lst (pa_cons (pe_glob rfl c1 (v := .int (-6)) ⟨_, rfl⟩) pa_nil)))) pss_nil)
      (pss_one (ps_ret (pe_call h3.ok (hr.mono (by decide)) (by rfl) h3.gl h3.kp h3.bd .nil pass0 (pa_cons (pv 2) pa_nil)))))), ?_⟩
    refine ⟨_, rfl, v, rfl, _, rfl, ?_⟩
    by_cases hv : v < 1 ∨ 1500 < v
    · rw [decide_eq_false (fun z => z hv)]
      refine iteT (ans_one ?_)
      rw [(due_best_bad hv).1] at q
      exact q
    · rw [decide_eq_true hv]
      rw [due_full hv] at q
      refine iteF ⟨_, rfl, _, rfl, a, c, v, rfl, hk, g, fun H1 p us s1 np hp hrs => ?_⟩
      have q1 := q.from s1
      refine ⟨_, rfl, Nat.zero_le _, fun e ne => ?_⟩
      have s2 := same_upd (o := .lst []) ne
      have q2 := q1.from s2
      refine ⟨_, _, Dp.lst (SqL.of (s2 _ _ hp)) (dp_rows (hrs.same s2)), Dp.lst (SqL.of upd_same) .nil, shaped_rows _, rfl, _, rfl, ?_⟩
      rw [eqv_none]
      cases er : roomRows c v with
      | nil =>
        refine iteT (ans_one ?_)
        have e : Sj07.full c v = none := best_none er
        rw [e] at q2
        exact q2
      | cons r rs =>
        refine iteF ⟨_, rfl, p, us, roomRows c v, rfl, s2 _ _ hp, hrs.same s2, ?_, ?_, rows_small g, fun H3 r' m s3 nr lm hr3 => ?_⟩
        · rw [er]
          exact fun z => nomatch z
        · exact Nat.le_trans (Nat.le_of_eq (rowsOf_len _ _ _)) (filled_few g v)
        · have eb : natsV (toldRows (leastOf m (roomRows c v))) = ((Sj07.toldBest (Sj07.full c v)).v :: (Sj07.toldBest (Sj07.full c v)).l).map V.int := best_told lm
          rw [eb] at hr3
          exact q2 H3 r' s3 nr hr3
theorem ok_few {f f1 f2 f3 : Addr} {fd fd1 fd2 fd3 : FuncData} (F : Fun K "told_fewest" "told_fewest" sFew f fd) (C : Consts mg) (h1 : Has P w K mg base 1 "is_order" ["number"] spOrder f1 fd1) (h2 : Has P w K mg base 4 "rows_by_casks" ["kinds", "order"] (spRows casksRows) f2 fd2)
    (h3 : Has P w K mg base 2 "told_of" ["rows"] spTold f3 fd3) : FnOk P w K mg base CX0 5 f fd ["kinds", "order"] (spAsk .fewest) := by
  obtain ⟨t0, c0⟩ := C.bad
  obtain ⟨t1, c1⟩ := C.notF
  refine F.ok scFew (fun vs H Q E h => ?_) (fun cdv A outer s H vs Q E hr h => ?_)
  · obtain ⟨a, c, v, rfl, _⟩ := h
    rfl
  · obtain ⟨a, c, v, rfl, hk, g, q⟩ := h
    refine ⟨_, pss_cons (ps_if (pt_not (pt_val (pe_call h1.ok (hr.mono (by decide)) (by rfl) h1.gl h1.kp h1.bd .nil pass0 (pa_cons (pv 1) pa_nil))))
        (pss_one (ps_ret (pe_lst (pa_cons (pe_glob rfl c0 (v := .int (-1)) ⟨_, rfl⟩) pa_nil)))) pss_nil)
      (pss_cons (ps_set (i := 2) scFew.nd rfl (.inl rfl) (pe_call h2.ok hr (by rfl) h2.gl h2.kp h2.bd .nil pass0 (pa_cons (pv 0) (pa_cons (pv 1) pa_nil))))
      (pss_cons (ps_if (pt_cmpR (op_eqD hr.units) (pv 2) (pe_lst pa_nil) (nomark _)) (pss_one (ps_ret (pe_lst (pa_cons (pe_glob rfl c1 (v := .int (-6)) ⟨_, rfl⟩) pa_nil)))) pss_nil)
      (pss_one (ps_ret (pe_call h3.ok (hr.mono (by decide)) (by rfl) h3.gl h3.kp h3.bd .nil pass0 (pa_cons (pv 2) pa_nil)))))), ?_⟩
    refine ⟨_, rfl, v, rfl, _, rfl, ?_⟩
    by_cases hv : v < 1 ∨ 1500 < v
    · rw [decide_eq_false (fun z => z hv)]
      refine iteT (ans_one ?_)
      rw [(due_best_bad hv).2] at q
      exact q
    · rw [decide_eq_true hv]
      rw [due_fewest hv] at q
      refine iteF ⟨_, rfl, _, rfl, a, c, v, rfl, hk, g, fun H1 p us s1 np hp hrs => ?_⟩
      have q1 := q.from s1
      refine ⟨_, rfl, Nat.zero_le _, fun e ne => ?_⟩
      have s2 := same_upd (o := .lst []) ne
      have q2 := q1.from s2
      refine ⟨_, _, Dp.lst (SqL.of (s2 _ _ hp)) (dp_rows (hrs.same s2)), Dp.lst (SqL.of upd_same) .nil, shaped_rows _, rfl, _, rfl, ?_⟩
      rw [eqv_none]
      cases er : casksRows c v with
      | nil =>
        refine iteT (ans_one ?_)
        have e : Sj07.fewest c v = none := best_none er
        rw [e] at q2
        exact q2
      | cons r rs =>
        refine iteF ⟨_, rfl, p, us, casksRows c v, rfl, s2 _ _ hp, hrs.same s2, ?_, ?_, rows_small g, fun H3 r' m s3 nr lm hr3 => ?_⟩
        · rw [er]
          exact fun z => nomatch z
        · exact Nat.le_trans (Nat.le_of_eq (rowsOf_len _ _ _)) (filled_few g v)
        · have eb : natsV (toldRows (leastOf m (casksRows c v))) = ((Sj07.toldBest (Sj07.fewest c v)).v :: (Sj07.toldBest (Sj07.fewest c v)).l).map V.int := best_told lm
          rw [eb] at hr3
          exact q2 H3 r' s3 nr hr3
/-! ### told_never -/
abbrev sTNever : Stmt := top 36
theorem scTNever : FnScope ["kinds", "most", "some"] ["kinds", "most"] (defScope sTNever) := ⟨rfl, rfl, rfl, by decide +kernel, rfl, by decide +kernel, by decide +kernel⟩
theorem ok_tnever {f f1 f2 : Addr} {fd fd1 fd2 : FuncData} (F : Fun K "told_never" "told_never" sTNever f fd) (C : Consts mg) (h1 : Has P w K mg base 1 "is_order" ["number"] spOrder f1 fd1) (h2 : Has P w K mg base 2 "never_held" ["kinds", "most"] spNever f2 fd2) (mLen : mg "len" = none) :
    FnOk P w K mg base CX0 3 f fd ["kinds", "most"] (spAsk .never) := by
  obtain ⟨t0, c0⟩ := C.bad
  refine F.ok scTNever (fun vs H Q E h => ?_) (fun cdv A outer s H vs Q E hr h => ?_)
  · obtain ⟨a, c, v, rfl, _⟩ := h
    rfl
  · obtain ⟨a, c, v, rfl, hk, g, q⟩ := h
    refine ⟨_, pss_cons (ps_if (pt_not (pt_val (pe_call h1.ok (hr.mono (by decide)) (by rfl) h1.gl h1.kp h1.bd .nil pass0 (pa_cons (pv 1) pa_nil))))
        (pss_one (ps_ret (pe_lst (pa_cons (pe_glob rfl c0 (v := .int (-1)) ⟨_, rfl⟩) pa_nil)))) pss_nil)
      (pss_cons (ps_set (i := 2) scTNever.nd rfl (.inl rfl) (pe_call h2.ok hr (by rfl) h2.gl h2.kp h2.bd .nil pass0 (pa_cons (pv 0) (pa_cons (pv 1) pa_nil))))
      (pss_one (ps_ret (pe_lst (pa_cons (pe_callB call_len_seq (by rfl) mLen PySem.boot_len (pa_cons (pv 2) pa_nil)) (pa_cons (pe_ix ix_list (pe_op op_cat (pe_lst (pa_cons pe_int pa_nil)) (pv 2)) (pe_un un_neg pe_int) (fun _ _ => rfl)) pa_nil)))))), ?_⟩
    refine ⟨_, rfl, v, rfl, _, rfl, ?_⟩
    by_cases hv : v < 1 ∨ 1500 < v
    · rw [decide_eq_false (fun z => z hv)]
      refine iteT (ans_one ?_)
      rw [due_never_bad hv] at q
      exact q
    · rw [decide_eq_true hv]
      rw [due_never hv] at q
      refine iteF ⟨_, rfl, _, rfl, a, c, v, rfl, hk, g, by omega, fun H1 p s1 np hp => ?_⟩
      have q1 := q.from s1
      refine ⟨_, rfl, p, _, rfl, .inl (SqL.of hp), (by show 1 ≤ sizeLine; decide), fun z nz => ⟨_, rfl, z, p, _, _, rfl, rfl, upd_same, same_upd nz _ _ hp, ?_, fun u nu => ?_⟩⟩
      · rw [natsV_len, never_eq]
        have := never_len c v
        refine Nat.le_of_lt (line_big ?_)
        show 1 + (neverBelow c v).length ≤ 30000
        omega
      · have s2 := same_upd (o := .lst [.int 0]) nz
        have s3 := same_upd (o := .lst ([.int 0] ++ natsV (Sj07.never c v))) nu
        obtain ⟨ini, e⟩ := last_split (Sj07.never c v)
        have e2 : ([V.int 0] ++ natsV (Sj07.never c v)) = natsV ini ++ [.int (((Sj07.never c v).getLastD 0 : Nat) : Int)] := by
          have e3 : natsV (0 :: Sj07.never c v) = natsV (ini ++ [(Sj07.never c v).getLastD 0]) := congrArg natsV e
          rw [natsV_app] at e3
          exact e3
        refine ⟨1, rfl, u, [.int 0] ++ natsV (Sj07.never c v), -1, .int (((Sj07.never c v).getLastD 0 : Nat) : Int), rfl, rfl, SqL.of upd_same, ?_, (by show 2 ≤ sizeLine; decide), fun r nr => ?_⟩
        · rw [e2]
          exact atI_last _ _
        · have s4 := same_upd (o := .lst [.int (((natsV (Sj07.never c v)).length : Nat) : Int), .int (((Sj07.never c v).getLastD 0 : Nat) : Int)]) nr
          refine q1 _ r ((s2.trans s3).trans s4) ((s2.trans s3).free nr) ?_
          rw [upd_same, natsV_len]
          rfl
/-! ### told_plain -/
abbrev sTPlain : Stmt := top 37
theorem scTPlain : FnScope ["kinds", "order", "left", "taken"] ["kinds", "order"] (defScope sTPlain) := ⟨rfl, rfl, rfl, by decide +kernel, rfl, by decide +kernel, by decide +kernel⟩
theorem ok_tplain {f f1 f2 : Addr} {fd fd1 fd2 : FuncData} (F : Fun K "told_plain" "told_plain" sTPlain f fd) (C : Consts mg) (h1 : Has P w K mg base 1 "is_order" ["number"] spOrder f1 fd1) (h2 : Has P w K mg base 2 "largest_first" ["kinds", "order"] spLarg f2 fd2) (mSum : mg "sum" = none) :
    FnOk P w K mg base CX0 3 f fd ["kinds", "order"] (spAsk .plain) := by
  obtain ⟨t0, c0⟩ := C.bad
  refine F.ok scTPlain (fun vs H Q E h => ?_) (fun cdv A outer s H vs Q E hr h => ?_)
  · obtain ⟨a, c, v, rfl, _⟩ := h
    rfl
  · obtain ⟨a, c, v, rfl, hk, g, q⟩ := h
    refine ⟨_, pss_cons (ps_if (pt_not (pt_val (pe_call h1.ok (hr.mono (by decide)) (by rfl) h1.gl h1.kp h1.bd .nil pass0 (pa_cons (pv 1) pa_nil))))
        (pss_one (ps_ret (pe_lst (pa_cons (pe_glob rfl c0 (v := .int (-1)) ⟨_, rfl⟩) pa_nil)))) pss_nil)
      (pss_cons (ps_asg (pe_call h2.ok hr (by rfl) h2.gl h2.kp h2.bd .nil pass0 (pa_cons (pv 0) (pa_cons (pv 1) pa_nil))) (pg_tup rfl (pgs_cons (pg_name (i := 2) scTPlain.nd rfl (Or.inl rfl)) (pgs_cons (pg_name (i := 3) scTPlain.nd rfl (Or.inl rfl)) pgs_nil))))
      (pss_one (ps_ret (pe_op op_cat (pe_lst (pa_cons (pv 2) (pa_cons (pe_callB (cr_sum rfl) (by rfl) mSum (by decide +kernel) (pa_cons (pv 3) pa_nil)) pa_nil))) (pv 3))))), ?_⟩
    refine ⟨_, rfl, v, rfl, _, rfl, ?_⟩
    by_cases hv : v < 1 ∨ 1500 < v
    · rw [decide_eq_false (fun z => z hv)]
      refine iteT (ans_one ?_)
      rw [due_plain_bad hv] at q
      exact q
    · rw [decide_eq_true hv]
      rw [due_plain hv] at q
      refine iteF ⟨_, rfl, _, rfl, a, c, v, rfl, hk, g, fun H1 p t s1 np nt hp ht => ?_⟩
      have q1 := q.from s1
      refine ⟨p, _, rfl, SqT.of hp, rfl, _, _, rfl, _, _, rfl, rfl, ?_⟩
      refine ⟨_, rfl, _, rfl, t, ints' (Sj07.plain c v).1, rfl, SqL.of ?_, (by show 2 ≤ sizeLine; decide), fun l nl => ⟨_, rfl, l, t, _, _, rfl, rfl, upd_same, same_upd nl _ _ ht, ?_, fun r nr => ?_⟩⟩
      · rw [natsV_ints]
        exact ht
      · rw [natsV_len, plain_len g]
        have := g.len
        refine Nat.le_of_lt (line_big ?_)
        show 2 + c.length ≤ 30000
        omega
      · have s2 := same_upd (o := .lst [.int (((Sj07.plain c v).2 : Nat) : Int), .int (ints' (Sj07.plain c v).1).sum]) nl
        have s3 := same_upd (o := .lst ([.int (((Sj07.plain c v).2 : Nat) : Int), .int (ints' (Sj07.plain c v).1).sum] ++ natsV (Sj07.plain c v).1)) nr
        refine q1 _ r (s2.trans s3) (s2.free nr) ?_
        rw [upd_same, sum_ints, ← natsV_ints]
        rfl
end
end Ck

namespace Ck
open PySem PySem.Spec PyProof.Rows L2
open Sj07 (Cellar Call)
theorem cut_tail (x : V) (xs : List V) : cutV (x :: xs) (some 1) none = xs := by
  unfold cutV
  rw [show HT.sIx (x :: xs).length 0 (some 1) = min 1 (x :: xs).length from HT.sIx_nat _ 0 1, HT.sIx_none]
  rw [show min 1 (x :: xs).length = 1 by rw [List.length_cons]; omega, List.length_cons, Nat.add_sub_cancel]
  exact List.take_length
/-- a run of a list, by its two ends -/
theorem cut_run {xs : List V} {i k : Nat} (h : i + k ≤ xs.length) : cutV xs (some ((i : Nat) : Int)) (some (((i : Nat) : Int) + ((k : Nat) : Int))) = (xs.drop i).take k := by
  unfold cutV
  have e : ((i : Nat) : Int) + ((k : Nat) : Int) = ((i + k : Nat) : Int) := by omega
  rw [e, HT.sIx_nat, HT.sIx_nat, Nat.min_eq_left h, Nat.min_eq_left (Nat.le_trans (Nat.le_add_right i k) h), Nat.add_sub_cancel_left]
section
variable {P : Program} {w : World} {K : PySem.W.Frag} {mg : Str → Option Value} {base : Heap}
/-! ### question -/
abbrev sQuest : Stmt := top 38
theorem scQuest : FnScope ["kinds", "call", "numbers"] ["kinds", "call", "numbers"] (defScope sQuest) := ⟨rfl, rfl, rfl, by decide +kernel, rfl, by decide +kernel, by decide +kernel⟩
def spQuest : Sp := fun vs H Q _ => ∃ (a b : Addr) (c : Cellar) (p : Nat) (l : List Nat) (q : Call), vs = [.ref a, .int ((p : Nat) : Int), .ref b] ∧ KindsAt H a c ∧ Good c ∧ Form p l q ∧ 2 ≤ p ∧ H b = some (.lst (natsV l)) ∧ Ans H Q (answerOf c q)
theorem ok_quest {f f1 f2 f3 f4 f5 : Addr} {fd fd1 fd2 fd3 fd4 fd5 : FuncData} (F : Fun K "question" "question" sQuest f fd) (C : Consts mg) (h1 : Has P w K mg base 3 "told_check" ["kinds", "order", "plan"] spCheck f1 fd1) (h2 : Has P w K mg base 5 "told_full" ["kinds", "order"] (spAsk .full) f2 fd2)
    (h3 : Has P w K mg base 5 "told_fewest" ["kinds", "order"] (spAsk .fewest) f3 fd3) (h4 : Has P w K mg base 3 "told_never" ["kinds", "most"] (spAsk .never) f4 fd4) (h5 : Has P w K mg base 3 "told_plain" ["kinds", "order"] (spAsk .plain) f5 fd5) :
    FnOk P w K mg base CX0 6 f fd ["kinds", "call", "numbers"] spQuest := by
  obtain ⟨t2, c2⟩ := C.check
  obtain ⟨t3, c3⟩ := C.full
  obtain ⟨t4, c4⟩ := C.fewest
  obtain ⟨t5, c5⟩ := C.never
  refine F.ok scQuest (fun vs H Q E h => ?_) (fun cdv A outer s H vs Q E hr h => ?_)
  · obtain ⟨a, b, c, p, l, q, rfl, _⟩ := h
    rfl
  · obtain ⟨a, b, c, p, l, cq, rfl, hk, g, fm, hp, hb, q⟩ := h
    refine ⟨_, pss_cons (ps_if (pt_cmpR op_eq (pv 1) (pe_glob rfl c2 (v := .int 2) ⟨_, rfl⟩) (nomark _)) (pss_one (ps_ret (pe_call h1.ok (hr.mono (by decide)) (by rfl) h1.gl h1.kp h1.bd .nil pass0 (pa_cons (pv 0) (pa_cons (pe_ix ix_list (pv 2) pe_int (fun _ _ => rfl)) (pa_cons (pe_slice sl_list (pv 2) (po_some pe_int) po_none) pa_nil)))))) pss_nil)
      (pss_cons (ps_if (pt_cmpR op_eq (pv 1) (pe_glob rfl c3 (v := .int 3) ⟨_, rfl⟩) (nomark _)) (pss_one (ps_ret (pe_call h2.ok hr (by rfl) h2.gl h2.kp h2.bd .nil pass0 (pa_cons (pv 0) (pa_cons (pe_ix ix_list (pv 2) pe_int (fun _ _ => rfl)) pa_nil))))) pss_nil)
      (pss_cons (ps_if (pt_cmpR op_eq (pv 1) (pe_glob rfl c4 (v := .int 4) ⟨_, rfl⟩) (nomark _)) (pss_one (ps_ret (pe_call h3.ok hr (by rfl) h3.gl h3.kp h3.bd .nil pass0 (pa_cons (pv 0) (pa_cons (pe_ix ix_list (pv 2) pe_int (fun _ _ => rfl)) pa_nil))))) pss_nil)
      (pss_cons (ps_if (pt_cmpR op_eq (pv 1) (pe_glob rfl c5 (v := .int 5) ⟨_, rfl⟩) (nomark _)) (pss_one (ps_ret (pe_call h4.ok (hr.mono (by decide)) (by rfl) h4.gl h4.kp h4.bd .nil pass0 (pa_cons (pv 0) (pa_cons (pe_ix ix_list (pv 2) pe_int (fun _ _ => rfl)) pa_nil))))) pss_nil)
      (pss_one (ps_ret (pe_call h5.ok (hr.mono (by decide)) (by rfl) h5.gl h5.kp h5.bd .nil pass0 (pa_cons (pv 0) (pa_cons (pe_ix ix_list (pv 2) pe_int (fun _ _ => rfl)) pa_nil)))))))), ?_⟩
    cases fm with
    | begins => omega
    | kind s n => omega
    | check v r h =>
      refine ⟨_, rfl, rfl, _, rfl, iteT ?_⟩
      refine ⟨_, rfl, _, rfl, b, _, 0, _, rfl, rfl, SqL.of hb, atI_nat (j := 0) rfl, _, rfl, 1, rfl, b, _, rfl, SqL.of hb, fun t nt => ?_⟩
      have s1 := same_upd (o := .lst (cutV (natsV (v :: r)) (some 1) none)) nt
      refine ⟨a, t, c, v, r, rfl, hk.same s1, g, ?_, h, q.from s1⟩
      rw [upd_same]
      exact congrArg (fun x => some (HO.lst x)) (cut_tail _ (natsV r))
    | full v =>
      refine ⟨_, rfl, rfl, _, rfl, iteF ⟨_, rfl, rfl, _, rfl, iteT ?_⟩⟩
      exact ⟨_, rfl, _, rfl, b, _, 0, _, rfl, rfl, SqL.of hb, atI_nat (j := 0) rfl, a, c, v, rfl, hk, g, q⟩
    | fewest v =>
      refine ⟨_, rfl, rfl, _, rfl, iteF ⟨_, rfl, rfl, _, rfl, iteF ⟨_, rfl, rfl, _, rfl, iteT ?_⟩⟩⟩
      exact ⟨_, rfl, _, rfl, b, _, 0, _, rfl, rfl, SqL.of hb, atI_nat (j := 0) rfl, a, c, v, rfl, hk, g, q⟩
    | never v =>
      refine ⟨_, rfl, rfl, _, rfl, iteF ⟨_, rfl, rfl, _, rfl, iteF ⟨_, rfl, rfl, _, rfl, iteF ⟨_, rfl, rfl, _, rfl, iteT ?_⟩⟩⟩⟩
      exact ⟨_, rfl, _, rfl, b, _, 0, _, rfl, rfl, SqL.of hb, atI_nat (j := 0) rfl, a, c, v, rfl, hk, g, q⟩
    | plain v =>
      refine ⟨_, rfl, rfl, _, rfl, iteF ⟨_, rfl, rfl, _, rfl, iteF ⟨_, rfl, rfl, _, rfl, iteF ⟨_, rfl, rfl, _, rfl, iteF ?_⟩⟩⟩⟩
      exact ⟨_, rfl, _, rfl, b, _, 0, _, rfl, rfl, SqL.of hb, atI_nat (j := 0) rfl, a, c, v, rfl, hk, g, q⟩
/-! ### done -/
abbrev sDone : Stmt := top 39
theorem scDone : FnScope ["kinds", "call", "numbers"] ["kinds", "call", "numbers"] (defScope sDone) := ⟨rfl, rfl, rfl, by decide +kernel, rfl, by decide +kernel, by decide +kernel⟩
def spDone : Sp := fun vs H Q _ => ∃ (a b : Addr) (c : Cellar) (p : Nat) (l : List Nat) (q : Call), vs = [.ref a, .int ((p : Nat) : Int), .ref b] ∧ KindsAt H a c ∧ Good c ∧ Form p l q ∧ H b = some (.lst (natsV l)) ∧
  ∀ H' t, Same H H' → H t = none → Told H H' a t (Sj07.step c q).1 (answerOf c q) → Q (.ref t) H'
theorem step_still {c : Cellar} {p : Nat} {l : List Nat} {q : Call} (fm : Form p l q) (h : 2 ≤ p) : (Sj07.step c q).1 = c := by
  cases fm with
  | begins => omega
  | kind s n => omega
  | check v r h =>
    show (if _ then (c, Sj07.ok (-1)) else (c, _)).1 = c
    split <;> rfl
  | full v =>
    show (if _ then (c, Sj07.ok (-1)) else (c, _)).1 = c
    split <;> rfl
  | fewest v =>
    show (if _ then (c, Sj07.ok (-1)) else (c, _)).1 = c
    split <;> rfl
  | never v =>
    show (if _ then (c, Sj07.ok (-1)) else (c, _)).1 = c
    split <;> rfl
  | plain v =>
    show (if _ then (c, Sj07.ok (-1)) else (c, _)).1 = c
    split <;> rfl
theorem ok_done {f f1 f2 : Addr} {fd fd1 fd2 : FuncData} (F : Fun K "done" "done" sDone f fd) (C : Consts mg) (h1 : Has P w K mg base 1 "told_kind" ["kinds", "size", "many"] spKind f1 fd1) (h2 : Has P w K mg base 6 "question" ["kinds", "call", "numbers"] spQuest f2 fd2) :
    FnOk P w K mg base CX0 7 f fd ["kinds", "call", "numbers"] spDone := by
  obtain ⟨t0, c0⟩ := C.begins
  obtain ⟨t1, c1⟩ := C.kind
  refine F.ok scDone (fun vs H Q E h => ?_) (fun cdv A outer s H vs Q E hr h => ?_)
  · obtain ⟨a, b, c, p, l, q, rfl, _⟩ := h
    rfl
  · obtain ⟨a, b, c, p, l, cq, rfl, hk, g, fm, hb, q⟩ := h
    refine ⟨_, pss_cons (ps_if (pt_cmpR op_eq (pv 1) (pe_glob rfl c0 (v := .int 0) ⟨_, rfl⟩) (nomark _)) (pss_one (ps_ret (pe_tup (pa_cons (pe_lst pa_nil) (pa_cons (pe_lst (pa_cons pe_int pa_nil)) pa_nil))))) pss_nil)
      (pss_cons (ps_if (pt_cmpR op_eq (pv 1) (pe_glob rfl c1 (v := .int 1) ⟨_, rfl⟩) (nomark _)) (pss_one (ps_ret (pe_call h1.ok (hr.mono (by decide)) (by rfl) h1.gl h1.kp h1.bd .nil pass0 (pa_cons (pv 0) (pa_cons (pe_ix ix_list (pv 2) pe_int (fun _ _ => rfl)) (pa_cons (pe_ix ix_list (pv 2) pe_int (fun _ _ => rfl)) pa_nil)))))) pss_nil)
      (pss_one (ps_ret (pe_tup (pa_cons (pv 0) (pa_cons (pe_call h2.ok hr (by rfl) h2.gl h2.kp h2.bd .nil pass0 (pa_cons (pv 0) (pa_cons (pv 1) (pa_cons (pv 2) pa_nil)))) pa_nil)))))), ?_⟩
    by_cases hp : 2 ≤ p
    · have e0 : decide (V.int ((p : Nat) : Int) = V.int 0) = false := decide_eq_false (fun z => by injection z with z; omega)
      have e1 : decide (V.int ((p : Nat) : Int) = V.int 1) = false := decide_eq_false (fun z => by injection z with z; omega)
      refine ⟨_, rfl, rfl, _, rfl, ?_⟩
      rw [e0]
      refine iteF ⟨_, rfl, rfl, _, rfl, ?_⟩
      rw [e1]
      refine iteF ⟨_, rfl, _, rfl, _, rfl, _, rfl, a, b, c, p, l, cq, rfl, hk, g, fm, hp, hb, fun H1 r s1 nr hr1 => ⟨(by show 2 ≤ sizeLine; decide), fun t nt => ?_⟩⟩
      have s2 := same_upd (o := .tup [.ref a, .ref r]) nt
      refine q _ t (s1.trans s2) (s1.free nt) ⟨a, r, upd_same, .inl rfl, nr, ?_, s2 _ _ hr1⟩
      rw [step_still fm hp]
      exact hk.same (s1.trans s2)
    · cases fm with
      | begins =>
        refine ⟨_, rfl, rfl, _, rfl, iteT ⟨Nat.zero_le _, fun a' na' => ⟨(by show 1 ≤ sizeLine; decide), fun r nr => ⟨(by show 2 ≤ sizeLine; decide), fun t nt => ?_⟩⟩⟩⟩
        have s1 := same_upd (o := .lst []) na'
        have s2 := same_upd (o := .lst [.int 0]) nr
        have s3 := same_upd (o := .tup [.ref a', .ref r]) nt
        exact q _ t ((s1.trans s2).trans s3) ((s1.trans s2).free nt) ⟨a', r, upd_same, .inr na', s1.free nr, ⟨[], s3 _ _ (s2 _ _ upd_same), .nil⟩, s3 _ _ upd_same⟩
      | kind s n =>
        refine ⟨_, rfl, rfl, _, rfl, iteF ⟨_, rfl, rfl, _, rfl, iteT ?_⟩⟩
        exact ⟨_, rfl, _, rfl, b, _, 0, _, rfl, rfl, SqL.of hb, atI_nat (j := 0) rfl, _, rfl, b, _, 1, _, rfl, rfl, SqL.of hb, atI_nat (j := 1) rfl, a, c, s, n, rfl, hk, g, fun H' t s1 nt ht => q H' t s1 nt ht⟩
      | check v r h => omega
      | full v => omega
      | fewest v => omega
      | never v => omega
      | plain v => omega
/-! ### answers -/
abbrev sAns : Stmt := top 40
theorem scAns : FnScope ["calls", "kinds", "found", "at", "many", "told"] ["calls"] (defScope sAns) := ⟨rfl, rfl, rfl, by decide +kernel, rfl, by decide +kernel, by decide +kernel⟩
def spAns (K : PySem.W.Frag) : Sp := fun vs H Q _ => ∃ (a : Addr) (ns : List Int), vs = [.ref a] ∧ SqL K H a (ns.map V.int) ∧ ns.length ≤ 3000 ∧ PySj07.answers_asked ns = true ∧ ∀ (H' : Hp) (p : Addr), H' p = some (.lst ((PySj07.answers ns).map V.int)) → Q (.ref p) H'
/-- what holds ahead of a call: where it stands, the cellar, what is told so far, what is still due -/
structure Here (ns : List Int) (H H2 : Hp) (fo : Addr) (a : Addr) (at' m : Nat) (σ : L2.St) (ka : Addr) (v4 v5 : Option V) (fnd : List Int) (c : Cellar) (f : Nat) (cs : List (List (List Int))) : Prop where
  slots : σ = [some (.ref a), some (.ref ka), some (.ref fo), some (.int ((at' : Nat) : Int)), v4, v5]
  measure : m = ns.length - at'
  le : at' ≤ ns.length
  same : Same H H2
  new : H fo = none
  ne : ka ≠ fo
  kinds : KindsAt H2 ka c
  good : Good c
  told : H2 fo = some (.lst (fnd.map V.int))
  few : fnd.length ≤ 8 * at'
  calls : PyWide.calls f (ns.drop at') = some cs
  asked : ∀ c ∈ cs, Sj07Neutral.asked1 c = true
  due : fnd ++ due c cs = PySj07.answers ns
theorem drop_more {α : Type} {l r : List α} {i : Nat} {x : α} (h : l.drop i = x :: r) : l[i]? = some x ∧ l.drop (i + 1) = r := by
  have e : (l.drop i)[0]? = some x := by rw [h]; rfl
  rw [List.getElem?_drop, Nat.add_zero] at e
  refine ⟨e, ?_⟩
  have e2 : (l.drop i).drop 1 = r := by rw [h]; rfl
  rw [List.drop_drop] at e2
  exact e2
theorem ok_ans {f f1 : Addr} {fd fd1 : FuncData} (F : Fun K "answers" "answers" sAns f fd) (h1 : Has P w K mg base 7 "done" ["kinds", "call", "numbers"] spDone f1 fd1) (mLen : mg "len" = none) : FnOk P w K mg base CX0 8 f fd ["calls"] (spAns K) := by
  refine F.ok scAns (fun vs H Q E h => ?_) (fun cdv A outer s H vs Q E hr h => ?_)
  · obtain ⟨a, ns, rfl, _⟩ := h
    rfl
  · obtain ⟨a, ns, rfl, hS, hlen, hask, q⟩ := h
    refine ⟨_, pss_cons (ps_set (i := 1) scAns.nd rfl (.inl rfl) (pe_lst pa_nil))
      (pss_cons (ps_set (i := 2) scAns.nd rfl (.inl rfl) (pe_lst pa_nil))
      (pss_cons (ps_set (i := 3) scAns.nd rfl (.inl rfl) pe_int)
      (pss_cons (ps_while PassesOwn.never (pt_cmpR op_lt (pv 3) (pe_callB call_len_seq (by rfl) mLen PySem.boot_len (pa_cons (pv 0) pa_nil)) (nomark _))
        (pss_cons (ps_set (i := 4) scAns.nd rfl (.inl rfl) (pe_ix ix_list (pv 0) (pe_op op_add (pv 3) pe_int) (fun _ _ => rfl)))
        (pss_cons (ps_asg (pe_call h1.ok hr (by rfl) h1.gl h1.kp h1.bd .nil pass0 (pa_cons (pv 1) (pa_cons (pe_ix ix_list (pv 0) (pv 3) (fun _ _ => rfl)) (pa_cons (pe_slice sl_list (pv 0) (po_some (pe_op op_add (pv 3) pe_int)) (po_some (pe_op op_add (pe_op op_add (pv 3) pe_int) (pv 4)))) pa_nil))))
          (pg_tup rfl (pgs_cons (pg_name (i := 1) scAns.nd rfl (Or.inl rfl)) (pgs_cons (pg_name (i := 5) scAns.nd rfl (Or.inl rfl)) pgs_nil))))
        (pss_cons (ps_expr (pe_bm PySem.F.plainAttrs_list PySem.F.slot_list_append PySem.F.type_list_append mt_append (pv 2) (pa_cons (pe_callB call_len_seq (by rfl) mLen PySem.boot_len (pa_cons (pv 5) pa_nil)) pa_nil)))
        (pss_cons (ps_expr (pe_bm PySem.F.plainAttrs_list PySem.F.slot_list_extend PySem.F.type_list_extend mt_extend (pv 2) (pa_cons (pv 5) pa_nil)))
        (pss_one (ps_set (i := 3) scAns.nd rfl (.inl rfl) (pe_op op_add (pe_op op_add (pv 3) pe_int) (pv 4)))))))))
      (pss_one (ps_ret (pv 2)))))), ?_⟩
    obtain ⟨cs0, e1, e2, e3⟩ := asked_calls hask
    refine ⟨Nat.zero_le _, fun k0 nk0 => ⟨Nat.zero_le _, fun fo nfo => ?_⟩⟩
    have s1 := same_upd (o := .lst []) nk0
    have s2 := same_upd (o := .lst []) nfo
    -- while at < len(calls)
    refine ⟨fun m σ H2 => ∃ at' ka v4 v5 fnd c f cs, Here ns H H2 fo a at' m σ ka v4 v5 fnd c f cs, ⟨ns.length - 0, 0, k0, none, none, [], [], ns.length, cs0, ?_⟩, ?_⟩
    · exact ⟨rfl, rfl, Nat.zero_le _, s1.trans s2, s1.free nfo, ne_of_none upd_same nfo, ⟨[], s2 _ _ upd_same, .nil⟩, Good.nil, upd_same, Nat.zero_le _, e1, e2, e3.symm⟩
    · rintro m σ H2 ⟨at', ka, v4, v5, fnd, c, f, cs, ⟨rfl, rfl, le, s3, nfoH, kne, hk, g, hfo, few, hc, hcs, hdue⟩⟩
      have hS2 := s3.seq hS
      refine ⟨_, rfl, _, rfl, a, ns.map V.int, rfl, .inl hS2, _, _, rfl, rfl, _, rfl, ite2 (fun e => ?_) (fun e => ?_)⟩
      · have hlt : at' < ns.length := by
          have := of_decide_eq_true e
          rw [List.length_map] at this
          omega
        have hne : ns.drop at' ≠ [] := fun z => by
          have := congrArg List.length z
          rw [List.length_drop] at this
          have : ns.length - at' = 0 := this
          omega
        obtain ⟨p, l, cq, f', t, cs', er, hc', hcs', fm, hbnd, hd⟩ := calls_turn hc hcs hne
        obtain ⟨g0, d1⟩ := drop_more er
        obtain ⟨g1, d2⟩ := drop_more d1
        have d3 : ns.drop (at' + 3 + l.length) = t := by
          have e1 : (ns.drop (at' + 1 + 1)).drop (l.length + 1) = t := by
            rw [d2, ← List.drop_drop]
            have : (ints' l ++ 0 :: t).drop l.length = 0 :: t := by
              have hl : (ints' l).length = l.length := List.length_map _
              rw [← hl, List.drop_left]
            rw [this]
            rfl
          rw [List.drop_drop] at e1
          rw [show at' + 3 + l.length = at' + 1 + 1 + (l.length + 1) by omega]
          exact e1
        have hle : at' + 3 + l.length ≤ ns.length := by
          have z := congrArg List.length d2
          rw [List.length_drop, List.length_append, List.length_cons] at z
          have hl : (ints' l).length = l.length := List.length_map _
          rw [hl] at z
          omega
        have gv0 : atI (ns.map V.int) ((at' : Nat) : Int) = some (.int ((p : Nat) : Int)) := atI_nat (by rw [List.getElem?_map, g0]; rfl)
        have gv1 : atI (ns.map V.int) (((at' : Nat) : Int) + 1) = some (.int ((l.length : Nat) : Int)) := by
          rw [show ((at' : Nat) : Int) + 1 = ((at' + 1 : Nat) : Int) by omega]
          exact atI_nat (by rw [List.getElem?_map, g1]; rfl)
        have cut : cutV (ns.map V.int) (some (((at' : Nat) : Int) + 2)) (some (((at' : Nat) : Int) + 2 + ((l.length : Nat) : Int))) = natsV l := by
          rw [show ((at' : Nat) : Int) + 2 = ((at' + 2 : Nat) : Int) by omega, cut_run (by rw [List.length_map]; omega), ← List.map_drop, d2, List.map_append, natsV_ints]
          rw [← natsV_len l, List.take_left]
        refine ⟨fun σ' H' => ∃ at2 ka v4 v5 fnd c f cs, at' < at2 ∧ Here ns H H' fo a at2 (ns.length - at2) σ' ka v4 v5 fnd c f cs, ?_, ?_⟩
        · rintro σ' H' ⟨at2, ka, v4, v5, fnd, c, f, cs, hlt2, hh⟩
          have := hh.le
          exact ⟨ns.length - at2, by omega, at2, ka, v4, v5, fnd, c, f, cs, hh⟩
        · -- many = calls[at + 1]
          refine ⟨_, rfl, _, rfl, _, _, rfl, rfl, a, _, _, _, rfl, rfl, hS2, gv1, ?_⟩
          -- kinds, told = done(kinds, calls[at], calls[at + 2:at + 2 + many])
          refine ⟨_, rfl, _, rfl, _, rfl, a, _, _, _, rfl, rfl, hS2, gv0, _, rfl, _, rfl, _, _, rfl, rfl, _, rfl, _, rfl, _, _, rfl, rfl, _, rfl, _, _, rfl, rfl, _, rfl, a, _, rfl, hS2, fun b nb => ?_⟩
          have s4 := same_upd (o := .lst (natsV l)) nb
          have es : cutV (ns.map V.int) (some (((at' : Nat) : Int) + 2)) (some (((at' : Nat) : Int) + 2 + ((l.length : Nat) : Int))) = natsV l := cut
          refine ⟨ka, b, c, p, l, cq, rfl, ?_, g, fm, ?_, ?_⟩
          · show KindsAt (upd H2 b (.lst (cutV _ _ _))) ka c
            exact hk.same (same_upd nb)
          · rw [upd_same]
            exact congrArg (fun x => some (HO.lst x)) es
          · intro H3 tp s5 ntp ht
            have s45 : Same H2 H3 := (same_upd nb).trans s5
            obtain ⟨ka2, r, htp, hka2, nr, hk3, hr3⟩ := ht
            have hfo2 : upd H2 b (.lst (cutV (ns.map V.int) (some (((at' : Nat) : Int) + 2)) (some (((at' : Nat) : Int) + 2 + ((l.length : Nat) : Int))))) fo = some (.lst (fnd.map V.int)) := (same_upd nb) _ _ hfo
            have hfo3 := s45 _ _ hfo
            have kne2 : ka2 ≠ fo := by
              rcases hka2 with z | z
              · rw [z]
                exact kne
              · exact (ne_of_none hfo2 z).symm
            have rne : r ≠ fo := (ne_of_none hfo2 nr).symm
            have la := answer_len (q := cq) g
            have small : 8 * at' + 8 ≤ 30000 := by omega
            refine ⟨tp, _, rfl, SqT.of htp, rfl, _, _, rfl, _, _, rfl, rfl, ?_⟩
            -- found.append(len(told))
            refine ⟨_, rfl, .inl ⟨rfl, _, SqL.of hfo3⟩, _, rfl, r, _, rfl, .inl (SqL.of hr3), fo, _, _, rfl, rfl, hfo3, ?_, ?_⟩
            · rw [List.length_map]
              exact line_big (by omega)
            -- found.extend(told)
            refine ⟨_, rfl, .inl ⟨rfl, _, SqL.of upd_same⟩, _, rfl, fo, r, _, (answerOf c cq).map V.int, rfl, rfl, upd_same, ?_, ?_, ?_⟩
            · rw [upd_ne rne]
              exact hr3
            · rw [List.length_append, List.length_map, List.length_map, List.length_singleton]
              exact Nat.le_of_lt (line_big (by omega))
            -- at = at + 3 + many
            refine ⟨_, rfl, _, _, rfl, rfl, _, rfl, _, _, rfl, rfl, ?_⟩
            have b4 : But fo H3 (upd (upd H3 fo (.lst (fnd.map V.int ++ [.int ((((answerOf c cq).map V.int).length : Nat) : Int)]))) fo (.lst (fnd.map V.int ++ [.int ((((answerOf c cq).map V.int).length : Nat) : Int)] ++ (answerOf c cq).map V.int))) := But.upd.trans But.upd
            refine ⟨at' + 3 + l.length, ka2, some (.int ((l.length : Nat) : Int)), some (.ref r), fnd ++ (((answerOf c cq).length : Nat) : Int) :: answerOf c cq, (Sj07.step c cq).1, f', cs', by omega, ?_⟩
            refine ⟨?_, rfl, hle, But.same nfoH (s3.trans s45) b4, nfoH, kne2, ?_, step_good g, ?_, ?_, ?_, hcs', ?_⟩
            · show [some (V.ref a), some (V.ref ka2), some (V.ref fo), some (V.int (((at' : Nat) : Int) + 3 + ((l.length : Nat) : Int))), some (V.int ((l.length : Nat) : Int)), some (V.ref r)] = _
              rw [show ((at' : Nat) : Int) + 3 + ((l.length : Nat) : Int) = ((at' + 3 + l.length : Nat) : Int) by omega]
            · obtain ⟨ks, k1, k2⟩ := hk3
              exact ⟨ks, b4 _ _ kne2 k1, Tups.but hfo3 b4 k2⟩
            · rw [upd_same, List.length_map, List.map_append, List.append_assoc]
              rfl
            · rw [List.length_append, List.length_cons]
              omega
            · rw [d3]
              exact hc'
            · rw [List.append_assoc, List.cons_append, ← hd c]
              exact hdue
      · have hge : ns.length ≤ at' := by
          have : ¬ (((at' : Nat) : Int) < (((ns.map V.int).length : Nat) : Int)) := fun z => e (decide_eq_true z)
          rw [List.length_map] at this
          omega
        rw [List.drop_eq_nil_of_le hge] at hc
        obtain rfl := calls_nil hc
        rw [due_nil, List.append_nil] at hdue
        rw [hdue] at hfo
        exact ⟨_, rfl, q H2 fo hfo⟩
end
end Ck

/-! What the top has written, and the statement. Printed by gen_end.py. -/
namespace Ck
open PySem PySem.Spec PyProof.Rows L2
theorem all_mk {P : Program} {w : World} {K : PySem.W.Frag} {h : Heap} {mg : Str → Option Value} {fa : Addr} (X : K.In h) (G : h.Ns mainGlobals mg) (hfa : mg "answers" = some (.ref fa))
    {f1 f2 f3 f4 f5 f6 f7 f8 f9 f10 f11 f12 f13 f14 f15 f16 f17 f18 f19 f20 f21 f22 f23 f24 : Addr}
    {od1 an1 od2 an2 od3 an3 od4 an4 od5 an5 od6 an6 od7 an7 od8 an8 od9 an9 od10 an10 od11 an11 od12 an12 od13 an13 od14 an14 od15 an15 od16 an16 od17 an17 od18 an18 od19 an19 od20 an20 od21 an21 od22 an22 od23 an23 od24 an24 : Option Addr}
    {sl1 sl2 sl3 sl4 sl5 sl6 sl7 sl8 sl9 sl10 sl11 sl12 sl13 sl14 sl15 sl16 sl17 sl18 sl19 sl20 sl21 sl22 sl23 sl24 : Array (Option Value)}
    {oc1 kV1 dc1 pm1 cd1 ct1 oc2 kV2 dc2 pm2 cd2 ct2 oc3 kV3 dc3 pm3 cd3 ct3 oc4 kV4 dc4 pm4 cd4 ct4 oc5 kV5 dc5 pm5 cd5 ct5 oc6 kV6 dc6 pm6 cd6 ct6 oc7 kV7 dc7 pm7 cd7 ct7 oc8 kV8 dc8 pm8 cd8 ct8 oc9 kV9 dc9 pm9 cd9 ct9 oc10 kV10 dc10 pm10 cd10 ct10 oc11 kV11 dc11 pm11 cd11 ct11 oc12 kV12 dc12 pm12 cd12 ct12 oc13 kV13 dc13 pm13 cd13 ct13 oc14 kV14 dc14 pm14 cd14 ct14 oc15 kV15 dc15 pm15 cd15 ct15 oc16 kV16 dc16 pm16 cd16 ct16 oc17 kV17 dc17 pm17 cd17 ct17 oc18 kV18 dc18 pm18 cd18 ct18 oc19 kV19 dc19 pm19 cd19 ct19 oc20 kV20 dc20 pm20 cd20 ct20 oc21 kV21 dc21 pm21 cd21 ct21 oc22 kV22 dc22 pm22 cd22 ct22 oc23 kV23 dc23 pm23 cd23 ct23 oc24 kV24 dc24 pm24 cd24 ct24 : Value}
    {t1 t2 t3 t4 t5 t6 t7 t8 t9 t10 t11 t12 t13 : Tok}
    (a1 : PySem.W.nsIn K mainGlobals "all_plans" = some (some (.ref f1))) (l1 : K.lookup f1 = some ⟨oc1, od1, .func (PySem.W.fnOf "all_plans" "all_plans" (defArgs sAll) (defBody sAll) (defScope sAll) .none kV1 dc1 pm1 an1 cd1 ct1), sl1⟩) (c1 : PySem.W.codeIn K cd1 "all_plans" = true) (k1 : PySem.W.keepIn K (.ref f1) = true)
    (a2 : PySem.W.nsIn K mainGlobals "is_plan" = some (some (.ref f2))) (l2 : K.lookup f2 = some ⟨oc2, od2, .func (PySem.W.fnOf "is_plan" "is_plan" (defArgs sIs) (defBody sIs) (defScope sIs) .none kV2 dc2 pm2 an2 cd2 ct2), sl2⟩) (c2 : PySem.W.codeIn K cd2 "is_plan" = true) (k2 : PySem.W.keepIn K (.ref f2) = true)
    (a3 : PySem.W.nsIn K mainGlobals "held" = some (some (.ref f3))) (l3 : K.lookup f3 = some ⟨oc3, od3, .func (PySem.W.fnOf "held" "held" (defArgs sHeld) (defBody sHeld) (defScope sHeld) .none kV3 dc3 pm3 an3 cd3 ct3), sl3⟩) (c3 : PySem.W.codeIn K cd3 "held" = true) (k3 : PySem.W.keepIn K (.ref f3) = true)
    (a4 : PySem.W.nsIn K mainGlobals "casks" = some (some (.ref f4))) (l4 : K.lookup f4 = some ⟨oc4, od4, .func (PySem.W.fnOf "casks" "casks" (defArgs sCasks) (defBody sCasks) (defScope sCasks) .none kV4 dc4 pm4 an4 cd4 ct4), sl4⟩) (c4 : PySem.W.codeIn K cd4 "casks" = true) (k4 : PySem.W.keepIn K (.ref f4) = true)
    (a5 : PySem.W.nsIn K mainGlobals "fills" = some (some (.ref f5))) (l5 : K.lookup f5 = some ⟨oc5, od5, .func (PySem.W.fnOf "fills" "fills" (defArgs sFills) (defBody sFills) (defScope sFills) .none kV5 dc5 pm5 an5 cd5 ct5), sl5⟩) (c5 : PySem.W.codeIn K cd5 "fills" = true) (k5 : PySem.W.keepIn K (.ref f5) = true)
    (a6 : PySem.W.nsIn K mainGlobals "room" = some (some (.ref f6))) (l6 : K.lookup f6 = some ⟨oc6, od6, .func (PySem.W.fnOf "room" "room" (defArgs sRoom) (defBody sRoom) (defScope sRoom) .none kV6 dc6 pm6 an6 cd6 ct6), sl6⟩) (c6 : PySem.W.codeIn K cd6 "room" = true) (k6 : PySem.W.keepIn K (.ref f6) = true)
    (a7 : PySem.W.nsIn K mainGlobals "filling" = some (some (.ref f7))) (l7 : K.lookup f7 = some ⟨oc7, od7, .func (PySem.W.fnOf "filling" "filling" (defArgs sFilling) (defBody sFilling) (defScope sFilling) .none kV7 dc7 pm7 an7 cd7 ct7), sl7⟩) (c7 : PySem.W.codeIn K cd7 "filling" = true) (k7 : PySem.W.keepIn K (.ref f7) = true)
    (a8 : PySem.W.nsIn K mainGlobals "never_held" = some (some (.ref f8))) (l8 : K.lookup f8 = some ⟨oc8, od8, .func (PySem.W.fnOf "never_held" "never_held" (defArgs sNever) (defBody sNever) (defScope sNever) .none kV8 dc8 pm8 an8 cd8 ct8), sl8⟩) (c8 : PySem.W.codeIn K cd8 "never_held" = true) (k8 : PySem.W.keepIn K (.ref f8) = true)
    (a9 : PySem.W.nsIn K mainGlobals "by_size" = some (some (.ref f9))) (l9 : K.lookup f9 = some ⟨oc9, od9, .func (PySem.W.fnOf "by_size" "by_size" (defArgs sBy) (defBody sBy) (defScope sBy) .none kV9 dc9 pm9 an9 cd9 ct9), sl9⟩) (c9 : PySem.W.codeIn K cd9 "by_size" = true) (k9 : PySem.W.keepIn K (.ref f9) = true)
    (a10 : PySem.W.nsIn K mainGlobals "largest_first" = some (some (.ref f10))) (l10 : K.lookup f10 = some ⟨oc10, od10, .func (PySem.W.fnOf "largest_first" "largest_first" (defArgs sLarg) (defBody sLarg) (defScope sLarg) .none kV10 dc10 pm10 an10 cd10 ct10), sl10⟩) (c10 : PySem.W.codeIn K cd10 "largest_first" = true) (k10 : PySem.W.keepIn K (.ref f10) = true)
    (a11 : PySem.W.nsIn K mainGlobals "least_rows" = some (some (.ref f11))) (l11 : K.lookup f11 = some ⟨oc11, od11, .func (PySem.W.fnOf "least_rows" "least_rows" (defArgs sLeast) (defBody sLeast) (defScope sLeast) .none kV11 dc11 pm11 an11 cd11 ct11), sl11⟩) (c11 : PySem.W.codeIn K cd11 "least_rows" = true) (k11 : PySem.W.keepIn K (.ref f11) = true)
    (a12 : PySem.W.nsIn K mainGlobals "rows_by_room" = some (some (.ref f12))) (l12 : K.lookup f12 = some ⟨oc12, od12, .func (PySem.W.fnOf "rows_by_room" "rows_by_room" (defArgs sRR) (defBody sRR) (defScope sRR) .none kV12 dc12 pm12 an12 cd12 ct12), sl12⟩) (c12 : PySem.W.codeIn K cd12 "rows_by_room" = true) (k12 : PySem.W.keepIn K (.ref f12) = true)
    (a13 : PySem.W.nsIn K mainGlobals "rows_by_casks" = some (some (.ref f13))) (l13 : K.lookup f13 = some ⟨oc13, od13, .func (PySem.W.fnOf "rows_by_casks" "rows_by_casks" (defArgs sRC) (defBody sRC) (defScope sRC) .none kV13 dc13 pm13 an13 cd13 ct13), sl13⟩) (c13 : PySem.W.codeIn K cd13 "rows_by_casks" = true) (k13 : PySem.W.keepIn K (.ref f13) = true)
    (a14 : PySem.W.nsIn K mainGlobals "told_of" = some (some (.ref f14))) (l14 : K.lookup f14 = some ⟨oc14, od14, .func (PySem.W.fnOf "told_of" "told_of" (defArgs sTold) (defBody sTold) (defScope sTold) .none kV14 dc14 pm14 an14 cd14 ct14), sl14⟩) (c14 : PySem.W.codeIn K cd14 "told_of" = true) (k14 : PySem.W.keepIn K (.ref f14) = true)
    (a15 : PySem.W.nsIn K mainGlobals "is_order" = some (some (.ref f15))) (l15 : K.lookup f15 = some ⟨oc15, od15, .func (PySem.W.fnOf "is_order" "is_order" (defArgs sOrder) (defBody sOrder) (defScope sOrder) .none kV15 dc15 pm15 an15 cd15 ct15), sl15⟩) (c15 : PySem.W.codeIn K cd15 "is_order" = true) (k15 : PySem.W.keepIn K (.ref f15) = true)
    (a16 : PySem.W.nsIn K mainGlobals "told_kind" = some (some (.ref f16))) (l16 : K.lookup f16 = some ⟨oc16, od16, .func (PySem.W.fnOf "told_kind" "told_kind" (defArgs sKind) (defBody sKind) (defScope sKind) .none kV16 dc16 pm16 an16 cd16 ct16), sl16⟩) (c16 : PySem.W.codeIn K cd16 "told_kind" = true) (k16 : PySem.W.keepIn K (.ref f16) = true)
    (a17 : PySem.W.nsIn K mainGlobals "told_check" = some (some (.ref f17))) (l17 : K.lookup f17 = some ⟨oc17, od17, .func (PySem.W.fnOf "told_check" "told_check" (defArgs sCheck) (defBody sCheck) (defScope sCheck) .none kV17 dc17 pm17 an17 cd17 ct17), sl17⟩) (c17 : PySem.W.codeIn K cd17 "told_check" = true) (k17 : PySem.W.keepIn K (.ref f17) = true)
    (a18 : PySem.W.nsIn K mainGlobals "told_full" = some (some (.ref f18))) (l18 : K.lookup f18 = some ⟨oc18, od18, .func (PySem.W.fnOf "told_full" "told_full" (defArgs sFull) (defBody sFull) (defScope sFull) .none kV18 dc18 pm18 an18 cd18 ct18), sl18⟩) (c18 : PySem.W.codeIn K cd18 "told_full" = true) (k18 : PySem.W.keepIn K (.ref f18) = true)
    (a19 : PySem.W.nsIn K mainGlobals "told_fewest" = some (some (.ref f19))) (l19 : K.lookup f19 = some ⟨oc19, od19, .func (PySem.W.fnOf "told_fewest" "told_fewest" (defArgs sFew) (defBody sFew) (defScope sFew) .none kV19 dc19 pm19 an19 cd19 ct19), sl19⟩) (c19 : PySem.W.codeIn K cd19 "told_fewest" = true) (k19 : PySem.W.keepIn K (.ref f19) = true)
    (a20 : PySem.W.nsIn K mainGlobals "told_never" = some (some (.ref f20))) (l20 : K.lookup f20 = some ⟨oc20, od20, .func (PySem.W.fnOf "told_never" "told_never" (defArgs sTNever) (defBody sTNever) (defScope sTNever) .none kV20 dc20 pm20 an20 cd20 ct20), sl20⟩) (c20 : PySem.W.codeIn K cd20 "told_never" = true) (k20 : PySem.W.keepIn K (.ref f20) = true)
    (a21 : PySem.W.nsIn K mainGlobals "told_plain" = some (some (.ref f21))) (l21 : K.lookup f21 = some ⟨oc21, od21, .func (PySem.W.fnOf "told_plain" "told_plain" (defArgs sTPlain) (defBody sTPlain) (defScope sTPlain) .none kV21 dc21 pm21 an21 cd21 ct21), sl21⟩) (c21 : PySem.W.codeIn K cd21 "told_plain" = true) (k21 : PySem.W.keepIn K (.ref f21) = true)
    (a22 : PySem.W.nsIn K mainGlobals "question" = some (some (.ref f22))) (l22 : K.lookup f22 = some ⟨oc22, od22, .func (PySem.W.fnOf "question" "question" (defArgs sQuest) (defBody sQuest) (defScope sQuest) .none kV22 dc22 pm22 an22 cd22 ct22), sl22⟩) (c22 : PySem.W.codeIn K cd22 "question" = true) (k22 : PySem.W.keepIn K (.ref f22) = true)
    (a23 : PySem.W.nsIn K mainGlobals "done" = some (some (.ref f23))) (l23 : K.lookup f23 = some ⟨oc23, od23, .func (PySem.W.fnOf "done" "done" (defArgs sDone) (defBody sDone) (defScope sDone) .none kV23 dc23 pm23 an23 cd23 ct23), sl23⟩) (c23 : PySem.W.codeIn K cd23 "done" = true) (k23 : PySem.W.keepIn K (.ref f23) = true)
    (a24 : PySem.W.nsIn K mainGlobals "answers" = some (some (.ref f24))) (l24 : K.lookup f24 = some ⟨oc24, od24, .func (PySem.W.fnOf "answers" "answers" (defArgs sAns) (defBody sAns) (defScope sAns) .none kV24 dc24 pm24 an24 cd24 ct24), sl24⟩) (c24 : PySem.W.codeIn K cd24 "answers" = true) (k24 : PySem.W.keepIn K (.ref f24) = true)
    (q1 : PySem.W.nsIn K mainGlobals "BEGINS" = some (some (.int 0 t1)))
    (q2 : PySem.W.nsIn K mainGlobals "KIND" = some (some (.int 1 t2)))
    (q3 : PySem.W.nsIn K mainGlobals "CHECK" = some (some (.int 2 t3)))
    (q4 : PySem.W.nsIn K mainGlobals "FULL" = some (some (.int 3 t4)))
    (q5 : PySem.W.nsIn K mainGlobals "FEWEST" = some (some (.int 4 t5)))
    (q6 : PySem.W.nsIn K mainGlobals "NEVER" = some (some (.int 5 t6)))
    (q7 : PySem.W.nsIn K mainGlobals "BAD" = some (some (.int (-1) t7)))
    (q8 : PySem.W.nsIn K mainGlobals "FOUR_THERE" = some (some (.int (-5) t8)))
    (q9 : PySem.W.nsIn K mainGlobals "NOT_FILLED" = some (some (.int (-6) t9)))
    (q10 : PySem.W.nsIn K mainGlobals "MOST_SIZE" = some (some (.int 60 t10)))
    (q11 : PySem.W.nsIn K mainGlobals "MOST_MANY" = some (some (.int 6 t11)))
    (q12 : PySem.W.nsIn K mainGlobals "MOST_KINDS" = some (some (.int 4 t12)))
    (q13 : PySem.W.nsIn K mainGlobals "MOST_ORDER" = some (some (.int 1500 t13)))
    (z1 : PySem.W.nsIn K mainGlobals "sum" = some none)
    (z2 : PySem.W.nsIn K mainGlobals "zip" = some none)
    (z3 : PySem.W.nsIn K mainGlobals "len" = some none)
    (z4 : PySem.W.nsIn K mainGlobals "all" = some none)
    (z5 : PySem.W.nsIn K mainGlobals "range" = some none)
    (z6 : PySem.W.nsIn K mainGlobals "min" = some none)
    (z7 : PySem.W.nsIn K mainGlobals "sorted" = some none)
    (z8 : PySem.W.nsIn K mainGlobals "enumerate" = some none)
    (z9 : PySem.W.nsIn K mainGlobals "list" = some none)
    : ∃ fd : FuncData, (∀ (s : Shared) (us : List Value), us.length = (["calls"] : List Str).length → BindsTo s fd ⟨us, []⟩ ((["calls"] : List Str).zip us)) ∧ ∀ base : Heap, K.In base → base.Ns mainGlobals mg → FnOk P w K mg base CX0 8 fa fd ["calls"] (spAns K) := by
  have e := hfa.symm.trans (PySem.W.mg_of X G a24)
  cases e
  have F1 := fun_mk (st := sAll) l1 c1 k1
  have b1 := F1.binds (ps := ["kinds"]) fun _ _ _ _ _ _ us hl => match us, hl with | [_], _ => rfl
  have g1 := PySem.W.mg_of X G a1
  have F2 := fun_mk (st := sIs) l2 c2 k2
  have b2 := F2.binds (ps := ["kinds", "numbers"]) fun _ _ _ _ _ _ us hl => match us, hl with | [_, _], _ => rfl
  have g2 := PySem.W.mg_of X G a2
  have F3 := fun_mk (st := sHeld) l3 c3 k3
  have b3 := F3.binds (ps := ["kinds", "plan"]) fun _ _ _ _ _ _ us hl => match us, hl with | [_, _], _ => rfl
  have g3 := PySem.W.mg_of X G a3
  have F4 := fun_mk (st := sCasks) l4 c4 k4
  have b4 := F4.binds (ps := ["plan"]) fun _ _ _ _ _ _ us hl => match us, hl with | [_], _ => rfl
  have g4 := PySem.W.mg_of X G a4
  have F5 := fun_mk (st := sFills) l5 c5 k5
  have b5 := F5.binds (ps := ["kinds", "plan", "order"]) fun _ _ _ _ _ _ us hl => match us, hl with | [_, _, _], _ => rfl
  have g5 := PySem.W.mg_of X G a5
  have F6 := fun_mk (st := sRoom) l6 c6 k6
  have b6 := F6.binds (ps := ["kinds", "plan", "order"]) fun _ _ _ _ _ _ us hl => match us, hl with | [_, _, _], _ => rfl
  have g6 := PySem.W.mg_of X G a6
  have F7 := fun_mk (st := sFilling) l7 c7 k7
  have b7 := F7.binds (ps := ["kinds", "order"]) fun _ _ _ _ _ _ us hl => match us, hl with | [_, _], _ => rfl
  have g7 := PySem.W.mg_of X G a7
  have F8 := fun_mk (st := sNever) l8 c8 k8
  have b8 := F8.binds (ps := ["kinds", "most"]) fun _ _ _ _ _ _ us hl => match us, hl with | [_, _], _ => rfl
  have g8 := PySem.W.mg_of X G a8
  have F9 := fun_mk (st := sBy) l9 c9 k9
  have b9 := F9.binds (ps := ["kinds"]) fun _ _ _ _ _ _ us hl => match us, hl with | [_], _ => rfl
  have g9 := PySem.W.mg_of X G a9
  have F10 := fun_mk (st := sLarg) l10 c10 k10
  have b10 := F10.binds (ps := ["kinds", "order"]) fun _ _ _ _ _ _ us hl => match us, hl with | [_, _], _ => rfl
  have g10 := PySem.W.mg_of X G a10
  have F11 := fun_mk (st := sLeast) l11 c11 k11
  have b11 := F11.binds (ps := ["rows"]) fun _ _ _ _ _ _ us hl => match us, hl with | [_], _ => rfl
  have g11 := PySem.W.mg_of X G a11
  have F12 := fun_mk (st := sRR) l12 c12 k12
  have b12 := F12.binds (ps := ["kinds", "order"]) fun _ _ _ _ _ _ us hl => match us, hl with | [_, _], _ => rfl
  have g12 := PySem.W.mg_of X G a12
  have F13 := fun_mk (st := sRC) l13 c13 k13
  have b13 := F13.binds (ps := ["kinds", "order"]) fun _ _ _ _ _ _ us hl => match us, hl with | [_, _], _ => rfl
  have g13 := PySem.W.mg_of X G a13
  have F14 := fun_mk (st := sTold) l14 c14 k14
  have b14 := F14.binds (ps := ["rows"]) fun _ _ _ _ _ _ us hl => match us, hl with | [_], _ => rfl
  have g14 := PySem.W.mg_of X G a14
  have F15 := fun_mk (st := sOrder) l15 c15 k15
  have b15 := F15.binds (ps := ["number"]) fun _ _ _ _ _ _ us hl => match us, hl with | [_], _ => rfl
  have g15 := PySem.W.mg_of X G a15
  have F16 := fun_mk (st := sKind) l16 c16 k16
  have b16 := F16.binds (ps := ["kinds", "size", "many"]) fun _ _ _ _ _ _ us hl => match us, hl with | [_, _, _], _ => rfl
  have g16 := PySem.W.mg_of X G a16
  have F17 := fun_mk (st := sCheck) l17 c17 k17
  have b17 := F17.binds (ps := ["kinds", "order", "plan"]) fun _ _ _ _ _ _ us hl => match us, hl with | [_, _, _], _ => rfl
  have g17 := PySem.W.mg_of X G a17
  have F18 := fun_mk (st := sFull) l18 c18 k18
  have b18 := F18.binds (ps := ["kinds", "order"]) fun _ _ _ _ _ _ us hl => match us, hl with | [_, _], _ => rfl
  have g18 := PySem.W.mg_of X G a18
  have F19 := fun_mk (st := sFew) l19 c19 k19
  have b19 := F19.binds (ps := ["kinds", "order"]) fun _ _ _ _ _ _ us hl => match us, hl with | [_, _], _ => rfl
  have g19 := PySem.W.mg_of X G a19
  have F20 := fun_mk (st := sTNever) l20 c20 k20
  have b20 := F20.binds (ps := ["kinds", "most"]) fun _ _ _ _ _ _ us hl => match us, hl with | [_, _], _ => rfl
  have g20 := PySem.W.mg_of X G a20
  have F21 := fun_mk (st := sTPlain) l21 c21 k21
  have b21 := F21.binds (ps := ["kinds", "order"]) fun _ _ _ _ _ _ us hl => match us, hl with | [_, _], _ => rfl
  have g21 := PySem.W.mg_of X G a21
  have F22 := fun_mk (st := sQuest) l22 c22 k22
  have b22 := F22.binds (ps := ["kinds", "call", "numbers"]) fun _ _ _ _ _ _ us hl => match us, hl with | [_, _, _], _ => rfl
  have g22 := PySem.W.mg_of X G a22
  have F23 := fun_mk (st := sDone) l23 c23 k23
  have b23 := F23.binds (ps := ["kinds", "call", "numbers"]) fun _ _ _ _ _ _ us hl => match us, hl with | [_, _, _], _ => rfl
  have g23 := PySem.W.mg_of X G a23
  have F24 := fun_mk (st := sAns) l24 c24 k24
  have b24 := F24.binds (ps := ["calls"]) fun _ _ _ _ _ _ us hl => match us, hl with | [_], _ => rfl
  have g24 := PySem.W.mg_of X G a24
  have m_sum := PySem.W.mg_none_of X G z1
  have m_zip := PySem.W.mg_none_of X G z2
  have m_len := PySem.W.mg_none_of X G z3
  have m_all := PySem.W.mg_none_of X G z4
  have m_range := PySem.W.mg_none_of X G z5
  have m_min := PySem.W.mg_none_of X G z6
  have m_sorted := PySem.W.mg_none_of X G z7
  have m_enumerate := PySem.W.mg_none_of X G z8
  have m_list := PySem.W.mg_none_of X G z9
  have C : Consts mg := ⟨⟨_, PySem.W.mg_of X G q1⟩, ⟨_, PySem.W.mg_of X G q2⟩, ⟨_, PySem.W.mg_of X G q3⟩, ⟨_, PySem.W.mg_of X G q4⟩, ⟨_, PySem.W.mg_of X G q5⟩, ⟨_, PySem.W.mg_of X G q6⟩, ⟨_, PySem.W.mg_of X G q7⟩, ⟨_, PySem.W.mg_of X G q8⟩, ⟨_, PySem.W.mg_of X G q9⟩, ⟨_, PySem.W.mg_of X G q10⟩, ⟨_, PySem.W.mg_of X G q11⟩, ⟨_, PySem.W.mg_of X G q12⟩, ⟨_, PySem.W.mg_of X G q13⟩⟩
  have h15 : ∀ base : Heap, Has P w K mg base 1 "is_order" ["number"] spOrder f15 _ := fun base => ⟨ok_order F15 C, k15, b15, g15⟩
  have h2 : ∀ base : Heap, Has P w K mg base 1 "is_plan" ["kinds", "numbers"] spIs f2 _ := fun base => ⟨ok_is F2 m_len m_all m_zip, k2, b2, g2⟩
  have h3 : ∀ base : Heap, Has P w K mg base 1 "held" ["kinds", "plan"] spHeld f3 _ := fun base => ⟨ok_held F3 m_sum m_zip, k3, b3, g3⟩
  have h5 : ∀ base : Heap, Has P w K mg base 2 "fills" ["kinds", "plan", "order"] spFills f5 _ := fun base => ⟨ok_fills F5 F3 b3 g3 m_sum m_zip, k5, b5, g5⟩
  have h6 : ∀ base : Heap, Has P w K mg base 2 "room" ["kinds", "plan", "order"] spRoom f6 _ := fun base => ⟨ok_room F6 F3 b3 g3 m_sum m_zip, k6, b6, g6⟩
  have h12 : ∀ base : Heap, Has P w K mg base 4 "rows_by_room" ["kinds", "order"] (spRows roomRows) f12 _ := fun base => ⟨ok_rr F12 F1 F5 F3 F7 F6 F4 b1 b5 b3 b7 b6 b4 g1 g5 g3 g7 g6 g4 m_sum m_zip m_range, k12, b12, g12⟩
  have h13 : ∀ base : Heap, Has P w K mg base 4 "rows_by_casks" ["kinds", "order"] (spRows casksRows) f13 _ := fun base => ⟨ok_rc F13 F1 F5 F3 F7 F6 F4 b1 b5 b3 b7 b6 b4 g1 g5 g3 g7 g6 g4 m_sum m_zip m_range, k13, b13, g13⟩
  have h14 : ∀ base : Heap, Has P w K mg base 2 "told_of" ["rows"] spTold f14 _ := fun base => ⟨ok_told F14 F11 b11 g11 m_min m_len m_list, k14, b14, g14⟩
  have h8 : ∀ base : Heap, Has P w K mg base 2 "never_held" ["kinds", "most"] spNever f8 _ := fun base => ⟨ok_never F8 F1 F3 b1 b3 g1 g3 m_sum m_zip m_range, k8, b8, g8⟩
  have h10 : ∀ base : Heap, Has P w K mg base 2 "largest_first" ["kinds", "order"] spLarg f10 _ := fun base => ⟨ok_larg F10 F9 b9 g9 m_sorted m_enumerate m_len m_min, k10, b10, g10⟩
  have h16 : ∀ base : Heap, Has P w K mg base 1 "told_kind" ["kinds", "size", "many"] spKind f16 _ := fun base => ⟨ok_kind F16 C m_len, k16, b16, g16⟩
  have h17 : ∀ base : Heap, Has P w K mg base 3 "told_check" ["kinds", "order", "plan"] spCheck f17 _ := fun base => ⟨ok_check F17 C (h15 base) (h2 base) (h5 base) (h3 base) (h6 base) m_sum, k17, b17, g17⟩
  have h18 : ∀ base : Heap, Has P w K mg base 5 "told_full" ["kinds", "order"] (spAsk .full) f18 _ := fun base => ⟨ok_full F18 C (h15 base) (h12 base) (h14 base), k18, b18, g18⟩
  have h19 : ∀ base : Heap, Has P w K mg base 5 "told_fewest" ["kinds", "order"] (spAsk .fewest) f19 _ := fun base => ⟨ok_few F19 C (h15 base) (h13 base) (h14 base), k19, b19, g19⟩
  have h20 : ∀ base : Heap, Has P w K mg base 3 "told_never" ["kinds", "most"] (spAsk .never) f20 _ := fun base => ⟨ok_tnever F20 C (h15 base) (h8 base) m_len, k20, b20, g20⟩
  have h21 : ∀ base : Heap, Has P w K mg base 3 "told_plain" ["kinds", "order"] (spAsk .plain) f21 _ := fun base => ⟨ok_tplain F21 C (h15 base) (h10 base) m_sum, k21, b21, g21⟩
  have h22 : ∀ base : Heap, Has P w K mg base 6 "question" ["kinds", "call", "numbers"] spQuest f22 _ := fun base => ⟨ok_quest F22 C (h17 base) (h18 base) (h19 base) (h20 base) (h21 base), k22, b22, g22⟩
  have h23 : ∀ base : Heap, Has P w K mg base 7 "done" ["kinds", "call", "numbers"] spDone f23 _ := fun base => ⟨ok_done F23 C (h16 base) (h22 base), k23, b23, g23⟩
  exact ⟨PySem.W.fnOf "answers" "answers" (defArgs sAns) (defBody sAns) (defScope sAns) .none kV24 dc24 pm24 an24 cd24 ct24, fun s us hu => match us, hu with | [_], _ => .of_eq rfl, fun base _ _ => ok_ans F24 (h23 base) m_len⟩
end Ck
open PySem PySem.W PyProof.Rows
set_option maxRecDepth 100000 in
set_option maxHeartbeats 8000000 in
theorem PySem.Challenge.cw_caskorders_s01_answers_holds : PySem.Challenge.rw_caskorders_s01_answers.Holds := by
  w_on; k_headS; (case hw => exact ⟨[.list [.int 0, .int 0, .int 0]], by decide +kernel, by decide +kernel⟩)
  k_fillS
  refine L2.walk_specK (r := PySem.Challenge.rw_caskorders_s01_answers) (k := 8) (CX := L2.CX0) (ps := ["calls"]) (sp := Ck.spAns) (by decide +kernel) rfl rfl ⟨rfl, by decide, by decide⟩ (fun w h Y => PySem.W.kIn_of Y) ?F ?S (fun _ _ _ _ z => z)
  case F =>
    intro w mg fa h Y KX G hmg
    refine' Ck.all_mk KX G hmg ?a1 ?l1 ?c1 ?k1 ?a2 ?l2 ?c2 ?k2 ?a3 ?l3 ?c3 ?k3 ?a4 ?l4 ?c4 ?k4 ?a5 ?l5 ?c5 ?k5 ?a6 ?l6 ?c6 ?k6 ?a7 ?l7 ?c7 ?k7 ?a8 ?l8 ?c8 ?k8 ?a9 ?l9 ?c9 ?k9 ?a10 ?l10 ?c10 ?k10 ?a11 ?l11 ?c11 ?k11 ?a12 ?l12 ?c12 ?k12 ?a13 ?l13 ?c13 ?k13 ?a14 ?l14 ?c14 ?k14 ?a15 ?l15 ?c15 ?k15 ?a16 ?l16 ?c16 ?k16 ?a17 ?l17 ?c17 ?k17 ?a18 ?l18 ?c18 ?k18 ?a19 ?l19 ?c19 ?k19 ?a20 ?l20 ?c20 ?k20 ?a21 ?l21 ?c21 ?k21 ?a22 ?l22 ?c22 ?k22 ?a23 ?l23 ?c23 ?k23 ?a24 ?l24 ?c24 ?k24 ?q1 ?q2 ?q3 ?q4 ?q5 ?q6 ?q7 ?q8 ?q9 ?q10 ?q11 ?q12 ?q13 ?z1 ?z2 ?z3 ?z4 ?z5 ?z6 ?z7 ?z8 ?z9
    (case a1 => k_is); (case l1 => k_is); (case c1 => k_is); (case k1 => k_is)
    (case a2 => k_is); (case l2 => k_is); (case c2 => k_is); (case k2 => k_is)
    (case a3 => k_is); (case l3 => k_is); (case c3 => k_is); (case k3 => k_is)
    (case a4 => k_is); (case l4 => k_is); (case c4 => k_is); (case k4 => k_is)
    (case a5 => k_is); (case l5 => k_is); (case c5 => k_is); (case k5 => k_is)
    (case a6 => k_is); (case l6 => k_is); (case c6 => k_is); (case k6 => k_is)
    (case a7 => k_is); (case l7 => k_is); (case c7 => k_is); (case k7 => k_is)
    (case a8 => k_is); (case l8 => k_is); (case c8 => k_is); (case k8 => k_is)
    (case a9 => k_is); (case l9 => k_is); (case c9 => k_is); (case k9 => k_is)
    (case a10 => k_is); (case l10 => k_is); (case c10 => k_is); (case k10 => k_is)
    (case a11 => k_is); (case l11 => k_is); (case c11 => k_is); (case k11 => k_is)
    (case a12 => k_is); (case l12 => k_is); (case c12 => k_is); (case k12 => k_is)
    (case a13 => k_is); (case l13 => k_is); (case c13 => k_is); (case k13 => k_is)
    (case a14 => k_is); (case l14 => k_is); (case c14 => k_is); (case k14 => k_is)
    (case a15 => k_is); (case l15 => k_is); (case c15 => k_is); (case k15 => k_is)
    (case a16 => k_is); (case l16 => k_is); (case c16 => k_is); (case k16 => k_is)
    (case a17 => k_is); (case l17 => k_is); (case c17 => k_is); (case k17 => k_is)
    (case a18 => k_is); (case l18 => k_is); (case c18 => k_is); (case k18 => k_is)
    (case a19 => k_is); (case l19 => k_is); (case c19 => k_is); (case k19 => k_is)
    (case a20 => k_is); (case l20 => k_is); (case c20 => k_is); (case k20 => k_is)
    (case a21 => k_is); (case l21 => k_is); (case c21 => k_is); (case k21 => k_is)
    (case a22 => k_is); (case l22 => k_is); (case c22 => k_is); (case k22 => k_is)
    (case a23 => k_is); (case l23 => k_is); (case c23 => k_is); (case k23 => k_is)
    (case a24 => k_is); (case l24 => k_is); (case c24 => k_is); (case k24 => k_is)
    (case q1 => k_is); (case q2 => k_is); (case q3 => k_is); (case q4 => k_is); (case q5 => k_is); (case q6 => k_is); (case q7 => k_is); (case q8 => k_is); (case q9 => k_is); (case q10 => k_is); (case q11 => k_is); (case q12 => k_is); (case q13 => k_is)
    (case z1 => k_is); (case z2 => k_is); (case z3 => k_is); (case z4 => k_is); (case z5 => k_is); (case z6 => k_is); (case z7 => k_is); (case z8 => k_is); (case z9 => k_is)
  case S =>
    intro K H xs a hO hwi hask hx
    cases hx with
    | cons h1 h2 =>
      cases h2
      cases h1 with
      | lst hs ha =>
        have e := L2.ints_dw a.1 _ ha
        subst e
        have q : ((Codec.inLen 0 3000 a.1 && a.1.all (Codec.inInt 0 4294967295)) && true) = true := hwi
        rw [Bool.and_eq_true, Bool.and_eq_true] at q
        exact ⟨_, a.1, rfl, hs, (Codec.inNat_iff.mp q.1.1).2, hask, fun H' p hp => .lst (L2.SqL.of hp) (L2.dw_ints _)⟩
#print axioms PySem.Challenge.cw_caskorders_s01_answers_holds
