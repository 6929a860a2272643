import PyProof.Rows.All
import Wide.All
import OpenK.AllK
import Wide.FinOn
import PyProof.EqAt
import PyProof.EqKinds
import PyProof.TupleCall
import Open.SpecLaws
import KE.OsGo
import HandS.ForSpec
import HandS.Comp
import HandS.Iter
import HandS.ExcInit
import HandS.ExcField
import PyWideLaws
import PySem.Challenge.RW_hoistmoves_s01_answers
set_option Elab.async false
set_option linter.all false
set_option maxRecDepth 100000
set_option maxHeartbeats 8000000
/-! Plain mathematics over the specification: times, conflicts, growth of plans. -/
namespace Hm
open Kp396

/-! ### start times -/
theorem times_len (v : Line) (l : List Nat) : (startTimes v l).length = l.length + 1 := by
  simp [startTimes]
theorem times_get (v : Line) (l : List Nat) {k : Nat} (h : k ≤ l.length) : (startTimes v l)[k]? = some ((l.take k).sum + k * v.moveTime) := by
  simp [startTimes, List.getElem?_map, List.getElem?_range (show k < l.length + 1 by omega)]
theorem times_getD (v : Line) (l : List Nat) {k : Nat} (h : k ≤ l.length) : (startTimes v l).getD k 0 = (l.take k).sum + k * v.moveTime := by
  rw [List.getD_eq_getElem?_getD, times_get v l h]; rfl
theorem times_snoc (v : Line) (l : List Nat) (s : Nat) : startTimes v (l ++ [s]) = startTimes v l ++ [l.sum + s + (l.length + 1) * v.moveTime] := by
  unfold startTimes
  rw [List.length_append, List.length_singleton, List.range_succ, List.map_append]
  congr 1
  · apply List.map_congr_left
    intro k hk
    have hk' : k < l.length + 1 := List.mem_range.mp hk
    rw [List.take_append_of_le_length (by omega)]
  · simp [List.take_of_length_le, List.sum_append]
theorem times_last (v : Line) (l : List Nat) : (startTimes v l)[(startTimes v l).length - 1]? = some (l.sum + l.length * v.moveTime) := by
  rw [times_len, Nat.add_sub_cancel, times_get v l (Nat.le_refl _), List.take_length]
theorem times_snoc_getD (v : Line) (l : List Nat) (s : Nat) {k : Nat} (h : k ≤ l.length) : (startTimes v (l ++ [s])).getD k 0 = (startTimes v l).getD k 0 := by
  rw [times_getD v l h, times_getD v (l ++ [s]) (by rw [List.length_append, List.length_singleton]; omega), List.take_append_of_le_length h]

/-! ### movesFit is the program's two tests -/
theorem emptyMove_int (v : Line) (a b : Nat) : ((emptyMove v a b : Nat) : Int) = (v.emptyTime : Int) * (if (b : Int) - (a : Int) < 0 then -((b : Int) - (a : Int)) else (b : Int) - (a : Int)) := by
  unfold emptyMove
  by_cases h : a ≤ b
  · rw [if_pos h, if_neg (by omega), Int.natCast_mul, Int.mul_comm, Int.ofNat_sub h]
  · rw [if_neg h, if_pos (by omega), Int.natCast_mul, Int.mul_comm, Int.ofNat_sub (by omega)]
    congr 1
    omega
/-- the program's test: too early behind move k at time x for move j at time y -/
def early (v : Line) (p k x j y : Nat) : Bool := decide (((y : Int) - (x : Int)) % (p : Int) < ((v.moveTime + emptyMove v (k + 1) j : Nat) : Int))
theorem mod_eq (x y p : Nat) (hp : 0 < p) : (((y + (x / p + 1) * p - x) % p : Nat) : Int) = ((y : Int) - (x : Int)) % (p : Int) := by
  have h1 : x ≤ (x / p + 1) * p := by
    have := Nat.div_add_mod x p
    have h2 := Nat.mod_lt x hp
    rw [Nat.add_mul, Nat.one_mul, Nat.mul_comm]
    omega
  rw [Int.natCast_emod, Int.ofNat_sub (by omega), Int.natCast_add, Int.natCast_mul]
  have e : (y : Int) + ((x / p + 1 : Nat) : Int) * (p : Int) - (x : Int) = ((y : Int) - (x : Int)) + ((x / p + 1 : Nat) : Int) * (p : Int) := by omega
  rw [e, Int.add_mul_emod_self_right]
theorem fit_eq (v : Line) (p k x j y : Nat) (hp : 0 < p) (hm : 0 < v.moveTime) : movesFit v p k x j y = !(early v p k x j y || early v p j y k x) := by
  unfold movesFit early
  rw [← mod_eq x y p hp, ← mod_eq y x p hp]
  generalize (y + (x / p + 1) * p - x) % p = a
  generalize (x + (y / p + 1) * p - y) % p = b
  generalize emptyMove v (k + 1) j = c
  generalize emptyMove v (j + 1) k = d
  rw [Bool.eq_iff_iff]
  simp only [Bool.and_eq_true, decide_eq_true_eq, Bool.not_eq_true', Bool.or_eq_false_iff, decide_eq_false_iff_not]
  omega

/-! ### the pairs of moves -/
def prs (n : Nat) : List (Nat × Nat) := (List.range n).flatMap fun k => ((List.range n).filter fun j => decide (k < j)).map fun j => (k, j)
def bad (v : Line) (p : Nat) (l : List Nat) (x : Nat × Nat) : Bool := !movesFit v p x.1 ((startTimes v l).getD x.1 0) x.2 ((startTimes v l).getD x.2 0)
/-- the pairs that conflict -/
def confs (v : Line) (p : Nat) (l : List Nat) : List (Nat × Nat) := (prs (l.length + 1)).filter (bad v p l)
theorem first_head (v : Line) (p : Nat) (l : List Nat) : firstConflict v p l = (confs v p l).head? := by
  unfold firstConflict confs prs
  dsimp only
  rw [List.head?_filter, times_len]
  rfl
theorem filter_range (n k : Nat) : (List.range n).filter (fun j => decide (k < j)) = (List.range (n - (k + 1))).map fun i => k + 1 + i := by
  induction n with
  | zero => simp
  | succ n ih =>
    rw [List.range_succ, List.filter_append, ih]
    by_cases h : k < n
    · have e : n + 1 - (k + 1) = (n - (k + 1)) + 1 := by omega
      rw [e, List.range_succ, List.map_append]
      have e2 : k + 1 + (n - (k + 1)) = n := by omega
      simp [h, e2]
    · have e : n + 1 - (k + 1) = n - (k + 1) := by omega
      rw [e]
      simp [h]
/-- the inner loop behind m turns -/
def inner (v : Line) (p : Nat) (l : List Nat) (k m : Nat) : List (Nat × Nat) := ((List.range m).map fun i => (k, k + 1 + i)).filter (bad v p l)
/-- the outer loop behind i turns -/
def outer (v : Line) (p : Nat) (l : List Nat) (i : Nat) : List (Nat × Nat) := (List.range i).flatMap fun k => inner v p l k (l.length + 1 - (k + 1))
theorem inner_zero (v : Line) (p : Nat) (l : List Nat) (k : Nat) : inner v p l k 0 = [] := rfl
theorem inner_succ (v : Line) (p : Nat) (l : List Nat) (k m : Nat) : inner v p l k (m + 1) = inner v p l k m ++ (if bad v p l (k, k + 1 + m) then [(k, k + 1 + m)] else []) := by
  unfold inner
  rw [List.range_succ, List.map_append, List.filter_append]
  congr 1
  cases h : bad v p l (k, k + 1 + m) <;> simp [h]
theorem outer_zero (v : Line) (p : Nat) (l : List Nat) : outer v p l 0 = [] := rfl
theorem outer_succ (v : Line) (p : Nat) (l : List Nat) (i : Nat) : outer v p l (i + 1) = outer v p l i ++ inner v p l i (l.length + 1 - (i + 1)) := by
  unfold outer
  rw [List.range_succ, List.flatMap_append]
  simp
theorem confs_eq (v : Line) (p : Nat) (l : List Nat) : outer v p l (l.length + 1) = confs v p l := by
  unfold outer confs prs inner
  rw [List.filter_flatMap]
  congr 1
  funext k
  rw [filter_range, List.map_map]
  rfl
theorem inner_len (v : Line) (p : Nat) (l : List Nat) (k m : Nat) : (inner v p l k m).length ≤ m := by
  unfold inner
  exact Nat.le_trans (List.length_filter_le _ _) (by simp)
theorem outer_len (v : Line) (p : Nat) (l : List Nat) (i : Nat) : (outer v p l i).length ≤ i * (l.length + 1) := by
  induction i with
  | zero => simp [outer_zero]
  | succ i ih =>
    rw [outer_succ, List.length_append, Nat.add_mul, Nat.one_mul]
    have := inner_len v p l i (l.length + 1 - (i + 1))
    omega

/-! ### no conflict -/
theorem mem_prs {n : Nat} {x : Nat × Nat} : x ∈ prs n ↔ x.1 < x.2 ∧ x.2 < n := by
  obtain ⟨a, b⟩ := x
  unfold prs
  simp only [List.mem_flatMap, List.mem_range, List.mem_map, List.mem_filter, decide_eq_true_eq, Prod.mk.injEq]
  constructor
  · rintro ⟨k, hk, j, ⟨hj, hkj⟩, rfl, rfl⟩
    exact ⟨hkj, hj⟩
  · rintro ⟨h1, h2⟩
    exact ⟨a, by omega, b, ⟨h2, h1⟩, rfl, rfl⟩
/-- no two moves of a plan conflict -/
def clear (v : Line) (p : Nat) (l : List Nat) : Prop := ∀ k j, k < j → j ≤ l.length → bad v p l (k, j) = false
theorem clear_iff (v : Line) (p : Nat) (l : List Nat) : (firstConflict v p l).isNone = true ↔ clear v p l := by
  rw [first_head, Option.isNone_iff_eq_none, List.head?_eq_none_iff]
  unfold confs clear
  rw [List.filter_eq_nil_iff]
  constructor
  · intro h k j hk hj
    have := h (k, j) (mem_prs.mpr ⟨hk, by show j < l.length + 1; omega⟩)
    simpa using this
  · intro h x hx
    obtain ⟨h1, h2⟩ := mem_prs.mp hx
    have := h x.1 x.2 h1 (by omega)
    simp [this]
theorem bad_snoc (v : Line) (p : Nat) (l : List Nat) (s k j : Nat) (hk : k ≤ l.length) (hj : j ≤ l.length) : bad v p (l ++ [s]) (k, j) = bad v p l (k, j) := by
  unfold bad
  rw [times_snoc_getD v l s hk, times_snoc_getD v l s hj]
/-- the last move conflicts with none before it -/
def fits (v : Line) (p : Nat) (r : List Nat) : Bool := !(List.range r.length).any fun k => bad v p r (k, r.length)
theorem clear_snoc (v : Line) (p : Nat) (l : List Nat) (s : Nat) (h : clear v p l) : (firstConflict v p (l ++ [s])).isNone = fits v p (l ++ [s]) := by
  rw [Bool.eq_iff_iff, clear_iff]
  unfold fits clear
  rw [List.length_append, List.length_singleton, Bool.not_eq_true', List.any_eq_false]
  constructor
  · intro c k hk
    have := c k (l.length + 1) (List.mem_range.mp hk) (Nat.le_refl _)
    simp [this]
  · intro c k j hk hj
    by_cases e : j = l.length + 1
    · subst e
      have := c k (List.mem_range.mpr hk)
      simpa using this
    · rw [bad_snoc v p l s k j (by omega) (by omega)]
      exact h k j hk (by omega)

/-! ### plans grow -/
/-- a plan that may go on -/
def good (v : Line) (p : Nat) (l : List Nat) : Prop := l.all (fun x => decide (x < p)) = true ∧ clear v p l
theorem good_nil (v : Line) (p : Nat) : good v p [] := ⟨rfl, fun k j h1 h2 => by simp at h2; omega⟩
/-- the specification's step -/
def sext (v : Line) (p : Nat) (l : List Nat) : List (List Nat) :=
  let w := windowAt v l.length
  ((List.range (w.most - w.least + 1)).map fun i => l ++ [w.least + i]).filter fun r => r.all (fun x => decide (x < p)) && (firstConflict v p r).isNone
/-- the program's step behind i turns -/
def pext (v : Line) (p : Nat) (l : List Nat) (i : Nat) : List (List Nat) :=
  ((List.range i).map fun i => l ++ [(windowAt v l.length).least + i]).filter fun r => decide (r.getLastD 0 < p) && fits v p r
theorem pext_zero (v : Line) (p : Nat) (l : List Nat) : pext v p l 0 = [] := rfl
theorem pext_succ (v : Line) (p : Nat) (l : List Nat) (i : Nat) : pext v p l (i + 1) = pext v p l i ++
    (if (decide ((windowAt v l.length).least + i < p) && fits v p (l ++ [(windowAt v l.length).least + i])) = true then [l ++ [(windowAt v l.length).least + i]] else []) := by
  unfold pext
  rw [List.range_succ, List.map_append, List.filter_append]
  congr 1
  generalize (windowAt v l.length).least = a
  have e : (l ++ [a + i]).getLastD 0 = a + i := by simp [List.getLastD_eq_getLast?]
  simp only [List.map_cons, List.map_nil, List.filter_cons, List.filter_nil, e]
theorem pext_eq (v : Line) (p : Nat) (l : List Nat) (h : good v p l) : pext v p l ((windowAt v l.length).most - (windowAt v l.length).least + 1) = sext v p l := by
  unfold pext sext
  apply List.filter_congr
  intro r hr
  obtain ⟨i, _, rfl⟩ := List.mem_map.mp hr
  generalize (windowAt v l.length).least = a
  rw [clear_snoc v p l _ h.2, List.all_append, h.1]
  have e : (l ++ [a + i]).getLastD 0 = a + i := by simp [List.getLastD_eq_getLast?]
  rw [e]
  simp
theorem pext_len (v : Line) (p : Nat) (l : List Nat) (i : Nat) : (pext v p l i).length ≤ i := by
  unfold pext
  exact Nat.le_trans (List.length_filter_le _ _) (by simp)
theorem sext_good {v : Line} {p : Nat} {l r : List Nat} (h : r ∈ sext v p l) : good v p r ∧ r.length = l.length + 1 := by
  unfold sext at h
  obtain ⟨h1, h2⟩ := List.mem_filter.mp h
  obtain ⟨i, _, rfl⟩ := List.mem_map.mp h1
  rw [Bool.and_eq_true] at h2
  exact ⟨⟨h2.1, (clear_iff _ _ _).mp h2.2⟩, by simp⟩
theorem partial_succ (v : Line) (p k : Nat) : partialPlans v p (k + 1) = (partialPlans v p k).flatMap (sext v p) := rfl
theorem partial_good (v : Line) (p : Nat) : ∀ (k : Nat) (l : List Nat), l ∈ partialPlans v p k → good v p l ∧ l.length = k
  | 0, l, h => by
    have e : l = [] := by simpa [partialPlans] using h
    subst e
    exact ⟨good_nil v p, rfl⟩
  | k + 1, l, h => by
    rw [partial_succ] at h
    obtain ⟨a, ha, hl⟩ := List.mem_flatMap.mp h
    have h1 := partial_good v p k a ha
    have h2 := sext_good hl
    exact ⟨h2.1, by rw [h2.2, h1.2]⟩
/-- the plans that go on from one, d stays further -/
def grow (v : Line) (p : Nat) : Nat → List Nat → List (List Nat)
  | 0, l => [l]
  | d + 1, l => (sext v p l).flatMap (grow v p d)
theorem partial_grow (v : Line) (p : Nat) : ∀ (d k : Nat), partialPlans v p (k + d) = (partialPlans v p k).flatMap (grow v p d)
  | 0, k => by
    show partialPlans v p k = (partialPlans v p k).flatMap fun l => [l]
    simp
  | d + 1, k => by
    have e : k + (d + 1) = (k + 1) + d := by omega
    rw [e, partial_grow v p d (k + 1), partial_succ, List.flatMap_assoc]
    rfl
theorem plans_grow (v : Line) (p n : Nat) : partialPlans v p n = grow v p n [] := by
  have h := partial_grow v p n 0
  rw [Nat.zero_add] at h
  rw [h]
  show ([[]] : List (List Nat)).flatMap _ = _
  simp
/-- the first of them -/
def first (v : Line) (p d : Nat) (l : List Nat) : Option (List Nat) := (grow v p d l).head?
theorem first_zero (v : Line) (p : Nat) (l : List Nat) : first v p 0 l = some l := rfl
theorem first_succ (v : Line) (p d : Nat) (l : List Nat) : first v p (d + 1) l = (sext v p l).findSome? (first v p d) := by
  unfold first
  show ((sext v p l).flatMap (grow v p d)).head? = _
  rw [List.head?_flatMap]
theorem firstPlan_eq (v : Line) (p : Nat) : firstPlan v p = if singleMoveFits v p = true then first v p v.pits.length [] else none := by
  unfold firstPlan feasiblePlans first
  rw [plans_grow]
  by_cases h : singleMoveFits v p = true
  · rw [if_pos h, if_pos h]
  · rw [if_neg h, if_neg h]
    rfl
theorem grow_len {v : Line} {p : Nat} : ∀ (d : Nat) {l r : List Nat}, r ∈ grow v p d l → r.length = l.length + d
  | 0, l, r, h => by
    have e : r = l := by simpa [grow] using h
    subst e
    rfl
  | d + 1, l, r, h => by
    obtain ⟨a, ha, hr⟩ := List.mem_flatMap.mp (show r ∈ (sext v p l).flatMap (grow v p d) from h)
    have h1 := grow_len d hr
    have h2 := (sext_good ha).2
    omega
theorem sext_le {v : Line} {p : Nat} {l r : List Nat} (hw : ∀ w ∈ v.pits, w.most ≤ 30 ∧ w.least ≤ w.most) (hl : l.length < v.pits.length) (hx : ∀ x ∈ l, x ≤ 30) (h : r ∈ sext v p l) : ∀ x ∈ r, x ≤ 30 := by
  unfold sext at h
  obtain ⟨h1, _⟩ := List.mem_filter.mp h
  obtain ⟨i, hi, rfl⟩ := List.mem_map.mp h1
  have hi' := List.mem_range.mp hi
  have hm : windowAt v l.length ∈ v.pits := by
    unfold windowAt
    rw [List.getD_eq_getElem?_getD, List.getElem?_eq_getElem hl]
    exact List.getElem_mem hl
  have := hw _ hm
  intro x hx'
  rcases List.mem_append.mp hx' with q | q
  · exact hx x q
  · have e : x = (windowAt v l.length).least + i := by simpa using q
    omega
theorem grow_le {v : Line} {p : Nat} (hw : ∀ w ∈ v.pits, w.most ≤ 30 ∧ w.least ≤ w.most) : ∀ (d : Nat) {l r : List Nat}, l.length + d ≤ v.pits.length → (∀ x ∈ l, x ≤ 30) → r ∈ grow v p d l → ∀ x ∈ r, x ≤ 30
  | 0, l, r, _, hx, h => by
    have e : r = l := by simpa [grow] using h
    subst e
    exact hx
  | d + 1, l, r, hd, hx, h => by
    obtain ⟨a, ha, hr⟩ := List.mem_flatMap.mp (show r ∈ (sext v p l).flatMap (grow v p d) from h)
    have h2 := (sext_good ha).2
    exact grow_le hw d (by omega) (sext_le hw (by omega) hx ha) hr
theorem firstPlan_some {v : Line} {p : Nat} {l : List Nat} (h : firstPlan v p = some l) : l.length = v.pits.length ∧ ((∀ w ∈ v.pits, w.most ≤ 30 ∧ w.least ≤ w.most) → ∀ x ∈ l, x ≤ 30) := by
  rw [firstPlan_eq] at h
  by_cases c : singleMoveFits v p = true
  · rw [if_pos c] at h
    have hm : l ∈ grow v p v.pits.length [] := List.mem_of_mem_head? (by rw [show (grow v p v.pits.length []).head? = some l from h]; rfl)
    refine ⟨by have := grow_len _ hm; simpa using this, fun hw => grow_le hw _ (by simp) (by simp) hm⟩
  · rw [if_neg c] at h
    cases h

/-! ### how many -/
theorem flatMap_len {α β : Type} (f : α → List β) (b : Nat) : ∀ (l : List α), (∀ x ∈ l, (f x).length ≤ b) → (l.flatMap f).length ≤ l.length * b
  | [], _ => by simp
  | x :: l, h => by
    rw [List.flatMap_cons, List.length_append, List.length_cons, Nat.add_mul, Nat.one_mul]
    have h1 := h x (List.mem_cons_self ..)
    have h2 := flatMap_len f b l fun y hy => h y (List.mem_cons_of_mem _ hy)
    omega
theorem sext_len (v : Line) (p : Nat) (l : List Nat) : (sext v p l).length ≤ (windowAt v l.length).most - (windowAt v l.length).least + 1 := by
  unfold sext
  exact Nat.le_trans (List.length_filter_le _ _) (by simp)
theorem window_bound {v : Line} (hw : ∀ w ∈ v.pits, w.most ≤ w.least + 8) (i : Nat) : (windowAt v i).most - (windowAt v i).least + 1 ≤ 9 := by
  unfold windowAt
  rw [List.getD_eq_getElem?_getD]
  by_cases h : i < v.pits.length
  · rw [List.getElem?_eq_getElem h]
    have := hw _ (List.getElem_mem h)
    show (v.pits[i]).most - (v.pits[i]).least + 1 ≤ 9
    omega
  · rw [List.getElem?_eq_none (by omega)]
    decide
theorem partial_len {v : Line} (hw : ∀ w ∈ v.pits, w.most ≤ w.least + 8) (p : Nat) : ∀ k, (partialPlans v p k).length ≤ 9 ^ k
  | 0 => by simp [partialPlans]
  | k + 1 => by
    rw [partial_succ]
    refine Nat.le_trans (flatMap_len _ 9 _ fun l _ => Nat.le_trans (sext_len v p l) (window_bound hw _)) ?_
    rw [Nat.pow_succ]
    exact Nat.mul_le_mul_right 9 (partial_len hw p k)
end Hm

/-! Lines that the program keeps; what the operations answer, in the program's own words; the flat list of calls. -/
namespace Hm
open Kp396

/-! ### good lines -/
def GoodW (w : Window) : Prop := 1 ≤ w.least ∧ w.least ≤ w.most ∧ w.most ≤ 30 ∧ w.most ≤ w.least + 8
structure GoodL (v : Line) : Prop where
  m1 : 1 ≤ v.moveTime
  m9 : v.moveTime ≤ 9
  e4 : v.emptyTime ≤ 4
  n4 : v.pits.length ≤ 4
  ws : ∀ w ∈ v.pits, GoodW w
def GoodS : State → Prop
  | none => True
  | some v => GoodL v
theorem goodW_of {a b : Nat} (h : validWindow a b = true) : GoodW ⟨a, b⟩ := by
  unfold validWindow at h
  simp only [Bool.and_eq_true, decide_eq_true_eq] at h
  exact ⟨h.1.1.1, h.1.1.2, h.1.2, h.2⟩
theorem speed_of {m e : Nat} (h : validSpeed m e = true) : 1 ≤ m ∧ m ≤ 9 ∧ e ≤ 4 := by
  unfold validSpeed at h
  simp only [Bool.and_eq_true, decide_eq_true_eq] at h
  exact ⟨h.1.1, h.1.2, h.2⟩
theorem GoodL.win {v : Line} (g : GoodL v) {i : Nat} (h : i < v.pits.length) : GoodW (windowAt v i) := by
  unfold windowAt
  rw [List.getD_eq_getElem?_getD, List.getElem?_eq_getElem h]
  exact g.ws _ (List.getElem_mem h)
theorem GoodL.set {v : Line} (g : GoodL v) {i a b : Nat} (h : validWindow a b = true) : GoodL (withWindow v i a b) :=
  ⟨g.m1, g.m9, g.e4, by show (v.pits.set i ⟨a, b⟩).length ≤ 4; rw [List.length_set]; exact g.n4, fun w hw => by
    rcases List.mem_or_eq_of_mem_set hw with q | q
    · exact g.ws w q
    · rw [q]
      exact goodW_of h⟩
theorem GoodL.speed {v : Line} (g : GoodL v) {m e : Nat} (h : validSpeed m e = true) : GoodL { v with moveTime := m, emptyTime := e } := by
  have s := speed_of h
  exact ⟨s.1, s.2.1, s.2.2, g.n4, g.ws⟩
theorem GoodL.new {m e : Nat} (h : validSpeed m e = true) : GoodL (Line.mk [] m e) := by
  have s := speed_of h
  exact ⟨s.1, s.2.1, s.2.2, by simp, by simp⟩
theorem GoodL.add {v : Line} (g : GoodL v) {a b : Nat} (h : validWindow a b = true) (n : v.pits.length < 4) : GoodL { v with pits := v.pits ++ [⟨a, b⟩] } :=
  ⟨g.m1, g.m9, g.e4, by show (v.pits ++ [Window.mk a b]).length ≤ 4; rw [List.length_append]; exact n, fun w hw => by
    rcases List.mem_append.mp hw with q | q
    · exact g.ws w q
    · rw [List.mem_singleton.mp q]
      exact goodW_of h⟩
theorem GoodL.rem {v : Line} (g : GoodL v) (i : Nat) : GoodL { v with pits := v.pits.eraseIdx i } :=
  ⟨g.m1, g.m9, g.e4, Nat.le_trans (List.length_eraseIdx_le _ _) g.n4, fun w hw => g.ws w (List.mem_of_mem_eraseIdx hw)⟩
theorem GoodL.w30 {v : Line} (g : GoodL v) : ∀ w ∈ v.pits, w.most ≤ 30 ∧ w.least ≤ w.most := fun w hw => ⟨(g.ws w hw).2.2.1, (g.ws w hw).2.1⟩
theorem GoodL.w8 {v : Line} (g : GoodL v) : ∀ w ∈ v.pits, w.most ≤ w.least + 8 := fun w hw => (g.ws w hw).2.2.2
theorem step_good {s : State} (g : GoodS s) (x : Kp396.Call) : GoodS (step s x).1 := by
  cases x with
  | create m e =>
    show GoodS (if validSpeed m e = true then (some ⟨[], m, e⟩, single 0) else (s, single (-22))).1
    by_cases h : validSpeed m e = true
    · rw [if_pos h]; exact GoodL.new h
    · rw [if_neg h]; exact g
  | addPit a b =>
    cases s with
    | none => trivial
    | some v =>
      show GoodS (if validWindow a b = false then (some v, single (-22)) else if maxPits ≤ v.pits.length then (some v, single (-28)) else (some { v with pits := v.pits ++ [⟨a, b⟩] }, single (v.pits.length : Nat))).1
      by_cases h : validWindow a b = false
      · rw [if_pos h]; exact g
      · rw [if_neg h]
        by_cases h2 : maxPits ≤ v.pits.length
        · rw [if_pos h2]; exact g
        · rw [if_neg h2]
          exact GoodL.add g (by simpa using h) (by unfold maxPits at h2; omega)
  | removePit i =>
    cases s with
    | none => trivial
    | some v =>
      show GoodS (if isPit v i = true then (some { v with pits := v.pits.eraseIdx i }, single (v.pits.length - 1 : Nat)) else (some v, single (-2))).1
      by_cases h : isPit v i = true
      · rw [if_pos h]; exact GoodL.rem g i
      · rw [if_neg h]; exact g
  | setWindow i a b =>
    cases s with
    | none => trivial
    | some v =>
      show GoodS (if isPit v i = false then (some v, single (-2)) else if validWindow a b = true then (some (withWindow v i a b), natResult 0 [(windowAt v i).least, (windowAt v i).most]) else (some v, single (-22))).1
      by_cases h : isPit v i = false
      · rw [if_pos h]; exact g
      · rw [if_neg h]
        by_cases h2 : validWindow a b = true
        · rw [if_pos h2]; exact GoodL.set g h2
        · rw [if_neg h2]; exact g
  | setSpeed m e =>
    cases s with
    | none => trivial
    | some v =>
      show GoodS (if validSpeed m e = true then (some { v with moveTime := m, emptyTime := e }, natResult 0 [v.moveTime, v.emptyTime]) else (some v, single (-22))).1
      by_cases h : validSpeed m e = true
      · rw [if_pos h]; exact GoodL.speed g h
      · rw [if_neg h]; exact g
  | _ => cases s <;> first | trivial | exact g

/-! ### is_feasible -/
def within (p : Nat) (w : Window) (s : Nat) : Bool := decide (w.least ≤ s) && decide (s ≤ w.most) && decide (s < p)
theorem zip_within (v : Line) (p : Nat) : ∀ (ws : List Window) (l : List Nat) (i : Nat), (∀ j, j < ws.length → windowAt v (i + j) = ws.getD j ⟨0, 0⟩) → l.length = ws.length →
    ((ws.zip l).all fun x => within p x.1 x.2) = ((l.zipIdx i).all (fun x => decide ((windowAt v x.2).least ≤ x.1) && decide (x.1 ≤ (windowAt v x.2).most)) && l.all fun x => decide (x < p))
  | [], [], _, _, _ => rfl
  | [], _ :: _, _, _, h => by simp at h
  | _ :: _, [], _, _, h => by simp at h
  | w :: ws, s :: l, i, hw, hl => by
    have h0 := hw 0 (by simp)
    have ih := zip_within v p ws l (i + 1) (fun j hj => by
      have := hw (j + 1) (by simp; omega)
      rw [show i + 1 + j = i + (j + 1) by omega, this]
      simp) (by simpa using hl)
    have h0' : windowAt v i = w := by simpa using h0
    rw [List.zip_cons_cons, List.all_cons, ih, List.zipIdx_cons, List.all_cons, List.all_cons, h0']
    unfold within
    simp only [Bool.and_assoc, Bool.and_comm, Bool.and_left_comm]
theorem feasible_eq (v : Line) (p : Nat) (l : List Nat) (h : l.length = v.pits.length) :
    isFeasible v p l = (((v.pits.zip l).all fun x => within p x.1 x.2) && (singleMoveFits v p && decide (confs v p l = []))) := by
  have z := zip_within v p v.pits l 0 (fun j hj => by rw [Nat.zero_add]; rfl) h
  have e : (firstConflict v p l).isNone = decide (confs v p l = []) := by
    rw [first_head]
    cases c : confs v p l <;> simp
  unfold isFeasible withinWindows
  rw [z, e, decide_eq_true h, Bool.true_and, Bool.and_assoc, Bool.and_assoc]

/-! ### the bound -/
theorem foldl_max : ∀ (l : List Nat) (a : Nat), (l.foldl max a : Nat) = l.foldl max a := fun _ _ => rfl
def boundTo (v : Line) (i : Nat) : Nat := ((v.pits.take i).map fun w => w.least + 2 * v.moveTime + 2 * v.emptyTime).foldl max (max (v.moveTime + v.emptyTime) ((v.pits.length + 1) * v.moveTime))
theorem boundTo_zero (v : Line) : boundTo v 0 = max (v.moveTime + v.emptyTime) ((v.pits.length + 1) * v.moveTime) := rfl
theorem boundTo_succ (v : Line) {i : Nat} {w : Window} (h : v.pits[i]? = some w) : boundTo v (i + 1) = max (boundTo v i) (w.least + 2 * v.moveTime + 2 * v.emptyTime) := by
  unfold boundTo
  rw [List.take_succ, h, List.map_append, List.foldl_append]
  rfl
theorem boundTo_end (v : Line) : boundTo v v.pits.length = periodBound v := by
  unfold boundTo periodBound
  rw [List.take_length]

/-! ### occupied pits -/
theorem max_of : ∀ (l : List Nat) (a m : Nat), (m = a ∨ m ∈ l) → a ≤ m → (∀ y ∈ l, y ≤ m) → l.foldl max a = m
  | [], a, m, h, _, _ => by
    rcases h with h | h
    · exact h.symm
    · cases h
  | x :: l, a, m, h, ha, hy => by
    rw [List.foldl_cons]
    have hx := hy x (List.mem_cons_self ..)
    refine max_of l (max a x) m ?_ (Nat.max_le.mpr ⟨ha, hx⟩) fun y q => hy y (List.mem_cons_of_mem _ q)
    rcases h with h | h
    · left; omega
    · rcases List.mem_cons.mp h with q | q
      · left; omega
      · exact .inr q
theorem max_zero {l : List Nat} {m : Nat} (h : m ∈ l) (hy : ∀ y ∈ l, y ≤ m) : l.foldl max 0 = m := max_of l 0 m (.inr h) (Nat.zero_le _) hy
/-- the program's test -/
theorem occupied_eq (v : Line) (p : Nat) (l : List Nat) (i x s : Nat) (hp : 0 < p) (hi : l[i]? = some s) :
    isOccupied v p l i x = decide (((x : Int) - (((startTimes v l).getD i 0 + v.moveTime : Nat) : Int)) % (p : Int) < (s : Int)) := by
  have hl : i < l.length := by
    rcases Nat.lt_or_ge i l.length with h | h
    · exact h
    · rw [List.getElem?_eq_none h] at hi
      cases hi
  have hs : l[i] = s := by
    rw [List.getElem?_eq_getElem hl] at hi
    exact Option.some.inj hi
  have e : (startTimes v l).getD (i + 1) 0 - ((startTimes v l).getD i 0 + v.moveTime) = s := by
    rw [times_getD v l (by omega), times_getD v l (by omega), List.take_succ, hi, List.sum_append, Nat.add_mul]
    simp
    omega
  unfold isOccupied
  dsimp only
  rw [e, ← mod_eq ((startTimes v l).getD i 0 + v.moveTime) x p hp, Bool.eq_iff_iff, decide_eq_true_eq, decide_eq_true_eq]
  omega
def occ (v : Line) (p : Nat) (l : List Nat) (x : Nat) : Nat := ((List.range l.length).filter fun i => isOccupied v p l i x).length
theorem occ_le (v : Line) (p : Nat) (l : List Nat) (x : Nat) : occ v p l x ≤ l.length := by
  unfold occ
  exact Nat.le_trans (List.length_filter_le _ _) (by simp)
theorem maxOcc_of {v : Line} {p : Nat} {l : List Nat} {m : Nat} (h : m ∈ (List.range p).map (occ v p l)) (hy : ∀ y ∈ (List.range p).map (occ v p l), y ≤ m) : maxOccupied v p l = m := max_zero h hy

/-! ### throughput -/
theorem through_eq (v : Line) (l : List Nat) : throughputTime v l = l.sum + l.length * v.moveTime + v.moveTime := by
  unfold throughputTime
  rw [Nat.add_mul, Nat.one_mul, Nat.add_assoc]

/-! ### lists cut and joined -/
theorem erase_eq {α : Type} (l : List α) (i : Nat) : l.take i ++ l.drop (i + 1) = l.eraseIdx i := (List.eraseIdx_eq_take_drop_succ l i).symm
theorem set_eq {α : Type} {l : List α} {i : Nat} (h : i < l.length) (x : α) : l.take i ++ [x] ++ l.drop (i + 1) = l.set i x := by
  rw [List.set_eq_take_append_cons_drop, if_pos h]
  simp

/-! ### periods -/
def has (v : Line) (t : Nat) : Bool := (firstPlan v t).isSome
def periodsTo (v : Line) (i : Nat) : List Nat := ((List.range i).map fun t => t + 1).filter (has v)
theorem periodsTo_succ (v : Line) (i : Nat) : periodsTo v (i + 1) = periodsTo v i ++ (if has v (i + 1) = true then [i + 1] else []) := by
  unfold periodsTo
  rw [List.range_succ, List.map_append, List.filter_append]
  congr 1
  cases h : has v (i + 1) <;> simp [h]
theorem periodsTo_len (v : Line) (i : Nat) : (periodsTo v i).length ≤ i := by
  unfold periodsTo
  exact Nat.le_trans (List.length_filter_le _ _) (by simp)
theorem periods_end (v : Line) : periodsTo v 99 = periods.filter fun t => (firstPlan v t).isSome := rfl
theorem shortest_head (v : Line) : shortestPeriod v = (periodsTo v 99).head? := by
  unfold shortestPeriod
  rw [← List.head?_filter]
  rfl
/-- the first period found behind i turns without one -/
theorem shortest_at {v : Line} {i : Nat} (hi : i < 99) (h0 : periodsTo v i = []) (h : has v (i + 1) = true) : shortestPeriod v = some (i + 1) := by
  rw [shortest_head]
  have key : ∀ d, i + 1 + d ≤ 99 → (periodsTo v (i + 1 + d)).head? = some (i + 1) := by
    intro d
    induction d with
    | zero =>
      intro _
      show (periodsTo v (i + 1)).head? = _
      rw [periodsTo_succ, h0, if_pos h]
      rfl
    | succ d ih =>
      intro hd
      have e : i + 1 + (d + 1) = (i + 1 + d) + 1 := by omega
      rw [e, periodsTo_succ]
      have := ih (by omega)
      cases c : periodsTo v (i + 1 + d) with
      | nil => rw [c] at this; cases this
      | cons a r => rw [c] at this; exact this
  have := key (99 - (i + 1)) (by omega)
  rwa [show i + 1 + (99 - (i + 1)) = 99 by omega] at this
theorem shortest_none {v : Line} (h : periodsTo v 99 = []) : shortestPeriod v = none := by
  rw [shortest_head, h]
  rfl

/-! ### a call's words -/
def wordOf : Kp396.Call → Nat × List Nat
  | .create a b => (0, [a, b])
  | .addPit a b => (1, [a, b])
  | .removePit a => (2, [a])
  | .setWindow a b c => (3, [a, b, c])
  | .setSpeed a b => (4, [a, b])
  | .getPit a => (5, [a])
  | .shortestPeriod => (6, [])
  | .firstPlan a => (7, [a])
  | .startTimes a => (8, [a])
  | .isFeasible a l => (9, a :: l)
  | .firstConflict a l => (10, a :: l)
  | .planCount a => (11, [a])
  | .throughputTime a => (12, [a])
  | .maxOccupied a => (13, [a])
  | .completionTime a b => (14, [a, b])
  | .shortestPeriodWithWindow a b c => (15, [a, b, c])
  | .shortestPeriodWithSpeed a b => (16, [a, b])
  | .feasiblePeriods => (17, [])
  | .status => (18, [])
abbrev intsOf (l : List Nat) : List Int := l.map fun n : Nat => (n : Int)
/-- a call's numbers as they are handed in -/
def flat (x : Kp396.Call) : List Int := ((wordOf x).1 : Int) :: ((wordOf x).2.length : Int) :: (intsOf (wordOf x).2 ++ [0])
def ansOf (a : Ans) : List Int := a.num :: a.nums
def plays : State → List Kp396.Call → List (List Int)
  | _, [] => []
  | s, x :: r => ansOf (step s x).2 :: plays (step s x).1 r
theorem nat_of {z : Int} (h : Kp396Neutral.natural z = true) : ((z.toNat : Nat) : Int) = z := by
  unfold Kp396Neutral.natural at h
  simp only [Bool.and_eq_true, decide_eq_true_eq] at h
  omega
theorem nats_of : ∀ {l : List Int}, l.all Kp396Neutral.natural = true → intsOf (l.map Int.toNat) = l
  | [], _ => rfl
  | z :: l, h => by
    rw [List.all_cons, Bool.and_eq_true] at h
    show ((z.toNat : Nat) : Int) :: intsOf (l.map Int.toNat) = z :: l
    rw [nat_of h.1, nats_of h.2]
theorem word_of {c : List (List Int)} (h : Kp396Neutral.asked1 c = true) :
    ∃ x, Kp396Neutral.callOf c = some x ∧ c = [((wordOf x).1 : Int) :: intsOf (wordOf x).2] ∧ (wordOf x).2.length ≤ 7 := by
  unfold Kp396Neutral.asked1 at h
  split at h
  all_goals try simp only [Bool.and_eq_true, decide_eq_true_eq] at h
  · exact ⟨_, rfl, by simp [wordOf, intsOf, nat_of h.1, nat_of h.2], by simp [wordOf]⟩
  · exact ⟨_, rfl, by simp [wordOf, intsOf, nat_of h.1, nat_of h.2], by simp [wordOf]⟩
  · exact ⟨_, rfl, by simp [wordOf, intsOf, nat_of h], by simp [wordOf]⟩
  · exact ⟨_, rfl, by simp [wordOf, intsOf, nat_of h.1, nat_of h.2.1, nat_of h.2.2], by simp [wordOf]⟩
  · exact ⟨_, rfl, by simp [wordOf, intsOf, nat_of h.1, nat_of h.2], by simp [wordOf]⟩
  · exact ⟨_, rfl, by simp [wordOf, intsOf, nat_of h], by simp [wordOf]⟩
  · exact ⟨_, rfl, rfl, by simp [wordOf]⟩
  · exact ⟨_, rfl, by simp [wordOf, intsOf, nat_of h], by simp [wordOf]⟩
  · exact ⟨_, rfl, by simp [wordOf, intsOf, nat_of h], by simp [wordOf]⟩
  · rename_i a l
    refine ⟨.isFeasible a.toNat (l.map Int.toNat), rfl, ?_, by simp [wordOf]; omega⟩
    show [9 :: a :: l] = [(9 : Int) :: ((a.toNat : Nat) : Int) :: intsOf (l.map Int.toNat)]
    rw [nat_of h.1, nats_of h.2.1]
  · rename_i a l
    refine ⟨.firstConflict a.toNat (l.map Int.toNat), rfl, ?_, by simp [wordOf]; omega⟩
    show [10 :: a :: l] = [(10 : Int) :: ((a.toNat : Nat) : Int) :: intsOf (l.map Int.toNat)]
    rw [nat_of h.1, nats_of h.2.1]
  · exact ⟨_, rfl, by simp [wordOf, intsOf, nat_of h], by simp [wordOf]⟩
  · exact ⟨_, rfl, by simp [wordOf, intsOf, nat_of h], by simp [wordOf]⟩
  · exact ⟨_, rfl, by simp [wordOf, intsOf, nat_of h], by simp [wordOf]⟩
  · exact ⟨_, rfl, by simp [wordOf, intsOf, nat_of h.1, nat_of h.2], by simp [wordOf]⟩
  · exact ⟨_, rfl, by simp [wordOf, intsOf, nat_of h.1, nat_of h.2.1, nat_of h.2.2], by simp [wordOf]⟩
  · exact ⟨_, rfl, by simp [wordOf, intsOf, nat_of h.1, nat_of h.2], by simp [wordOf]⟩
  · exact ⟨_, rfl, rfl, by simp [wordOf]⟩
  · exact ⟨_, rfl, rfl, by simp [wordOf]⟩
  · cases h
theorem words_of : ∀ {cs : List (List (List Int))}, cs.all Kp396Neutral.asked1 = true → ∃ xs : List Kp396.Call,
    PyWide.put cs = xs.flatMap flat ∧ (∀ x ∈ xs, (wordOf x).2.length ≤ 7) ∧ ∀ s, PyFlat.played Kp396Neutral.step s cs = plays s xs
  | [], _ => ⟨[], rfl, by simp, fun _ => rfl⟩
  | c :: cs, h => by
    rw [List.all_cons, Bool.and_eq_true] at h
    obtain ⟨xs, e1, e2, e3⟩ := words_of h.2
    obtain ⟨x, hx, hc, hn⟩ := word_of h.1
    refine ⟨x :: xs, ?_, ?_, fun s => ?_⟩
    · show PyWide.put1 c ++ PyWide.put cs = flat x ++ xs.flatMap flat
      rw [e1, hc]
      congr 1
      show ((wordOf x).1 : Int) :: ((((intsOf (wordOf x).2).length : Nat) : Int) :: intsOf (wordOf x).2 ++ [0]) = flat x
      unfold flat
      rw [List.length_map]
      rfl
    · intro y hy
      rcases List.mem_cons.mp hy with q | q
      · rw [q]; exact hn
      · exact e2 y q
    · have e : Kp396Neutral.step s c = ((step s x).1, ansOf (step s x).2) := by
        unfold Kp396Neutral.step
        rw [hx]
        rfl
      show (Kp396Neutral.step s c).2 :: PyFlat.played Kp396Neutral.step (Kp396Neutral.step s c).1 cs = ansOf (step s x).2 :: plays (step s x).1 xs
      rw [e, e3]
theorem asked_words {l : List Int} (h : PyKp396.answers_asked l = true) : ∃ xs : List Kp396.Call,
    l = xs.flatMap flat ∧ (∀ x ∈ xs, (wordOf x).2.length ≤ 7) ∧ PyKp396.answers l = PyFlat.told (plays start xs) ∧ (PyFlat.told (plays start xs)).length ≤ 10000000 := by
  unfold PyKp396.answers_asked at h
  cases c : PyKp396.calls l with
  | none => rw [c] at h; cases h
  | some cs =>
    rw [c] at h
    simp only [Bool.and_eq_true] at h
    obtain ⟨⟨_, h2⟩, h3⟩ := h
    unfold Kp396Neutral.asked at h2
    simp only [Bool.and_eq_true] at h2
    obtain ⟨xs, e1, e2, e3⟩ := words_of h2.2.2
    have e := (PyWide.put_calls _ _ _ c).1
    have ea : PyKp396.answers l = PyFlat.told (plays start xs) := by
      unfold PyKp396.answers
      rw [c]
      show PyFlat.told (PyFlat.played Kp396Neutral.step Kp396Neutral.start cs) = _
      rw [e3]
      rfl
    refine ⟨xs, e.trans e1, e2, ea, ?_⟩
    rw [← ea]
    unfold PyFlat.short at h3
    exact of_decide_eq_true h3
end Hm

/-! The specification's step, path by path. -/
namespace Hm
open Kp396
theorem word0 {x : Kp396.Call} (h : (wordOf x).1 = 0) : ∃ m e, x = .create m e := by cases x <;> simp [wordOf] at h <;> exact ⟨_, _, rfl⟩
theorem word1 {x : Kp396.Call} (h : (wordOf x).1 = 1) : ∃ a b, x = .addPit a b := by cases x <;> simp [wordOf] at h <;> exact ⟨_, _, rfl⟩
theorem word2 {x : Kp396.Call} (h : (wordOf x).1 = 2) : ∃ a, x = .removePit a := by cases x <;> simp [wordOf] at h <;> exact ⟨_, rfl⟩
theorem word3 {x : Kp396.Call} (h : (wordOf x).1 = 3) : ∃ a b c, x = .setWindow a b c := by cases x <;> simp [wordOf] at h <;> exact ⟨_, _, _, rfl⟩
theorem word4 {x : Kp396.Call} (h : (wordOf x).1 = 4) : ∃ a b, x = .setSpeed a b := by cases x <;> simp [wordOf] at h <;> exact ⟨_, _, rfl⟩
theorem word5 {x : Kp396.Call} (h : (wordOf x).1 = 5) : ∃ a, x = .getPit a := by cases x <;> simp [wordOf] at h <;> exact ⟨_, rfl⟩
theorem word6 {x : Kp396.Call} (h : (wordOf x).1 = 6) : x = .shortestPeriod := by cases x <;> simp [wordOf] at h <;> rfl
theorem word7 {x : Kp396.Call} (h : (wordOf x).1 = 7) : ∃ a, x = .firstPlan a := by cases x <;> simp [wordOf] at h <;> exact ⟨_, rfl⟩
theorem word8 {x : Kp396.Call} (h : (wordOf x).1 = 8) : ∃ a, x = .startTimes a := by cases x <;> simp [wordOf] at h <;> exact ⟨_, rfl⟩
theorem word9 {x : Kp396.Call} (h : (wordOf x).1 = 9) : ∃ a l, x = .isFeasible a l := by cases x <;> simp [wordOf] at h <;> exact ⟨_, _, rfl⟩
theorem word10 {x : Kp396.Call} (h : (wordOf x).1 = 10) : ∃ a l, x = .firstConflict a l := by cases x <;> simp [wordOf] at h <;> exact ⟨_, _, rfl⟩
theorem word11 {x : Kp396.Call} (h : (wordOf x).1 = 11) : ∃ a, x = .planCount a := by cases x <;> simp [wordOf] at h <;> exact ⟨_, rfl⟩
theorem word12 {x : Kp396.Call} (h : (wordOf x).1 = 12) : ∃ a, x = .throughputTime a := by cases x <;> simp [wordOf] at h <;> exact ⟨_, rfl⟩
theorem word13 {x : Kp396.Call} (h : (wordOf x).1 = 13) : ∃ a, x = .maxOccupied a := by cases x <;> simp [wordOf] at h <;> exact ⟨_, rfl⟩
theorem word14 {x : Kp396.Call} (h : (wordOf x).1 = 14) : ∃ a b, x = .completionTime a b := by cases x <;> simp [wordOf] at h <;> exact ⟨_, _, rfl⟩
theorem word15 {x : Kp396.Call} (h : (wordOf x).1 = 15) : ∃ a b c, x = .shortestPeriodWithWindow a b c := by cases x <;> simp [wordOf] at h <;> exact ⟨_, _, _, rfl⟩
theorem word16 {x : Kp396.Call} (h : (wordOf x).1 = 16) : ∃ a b, x = .shortestPeriodWithSpeed a b := by cases x <;> simp [wordOf] at h <;> exact ⟨_, _, rfl⟩
theorem word17 {x : Kp396.Call} (h : (wordOf x).1 = 17) : x = .feasiblePeriods := by cases x <;> simp [wordOf] at h <;> rfl
theorem word18 {x : Kp396.Call} (h : (wordOf x).1 = 18) : x = .status := by cases x <;> simp [wordOf] at h <;> rfl
theorem word_lt (x : Kp396.Call) : (wordOf x).1 < 19 := by cases x <;> simp [wordOf]
theorem step_none {x : Kp396.Call} (h : (wordOf x).1 ≠ 0) : step none x = (none, single (-11)) := by
  cases x <;> first | rfl | exact absurd rfl h
theorem st_create_ok {s : State} {m e : Nat} (h : validSpeed m e = true) : step s (.create m e) = (some ⟨[], m, e⟩, single 0) := by
  show (if validSpeed m e = true then (some (Line.mk [] m e), single 0) else (s, single (-22))) = _
  rw [if_pos h]
theorem st_create_no {s : State} {m e : Nat} (h : validSpeed m e = false) : step s (.create m e) = (s, single (-22)) := by
  show (if validSpeed m e = true then (some (Line.mk [] m e), single 0) else (s, single (-22))) = _
  rw [h, if_neg Bool.false_ne_true]
variable {v : Line}
theorem st_add_no {a b : Nat} (h : validWindow a b = false) : step (some v) (.addPit a b) = (some v, single (-22)) := by
  show (if validWindow a b = false then _ else _) = _
  rw [if_pos h]
theorem st_add_full {a b : Nat} (h : validWindow a b = true) (hn : v.pits.length = 4) : step (some v) (.addPit a b) = (some v, single (-28)) := by
  show (if validWindow a b = false then _ else if maxPits ≤ v.pits.length then _ else _) = _
  rw [if_neg (by rw [h]; decide), if_pos (by unfold maxPits; omega)]
theorem st_add_ok {a b : Nat} (h : validWindow a b = true) (hn : v.pits.length < 4) : step (some v) (.addPit a b) = (some { v with pits := v.pits ++ [⟨a, b⟩] }, single (v.pits.length : Nat)) := by
  show (if validWindow a b = false then _ else if maxPits ≤ v.pits.length then _ else _) = _
  rw [if_neg (by rw [h]; decide), if_neg (by unfold maxPits; omega)]
theorem st_rem_no {i : Nat} (h : isPit v i = false) : step (some v) (.removePit i) = (some v, single (-2)) := by
  show (if isPit v i = true then _ else _) = _
  rw [if_neg (by rw [h]; decide)]
theorem st_rem_ok {i : Nat} (h : isPit v i = true) : step (some v) (.removePit i) = (some { v with pits := v.pits.eraseIdx i }, single (v.pits.length - 1 : Nat)) := by
  show (if isPit v i = true then _ else _) = _
  rw [if_pos h]
theorem st_set_no {i a b : Nat} (h : isPit v i = false) : step (some v) (.setWindow i a b) = (some v, single (-2)) := by
  show (if isPit v i = false then _ else _) = _
  rw [if_pos h]
theorem st_set_bad {i a b : Nat} (h : isPit v i = true) (hw : validWindow a b = false) : step (some v) (.setWindow i a b) = (some v, single (-22)) := by
  show (if isPit v i = false then _ else if validWindow a b = true then _ else _) = _
  rw [if_neg (by rw [h]; decide), if_neg (by rw [hw]; decide)]
theorem st_set_ok {i a b : Nat} (h : isPit v i = true) (hw : validWindow a b = true) : step (some v) (.setWindow i a b) = (some (withWindow v i a b), natResult 0 [(windowAt v i).least, (windowAt v i).most]) := by
  show (if isPit v i = false then _ else if validWindow a b = true then _ else _) = _
  rw [if_neg (by rw [h]; decide), if_pos hw]
theorem st_speed_no {m e : Nat} (h : validSpeed m e = false) : step (some v) (.setSpeed m e) = (some v, single (-22)) := by
  show (if validSpeed m e = true then _ else _) = _
  rw [if_neg (by rw [h]; decide)]
theorem st_speed_ok {m e : Nat} (h : validSpeed m e = true) : step (some v) (.setSpeed m e) = (some { v with moveTime := m, emptyTime := e }, natResult 0 [v.moveTime, v.emptyTime]) := by
  show (if validSpeed m e = true then _ else _) = _
  rw [if_pos h]
theorem st_get_no {i : Nat} (h : isPit v i = false) : step (some v) (.getPit i) = (some v, single (-2)) := by
  show (some v, if isPit v i = true then _ else _) = _
  rw [if_neg (by rw [h]; decide)]
theorem st_get_ok {i : Nat} (h : isPit v i = true) : step (some v) (.getPit i) = (some v, natResult (windowAt v i).least [(windowAt v i).most]) := by
  show (some v, if isPit v i = true then _ else _) = _
  rw [if_pos h]
theorem pr_none {u : Line} (h : shortestPeriod u = none) : periodResult u = single (-33) := by
  unfold periodResult
  rw [h]
theorem pr_some {u : Line} {t : Nat} (h : shortestPeriod u = some t) : periodResult u = single (t : Nat) := by
  unfold periodResult
  rw [h]
theorem st_short : step (some v) .shortestPeriod = (some v, periodResult v) := rfl
theorem q_bad {t : Nat} {f : List Nat → Ans} (h : validPeriod t = false) : queryPlan v t f = single (-22) := by
  unfold queryPlan
  rw [if_pos h]
theorem q_none {t : Nat} {f : List Nat → Ans} (h : validPeriod t = true) (hn : firstPlan v t = none) : queryPlan v t f = single (-33) := by
  unfold queryPlan
  rw [if_neg (by rw [h]; decide), hn]
theorem q_some {t : Nat} {f : List Nat → Ans} {l : List Nat} (h : validPeriod t = true) (hn : firstPlan v t = some l) : queryPlan v t f = f l := by
  unfold queryPlan
  rw [if_neg (by rw [h]; decide), hn]
theorem st_plan {t : Nat} : step (some v) (.firstPlan t) = (some v, queryPlan v t listResult) := rfl
theorem st_starts {t : Nat} : step (some v) (.startTimes t) = (some v, queryPlan v t fun plan => listResult (startTimes v plan)) := rfl
theorem st_through {t : Nat} : step (some v) (.throughputTime t) = (some v, queryPlan v t fun plan => single (throughputTime v plan : Nat)) := rfl
theorem st_occ {t : Nat} : step (some v) (.maxOccupied t) = (some v, queryPlan v t fun plan => single (maxOccupied v t plan : Nat)) := rfl
theorem lots_valid {n : Nat} : validPeriod n = false ↔ (n < 1 ∨ 99 < n) := by
  unfold validPeriod maxPeriod
  rw [Bool.and_eq_false_iff, decide_eq_false_iff_not, decide_eq_false_iff_not]
  omega
theorem period_valid {n : Nat} (h : validPeriod n = true) : 1 ≤ n ∧ n ≤ 99 := by
  unfold validPeriod maxPeriod at h
  rw [Bool.and_eq_true, decide_eq_true_eq, decide_eq_true_eq] at h
  exact h
theorem st_comp_no {t n : Nat} (h : validPeriod n = false) : step (some v) (.completionTime t n) = (some v, single (-22)) := by
  show (some v, if n < 1 ∨ 99 < n then _ else _) = _
  rw [if_pos (lots_valid.mp h)]
theorem st_comp {t n : Nat} (h : validPeriod n = true) : step (some v) (.completionTime t n) = (some v, queryPlan v t fun plan => single ((n - 1) * t + throughputTime v plan : Nat)) := by
  show (some v, if n < 1 ∨ 99 < n then _ else _) = _
  rw [if_neg (fun z => by rw [lots_valid.mpr z] at h; cases h)]
theorem st_feas_no {t : Nat} {l : List Nat} (h : (validPeriod t && validPlan v l) = false) : step (some v) (.isFeasible t l) = (some v, single (-22)) := by
  show (some v, if (validPeriod t && validPlan v l) = true then _ else _) = _
  rw [if_neg (by rw [h]; decide)]
theorem st_feas {t : Nat} {l : List Nat} (h : (validPeriod t && validPlan v l) = true) : step (some v) (.isFeasible t l) = (some v, boolResult (isFeasible v t l)) := by
  show (some v, if (validPeriod t && validPlan v l) = true then _ else _) = _
  rw [if_pos h]
theorem st_conf_no {t : Nat} {l : List Nat} (h : (validPeriod t && validPlan v l) = false) : step (some v) (.firstConflict t l) = (some v, single (-22)) := by
  show (some v, if (validPeriod t && validPlan v l) = true then _ else _) = _
  rw [if_neg (by rw [h]; decide)]
theorem st_conf_none {t : Nat} {l : List Nat} (h : (validPeriod t && validPlan v l) = true) (hc : confs v t l = []) : step (some v) (.firstConflict t l) = (some v, single (-33)) := by
  show (some v, if (validPeriod t && validPlan v l) = true then (match firstConflict v t l with
    | none => single (-33)
    | some x => natResult x.1 [x.2]) else single (-22)) = _
  rw [if_pos h, first_head, hc]
  rfl
theorem st_conf_some {t : Nat} {l : List Nat} {x : Nat × Nat} {r : List (Nat × Nat)} (h : (validPeriod t && validPlan v l) = true) (hc : confs v t l = x :: r) : step (some v) (.firstConflict t l) = (some v, natResult x.1 [x.2]) := by
  show (some v, if (validPeriod t && validPlan v l) = true then (match firstConflict v t l with
    | none => single (-33)
    | some x => natResult x.1 [x.2]) else single (-22)) = _
  rw [if_pos h, first_head, hc]
  rfl
theorem st_count_no {t : Nat} (h : validPeriod t = false) : step (some v) (.planCount t) = (some v, single (-22)) := by
  show (some v, if validPeriod t = true then _ else _) = _
  rw [if_neg (by rw [h]; decide)]
theorem st_count {t : Nat} (h : validPeriod t = true) : step (some v) (.planCount t) = (some v, single ((feasiblePlans v t).length : Nat)) := by
  show (some v, if validPeriod t = true then _ else _) = _
  rw [if_pos h]
theorem st_sww_no {i a b : Nat} (h : isPit v i = false) : step (some v) (.shortestPeriodWithWindow i a b) = (some v, single (-2)) := by
  show (some v, if isPit v i = false then _ else _) = _
  rw [if_pos h]
theorem st_sww_bad {i a b : Nat} (h : isPit v i = true) (hw : validWindow a b = false) : step (some v) (.shortestPeriodWithWindow i a b) = (some v, single (-22)) := by
  show (some v, if isPit v i = false then _ else if validWindow a b = true then _ else _) = _
  rw [if_neg (by rw [h]; decide), if_neg (by rw [hw]; decide)]
theorem st_sww {i a b : Nat} (h : isPit v i = true) (hw : validWindow a b = true) : step (some v) (.shortestPeriodWithWindow i a b) = (some v, periodResult (withWindow v i a b)) := by
  show (some v, if isPit v i = false then _ else if validWindow a b = true then _ else _) = _
  rw [if_neg (by rw [h]; decide), if_pos hw]
theorem st_sws_no {m e : Nat} (h : validSpeed m e = false) : step (some v) (.shortestPeriodWithSpeed m e) = (some v, single (-22)) := by
  show (some v, if validSpeed m e = true then _ else _) = _
  rw [if_neg (by rw [h]; decide)]
theorem st_sws {m e : Nat} (h : validSpeed m e = true) : step (some v) (.shortestPeriodWithSpeed m e) = (some v, periodResult { v with moveTime := m, emptyTime := e }) := by
  show (some v, if validSpeed m e = true then _ else _) = _
  rw [if_pos h]
theorem st_periods : step (some v) .feasiblePeriods = (some v, listResult (periods.filter fun t => (firstPlan v t).isSome)) := rfl
theorem st_status : step (some v) .status = (some v, natResult v.pits.length [v.moveTime, v.emptyTime, periodBound v]) := rfl
end Hm

/-! Words for the walk: how lines, plans and the state lie in the heap; what each def promises. -/
namespace Hm
open PySem PySem.Spec PyProof.Rows L2

/-! ### the heap -/
abbrev N (n : Nat) : V := V.int (n : Int)
abbrev NL (l : List Nat) : List V := l.map N
abbrev RL (l : List Addr) : List V := l.map V.ref
abbrev WinIn (H : Hp) (t : Addr) (w : Kp396.Window) : Prop := H t = some (.tup [N w.least, N w.most])
abbrev PlanIn (H : Hp) (p : Addr) (l : List Nat) : Prop := H p = some (.lst (NL l))
abbrev PairIn (H : Hp) (t : Addr) (x : Nat × Nat) : Prop := H t = some (.tup [N x.1, N x.2])
theorem Paired.get {α β : Type} {R : α → β → Prop} : ∀ {l : List α} {m : List β} {i : Nat} {y : β}, Paired R l m → m[i]? = some y → ∃ x, l[i]? = some x ∧ R x y
  | _, _, _, _, .nil, e => by simp at e
  | _, _, 0, _, .cons r _, e => by
    simp at e
    subst e
    exact ⟨_, rfl, r⟩
  | _, _, i + 1, _, .cons _ t, e => by
    obtain ⟨x, h1, h2⟩ := Paired.get (i := i) t (by simpa using e)
    exact ⟨x, by simpa using h1, h2⟩
theorem Paired.getL {α β : Type} {R : α → β → Prop} : ∀ {l : List α} {m : List β} {i : Nat} {x : α}, Paired R l m → l[i]? = some x → ∃ y, m[i]? = some y ∧ R x y
  | _, _, _, _, .nil, e => by simp at e
  | _, _, 0, _, .cons r _, e => by
    simp at e
    subst e
    exact ⟨_, rfl, r⟩
  | _, _, i + 1, _, .cons _ t, e => by
    obtain ⟨y, h1, h2⟩ := Paired.getL (i := i) t (by simpa using e)
    exact ⟨y, by simpa using h1, h2⟩
theorem Paired.app {α β : Type} {R : α → β → Prop} : ∀ {l : List α} {m : List β} {l' : List α} {m' : List β}, Paired R l m → Paired R l' m' → Paired R (l ++ l') (m ++ m')
  | _, _, _, _, .nil, s => s
  | _, _, _, _, .cons r t, s => .cons r (Paired.app t s)
theorem Paired.tak {α β : Type} {R : α → β → Prop} : ∀ {l : List α} {m : List β} (n : Nat), Paired R l m → Paired R (l.take n) (m.take n)
  | _, _, 0, _ => .nil
  | _, _, _ + 1, .nil => .nil
  | _, _, n + 1, .cons r t => .cons r (Paired.tak n t)
theorem Paired.drp {α β : Type} {R : α → β → Prop} : ∀ {l : List α} {m : List β} (n : Nat), Paired R l m → Paired R (l.drop n) (m.drop n)
  | _, _, 0, r => r
  | _, _, _ + 1, .nil => .nil
  | _, _, n + 1, .cons _ t => Paired.drp n t
theorem Paired.one {α β : Type} {R : α → β → Prop} {x : α} {y : β} (h : R x y) : Paired R [x] [y] := .cons h .nil
theorem Paired.len {α β : Type} {R : α → β → Prop} : ∀ {l : List α} {m : List β}, Paired R l m → l.length = m.length
  | _, _, .nil => rfl
  | _, _, .cons _ t => congrArg (· + 1) (Paired.len t)
theorem Paired.sameW {H H' : Hp} (s : Same H H') {ts : List Addr} {ws : List Kp396.Window} (h : Paired (WinIn H) ts ws) : Paired (WinIn H') ts ws := Paired.mapP h fun _ _ q => s _ _ q
theorem Paired.sameP {H H' : Hp} (s : Same H H') {ts : List Addr} {ws : List (List Nat)} (h : Paired (PlanIn H) ts ws) : Paired (PlanIn H') ts ws := Paired.mapP h fun _ _ q => s _ _ q
theorem Paired.sameX {H H' : Hp} (s : Same H H') {ts : List Addr} {ws : List (Nat × Nat)} (h : Paired (PairIn H) ts ws) : Paired (PairIn H') ts ws := Paired.mapP h fun _ _ q => s _ _ q

/-- a new object -/
theorem Same.new {H : Hp} {p : Addr} {o : HO} (h : H p = none) : Same H (upd H p o) := fun b u e => by
  rw [upd_ne (ne_of_none e h)]
  exact e
/-- an object of our own is written -/
theorem Same.put {H H' : Hp} {p : Addr} {o : HO} (s : Same H H') (h : H p = none) : Same H (upd H' p o) := fun b u e => by
  rw [upd_ne (ne_of_none e h)]
  exact s b u e
theorem Same.none {H H' : Hp} {p : Addr} (s : Same H H') (h : H' p = none) : H p = none := s.free h

def lineF (p : Addr) (v : Kp396.Line) : List (Str × V) := [("pits", .ref p), ("move_time", N v.moveTime), ("empty_time", N v.emptyTime)]
structure LineIn (C : Addr) (H : Hp) (a dx p : Addr) (ts : List Addr) (v : Kp396.Line) : Prop where
  obj : H a = some (.ins C dx (lineF p v))
  lst : H p = some (.lst (RL ts))
  win : Paired (WinIn H) ts v.pits
  good : GoodL v
/-- a line at a -/
def LineAt (C : Addr) (H : Hp) (a : Addr) (v : Kp396.Line) : Prop := ∃ dx p ts, LineIn C H a dx p ts v
theorem LineIn.same {C : Addr} {H H' : Hp} {a dx p : Addr} {ts : List Addr} {v : Kp396.Line} (s : Same H H') (h : LineIn C H a dx p ts v) : LineIn C H' a dx p ts v :=
  ⟨s _ _ h.obj, s _ _ h.lst, Paired.sameW s h.win, h.good⟩
theorem LineAt.same {C : Addr} {H H' : Hp} {a : Addr} {v : Kp396.Line} (s : Same H H') (h : LineAt C H a v) : LineAt C H' a v := by
  obtain ⟨dx, p, ts, h⟩ := h
  exact ⟨dx, p, ts, h.same s⟩
theorem LineAt.good {C : Addr} {H : Hp} {a : Addr} {v : Kp396.Line} (h : LineAt C H a v) : GoodL v := by
  obtain ⟨dx, p, ts, h⟩ := h
  exact h.good
/-- the state's object -/
def StAt (CS C : Addr) (H : Hp) (st : Addr) : Kp396.State → Prop
  | none => ∃ dx, H st = some (.ins CS dx [("line", .non)])
  | some v => ∃ dx a, H st = some (.ins CS dx [("line", .ref a)]) ∧ LineAt C H a v
theorem StAt.same {CS C : Addr} {H H' : Hp} {st : Addr} {s : Kp396.State} (q : Same H H') (h : StAt CS C H st s) : StAt CS C H' st s := by
  cases s with
  | none =>
    obtain ⟨dx, h⟩ := h
    exact ⟨dx, q _ _ h⟩
  | some v =>
    obtain ⟨dx, a, h, l⟩ := h
    exact ⟨dx, a, q _ _ h, l.same q⟩
/-- all but st is as it was -/
def But (st : Addr) (H H' : Hp) : Prop := ∀ b o, H b = some o → b ≠ st → H' b = some o
theorem Same.but {H H' : Hp} (s : Same H H') (st : Addr) : But st H H' := fun b o e _ => s b o e
theorem ins_ne {C D dx dy : Addr} {fs gs : List (Str × V)} (h : fs.length ≠ gs.length) : HO.ins C dx fs ≠ HO.ins D dy gs := fun z => by
  injection z with _ _ z3
  exact h (congrArg List.length z3)
/-- a line stands when the state's object is written -/
theorem LineAt.put {CS C : Addr} {H : Hp} {a st dx : Addr} {v : Kp396.Line} {x : V} {o : HO} (hs : H st = some (.ins CS dx [("line", x)])) (h : LineAt C H a v) : LineAt C (upd H st o) a v := by
  obtain ⟨dy, p, ts, h⟩ := h
  refine ⟨dy, p, ts, ?_, ?_, ?_, h.good⟩
  · rw [upd_ne (ne_of h.obj hs (ins_ne (by simp [lineF])))]
    exact h.obj
  · rw [upd_ne (ne_of h.lst hs (by intro z; cases z))]
    exact h.lst
  · exact Paired.mapP h.win fun t w q => by
      show upd H st o t = _
      rw [upd_ne (ne_of q hs (by intro z; cases z))]
      exact q
/-- lookups -/
theorem lk1 {k : Str} {v : V} {r : List (Str × V)} : List.lookup k ((k, v) :: r) = some v := by
  have e : (k == k) = true := beq_self_eq_true k
  simp only [List.lookup, e]
theorem lk2 {k g : Str} {v : V} {r : List (Str × V)} (h : (k == g) = false) : List.lookup k ((g, v) :: r) = List.lookup k r := by
  simp only [List.lookup, h]
theorem lk_pits {p : Addr} {v : Kp396.Line} : (lineF p v).lookup ("pits" : Str) = some (.ref p) := lk1
theorem lk_move {p : Addr} {v : Kp396.Line} : (lineF p v).lookup ("move_time" : Str) = some (N v.moveTime) := (lk2 (by decide +kernel)).trans lk1
theorem lk_empty {p : Addr} {v : Kp396.Line} : (lineF p v).lookup ("empty_time" : Str) = some (N v.emptyTime) := (lk2 (by decide +kernel)).trans ((lk2 (by decide +kernel)).trans lk1)
theorem put_line {x y : V} : putF "line" y [(("line" : Str), x)] = [(("line" : Str), y)] := if_pos rfl
theorem put_line0 {y : V} : putF "line" y [] = [(("line" : Str), y)] := rfl
theorem put_lines {p : Addr} {v : Kp396.Line} : putF "empty_time" (N v.emptyTime) (putF "move_time" (N v.moveTime) (putF "pits" (.ref p) [])) = lineF p v := by
  have h1 : ¬ (("pits" : Str) = "move_time") := by decide +kernel
  have h2 : ¬ (("pits" : Str) = "empty_time") := by decide +kernel
  have h3 : ¬ (("move_time" : Str) = "empty_time") := by decide +kernel
  simp only [putF, if_neg h1, if_neg h2, if_neg h3]
  rfl
/-- a module's int, by its name -/
theorem pe_num {X : Cx} {x : Str} {i : Int} {pos : Pos} (hg : Gl X x) (h : ∃ t, X.mg x = some (.int i t)) (hd : (x == ("__debug__" : Str)) = false := by decide) : PE X (.Name x pos) (tC (.int i)) := by
  obtain ⟨t, h⟩ := h
  exact pe_glob hg h ⟨t, rfl⟩ hd
/-- a bool's two ways -/
theorem ifb {b : Bool} {A B : Prop} (h1 : b = true → A) (h2 : b = false → B) : if b = true then A else B := by
  cases b
  · rw [if_neg Bool.false_ne_true]
    exact h2 rfl
  · rw [if_pos rfl]
    exact h1 rfl
theorem bl_eq {b c : Bool} (h : b = c) {Q : VK} {H : Hp} (q : Q (.bl c) H) : Q (.bl b) H := by rw [h]; exact q
theorem int_eq {i j : Int} (h : i = j) {Q : VK} {H : Hp} (q : Q (.int j) H) : Q (.int i) H := by rw [h]; exact q
theorem take_more {α : Type} {l : List α} {i : Nat} {x : α} (h : l[i]? = some x) : l.take (i + 1) = l.take i ++ [x] := by
  rw [List.take_succ, h]
  rfl
theorem small {n : Nat} (h : n ≤ 10000000) : n < sizeLine := Nat.lt_of_le_of_lt h (by decide)
theorem smallE {n : Nat} (h : n ≤ 10000000) : n ≤ sizeLine := Nat.le_of_lt (small h)
theorem map_at {α : Type} {f : α → V} {l : List α} {i : Nat} {y : V} (h : (l.map f)[i]? = some y) : ∃ x, l[i]? = some x ∧ y = f x := by
  rw [List.getElem?_map] at h
  cases e : l[i]? with
  | none => rw [e] at h; cases h
  | some x => rw [e] at h; exact ⟨x, rfl, (Option.some.inj h).symm⟩
theorem at_map {α : Type} {f : α → V} {l : List α} {i : Nat} {x : α} (h : l[i]? = some x) : (l.map f)[i]? = some (f x) := by
  rw [List.getElem?_map, h]
  rfl
/-- a list comprehension over zip of two lists of one length -/
theorem lc_zip {K : PySem.W.Frag} {a b : Addr} {xs ys : List V} {g : TG} {tt : TT} {te : TE} {vs : List Nat} {σ : L2.St} {H1 : Hp} {D : Addr} {Qd : Hp → Prop} (hl : xs.length = ys.length) (Pv : Nat → Hp → Prop) (h0 : Pv 0 (upd H1 D (.lst [])))
    (hq : ∀ i H, Pv i H → SqL K H a xs ∧ SqL K H b ys)
    (hs : ∀ (i : Nat) (x y : V) (T : Addr) (H : Hp), xs[i]? = some x → ys[i]? = some y → Pv i H → H T = none → g (.ref T) (wipe σ vs) (upd H T (.tup [x, y])) fun σ2 H2 => wipe σ2 vs = wipe σ vs ∧ tt σ2 H2 fun b H3 =>
      if b = true then te σ2 H3 fun y H4 => ∃ acc, H4 D = some (.lst acc) ∧ acc.length < sizeLine ∧ Pv (i + 1) (upd H4 D (.lst (acc ++ [y]))) else Pv (i + 1) H3) (hd : ∀ H, Pv xs.length H → Qd H) :
    ∃ W : Nat → Nat → Hp → Prop, (∃ m, W 0 m (upd H1 D (.lst []))) ∧ ∀ i m H, W i m H →
      ((Itz K a b).stop i H ∧ Qd H) ∨ ((Itz K a b).go i H ∧ ∃ Nx : Hp → Prop, (∀ H', Nx H' → ∃ m', m' < m ∧ W (i + 1) m' H') ∧ ∀ x H', (Itz K a b).yld i H x H' → g x (wipe σ vs) H' fun σ2 H2 => wipe σ2 vs = wipe σ vs ∧ tt σ2 H2 fun b H3 =>
        if b = true then te σ2 H3 fun y H4 => ∃ acc, H4 D = some (.lst acc) ∧ acc.length < sizeLine ∧ Nx (upd H4 D (.lst (acc ++ [y]))) else Nx H3) := by
  refine ⟨fun i m H => m = xs.length - i ∧ i ≤ xs.length ∧ Pv i H, ⟨xs.length, rfl, Nat.zero_le _, h0⟩, fun i m H hW => ?_⟩
  obtain ⟨rfl, hi, hP⟩ := hW
  have hS := hq i H hP
  by_cases e : i = xs.length
  · subst e
    exact .inl ⟨⟨xs, ys, hS.1, hS.2, .inl (Nat.le_refl _)⟩, hd H hP⟩
  · have hlt : i < xs.length := by omega
    have hlt2 : i < ys.length := by omega
    refine .inr ⟨⟨xs, ys, xs[i], ys[i], hS.1, hS.2, List.getElem?_eq_getElem hlt, List.getElem?_eq_getElem hlt2⟩, Pv (i + 1), fun H' q => ⟨xs.length - (i + 1), by omega, rfl, hlt, q⟩, ?_⟩
    rintro x H' ⟨T, x1, y1, rfl, hT, rfl, q1, q2⟩
    exact hs i x1 y1 T H (q1 xs hS.1) (q2 ys hS.2) hP hT
end Hm

/-! The text by places: each def's statement, its names by slot, its scope; what the walk asks of the top. -/
namespace Hm
open PySem PySem.Spec PyProof.Rows L2
def top (i : Nat) : Stmt := PySem.Challenge.pw_hoistmoves_s01_answers.main.body.getD i (.Pass ⟨0, 0, 0, 0⟩)
abbrev s_refused_init : Stmt := inClass (top 6) 0
abbrev n_refused_init : List Str := ["self", "code"]
theorem sc_refused_init : FnScope n_refused_init ["self", "code"] (defScope s_refused_init) := ⟨rfl, rfl, rfl, by decide +kernel, rfl, by decide +kernel, by decide +kernel⟩
abbrev s_refuse : Stmt := top 7
abbrev n_refuse : List Str := ["is_wrong", "code"]
theorem sc_refuse : FnScope n_refuse ["is_wrong", "code"] (defScope s_refuse) := ⟨rfl, rfl, rfl, by decide +kernel, rfl, by decide +kernel, by decide +kernel⟩
abbrev s_line_init : Stmt := inClass (top 15) 0
abbrev n_line_init : List Str := ["self", "pits", "move_time", "empty_time"]
theorem sc_line_init : FnScope n_line_init ["self", "pits", "move_time", "empty_time"] (defScope s_line_init) := ⟨rfl, rfl, rfl, by decide +kernel, rfl, by decide +kernel, by decide +kernel⟩
abbrev s_check_speed : Stmt := top 16
abbrev n_check_speed : List Str := ["move_time", "empty_time"]
theorem sc_check_speed : FnScope n_check_speed ["move_time", "empty_time"] (defScope s_check_speed) := ⟨rfl, rfl, rfl, by decide +kernel, rfl, by decide +kernel, by decide +kernel⟩
abbrev s_check_window : Stmt := top 17
abbrev n_check_window : List Str := ["least", "most"]
theorem sc_check_window : FnScope n_check_window ["least", "most"] (defScope s_check_window) := ⟨rfl, rfl, rfl, by decide +kernel, rfl, by decide +kernel, by decide +kernel⟩
abbrev s_check_pit : Stmt := top 18
abbrev n_check_pit : List Str := ["line", "pit"]
theorem sc_check_pit : FnScope n_check_pit ["line", "pit"] (defScope s_check_pit) := ⟨rfl, rfl, rfl, by decide +kernel, rfl, by decide +kernel, by decide +kernel⟩
abbrev s_check_period : Stmt := top 19
abbrev n_check_period : List Str := ["period"]
theorem sc_check_period : FnScope n_check_period ["period"] (defScope s_check_period) := ⟨rfl, rfl, rfl, by decide +kernel, rfl, by decide +kernel, by decide +kernel⟩
abbrev s_with_pit : Stmt := top 20
abbrev n_with_pit : List Str := ["line", "least", "most"]
theorem sc_with_pit : FnScope n_with_pit ["line", "least", "most"] (defScope s_with_pit) := ⟨rfl, rfl, rfl, by decide +kernel, rfl, by decide +kernel, by decide +kernel⟩
abbrev s_without_pit : Stmt := top 21
abbrev n_without_pit : List Str := ["line", "pit"]
theorem sc_without_pit : FnScope n_without_pit ["line", "pit"] (defScope s_without_pit) := ⟨rfl, rfl, rfl, by decide +kernel, rfl, by decide +kernel, by decide +kernel⟩
abbrev s_with_window : Stmt := top 22
abbrev n_with_window : List Str := ["line", "pit", "least", "most"]
theorem sc_with_window : FnScope n_with_window ["line", "pit", "least", "most"] (defScope s_with_window) := ⟨rfl, rfl, rfl, by decide +kernel, rfl, by decide +kernel, by decide +kernel⟩
abbrev s_with_speed : Stmt := top 23
abbrev n_with_speed : List Str := ["line", "move_time", "empty_time"]
theorem sc_with_speed : FnScope n_with_speed ["line", "move_time", "empty_time"] (defScope s_with_speed) := ⟨rfl, rfl, rfl, by decide +kernel, rfl, by decide +kernel, by decide +kernel⟩
abbrev s_bound_of : Stmt := top 24
abbrev n_bound_of : List Str := ["line", "found", "least", "most"]
theorem sc_bound_of : FnScope n_bound_of ["line"] (defScope s_bound_of) := ⟨rfl, rfl, rfl, by decide +kernel, rfl, by decide +kernel, by decide +kernel⟩
abbrev s_starts_of : Stmt := top 26
abbrev n_starts_of : List Str := ["line", "plan", "found", "stay"]
theorem sc_starts_of : FnScope n_starts_of ["line", "plan"] (defScope s_starts_of) := ⟨rfl, rfl, rfl, by decide +kernel, rfl, by decide +kernel, by decide +kernel⟩
abbrev s_needed_time : Stmt := top 27
abbrev n_needed_time : List Str := ["line", "first", "second"]
theorem sc_needed_time : FnScope n_needed_time ["line", "first", "second"] (defScope s_needed_time) := ⟨rfl, rfl, rfl, by decide +kernel, rfl, by decide +kernel, by decide +kernel⟩
abbrev s_is_too_early : Stmt := top 28
abbrev n_is_too_early : List Str := ["line", "period", "starts", "first", "second"]
theorem sc_is_too_early : FnScope n_is_too_early ["line", "period", "starts", "first", "second"] (defScope s_is_too_early) := ⟨rfl, rfl, rfl, by decide +kernel, rfl, by decide +kernel, by decide +kernel⟩
abbrev s_do_conflict : Stmt := top 29
abbrev n_do_conflict : List Str := ["line", "period", "starts", "first", "second"]
theorem sc_do_conflict : FnScope n_do_conflict ["line", "period", "starts", "first", "second"] (defScope s_do_conflict) := ⟨rfl, rfl, rfl, by decide +kernel, rfl, by decide +kernel, by decide +kernel⟩
abbrev s_conflicts : Stmt := top 30
abbrev n_conflicts : List Str := ["line", "period", "plan", "starts", "found", "first", "second"]
theorem sc_conflicts : FnScope n_conflicts ["line", "period", "plan"] (defScope s_conflicts) := ⟨rfl, rfl, rfl, by decide +kernel, rfl, by decide +kernel, by decide +kernel⟩
abbrev s_is_within : Stmt := top 32
abbrev n_is_within : List Str := ["window", "stay", "period"]
theorem sc_is_within : FnScope n_is_within ["window", "stay", "period"] (defScope s_is_within) := ⟨rfl, rfl, rfl, by decide +kernel, rfl, by decide +kernel, by decide +kernel⟩
abbrev s_may_repeat : Stmt := top 33
abbrev n_may_repeat : List Str := ["line", "period"]
theorem sc_may_repeat : FnScope n_may_repeat ["line", "period"] (defScope s_may_repeat) := ⟨rfl, rfl, rfl, by decide +kernel, rfl, by decide +kernel, by decide +kernel⟩
abbrev s_is_feasible : Stmt := top 34
abbrev n_is_feasible : List Str := ["line", "period", "plan", "window", "stay"]
theorem sc_is_feasible : FnScope n_is_feasible ["line", "period", "plan"] (defScope s_is_feasible) := ⟨rfl, rfl, rfl, by decide +kernel, rfl, by decide +kernel, by decide +kernel⟩
abbrev s_does_fit : Stmt := top 35
abbrev n_does_fit : List Str := ["line", "period", "plan", "starts", "last", "move"]
theorem sc_does_fit : FnScope n_does_fit ["line", "period", "plan"] (defScope s_does_fit) := ⟨rfl, rfl, rfl, by decide +kernel, rfl, by decide +kernel, by decide +kernel⟩
abbrev s_longer_plans : Stmt := top 36
abbrev n_longer_plans : List Str := ["line", "period", "plan", "window", "found", "stay", "longer"]
theorem sc_longer_plans : FnScope n_longer_plans ["line", "period", "plan"] (defScope s_longer_plans) := ⟨rfl, rfl, rfl, by decide +kernel, rfl, by decide +kernel, by decide +kernel⟩
abbrev s_feasible_plans : Stmt := top 37
abbrev n_feasible_plans : List Str := ["line", "period", "plans", "window", "found", "plan"]
theorem sc_feasible_plans : FnScope n_feasible_plans ["line", "period"] (defScope s_feasible_plans) := ⟨rfl, rfl, rfl, by decide +kernel, rfl, by decide +kernel, by decide +kernel⟩
abbrev s_first_from : Stmt := top 38
abbrev n_first_from : List Str := ["line", "period", "plan", "longer", "found"]
theorem sc_first_from : FnScope n_first_from ["line", "period", "plan"] (defScope s_first_from) := ⟨rfl, rfl, rfl, by decide +kernel, rfl, by decide +kernel, by decide +kernel⟩
abbrev s_first_or_none : Stmt := top 39
abbrev n_first_or_none : List Str := ["line", "period"]
theorem sc_first_or_none : FnScope n_first_or_none ["line", "period"] (defScope s_first_or_none) := ⟨rfl, rfl, rfl, by decide +kernel, rfl, by decide +kernel, by decide +kernel⟩
abbrev s_first_plan : Stmt := top 40
abbrev n_first_plan : List Str := ["line", "period", "found"]
theorem sc_first_plan : FnScope n_first_plan ["line", "period"] (defScope s_first_plan) := ⟨rfl, rfl, rfl, by decide +kernel, rfl, by decide +kernel, by decide +kernel⟩
abbrev s_has_plan : Stmt := top 41
abbrev n_has_plan : List Str := ["line", "period"]
theorem sc_has_plan : FnScope n_has_plan ["line", "period"] (defScope s_has_plan) := ⟨rfl, rfl, rfl, by decide +kernel, rfl, by decide +kernel, by decide +kernel⟩
abbrev s_feasible_periods : Stmt := top 42
abbrev n_feasible_periods : List Str := ["line", "period"]
theorem sc_feasible_periods : FnScope n_feasible_periods ["line"] (defScope s_feasible_periods) := ⟨rfl, rfl, rfl, by decide +kernel, rfl, by decide +kernel, by decide +kernel⟩
abbrev s_shortest_period : Stmt := top 43
abbrev n_shortest_period : List Str := ["line", "period"]
theorem sc_shortest_period : FnScope n_shortest_period ["line"] (defScope s_shortest_period) := ⟨rfl, rfl, rfl, by decide +kernel, rfl, by decide +kernel, by decide +kernel⟩
abbrev s_throughput_time : Stmt := top 45
abbrev n_throughput_time : List Str := ["line", "plan"]
theorem sc_throughput_time : FnScope n_throughput_time ["line", "plan"] (defScope s_throughput_time) := ⟨rfl, rfl, rfl, by decide +kernel, rfl, by decide +kernel, by decide +kernel⟩
abbrev s_completion_time : Stmt := top 46
abbrev n_completion_time : List Str := ["line", "period", "plan", "lots"]
theorem sc_completion_time : FnScope n_completion_time ["line", "period", "plan", "lots"] (defScope s_completion_time) := ⟨rfl, rfl, rfl, by decide +kernel, rfl, by decide +kernel, by decide +kernel⟩
abbrev s_is_occupied : Stmt := top 47
abbrev n_is_occupied : List Str := ["line", "period", "plan", "pit", "minute", "begin"]
theorem sc_is_occupied : FnScope n_is_occupied ["line", "period", "plan", "pit", "minute"] (defScope s_is_occupied) := ⟨rfl, rfl, rfl, by decide +kernel, rfl, by decide +kernel, by decide +kernel⟩
abbrev s_occupied_pits : Stmt := top 48
abbrev n_occupied_pits : List Str := ["line", "period", "plan", "minute", "pit"]
theorem sc_occupied_pits : FnScope n_occupied_pits ["line", "period", "plan", "minute"] (defScope s_occupied_pits) := ⟨rfl, rfl, rfl, by decide +kernel, rfl, by decide +kernel, by decide +kernel⟩
abbrev s_most_occupied : Stmt := top 49
abbrev n_most_occupied : List Str := ["line", "period", "plan", "minute"]
theorem sc_most_occupied : FnScope n_most_occupied ["line", "period", "plan"] (defScope s_most_occupied) := ⟨rfl, rfl, rfl, by decide +kernel, rfl, by decide +kernel, by decide +kernel⟩
abbrev s_state_init : Stmt := inClass (top 51) 0
abbrev n_state_init : List Str := ["self"]
theorem sc_state_init : FnScope n_state_init ["self"] (defScope s_state_init) := ⟨rfl, rfl, rfl, by decide +kernel, rfl, by decide +kernel, by decide +kernel⟩
abbrev s_create : Stmt := top 52
abbrev n_create : List Str := ["state", "numbers", "move_time", "empty_time"]
theorem sc_create : FnScope n_create ["state", "numbers"] (defScope s_create) := ⟨rfl, rfl, rfl, by decide +kernel, rfl, by decide +kernel, by decide +kernel⟩
abbrev s_add_pit : Stmt := top 53
abbrev n_add_pit : List Str := ["state", "numbers", "least", "most"]
theorem sc_add_pit : FnScope n_add_pit ["state", "numbers"] (defScope s_add_pit) := ⟨rfl, rfl, rfl, by decide +kernel, rfl, by decide +kernel, by decide +kernel⟩
abbrev s_remove_pit : Stmt := top 54
abbrev n_remove_pit : List Str := ["state", "numbers"]
theorem sc_remove_pit : FnScope n_remove_pit ["state", "numbers"] (defScope s_remove_pit) := ⟨rfl, rfl, rfl, by decide +kernel, rfl, by decide +kernel, by decide +kernel⟩
abbrev s_set_window : Stmt := top 55
abbrev n_set_window : List Str := ["state", "numbers", "pit", "least", "most", "before"]
theorem sc_set_window : FnScope n_set_window ["state", "numbers"] (defScope s_set_window) := ⟨rfl, rfl, rfl, by decide +kernel, rfl, by decide +kernel, by decide +kernel⟩
abbrev s_set_speed : Stmt := top 56
abbrev n_set_speed : List Str := ["state", "numbers", "move_time", "empty_time", "before"]
theorem sc_set_speed : FnScope n_set_speed ["state", "numbers"] (defScope s_set_speed) := ⟨rfl, rfl, rfl, by decide +kernel, rfl, by decide +kernel, by decide +kernel⟩
abbrev s_get_pit : Stmt := top 57
abbrev n_get_pit : List Str := ["state", "numbers"]
theorem sc_get_pit : FnScope n_get_pit ["state", "numbers"] (defScope s_get_pit) := ⟨rfl, rfl, rfl, by decide +kernel, rfl, by decide +kernel, by decide +kernel⟩
abbrev s_tell_shortest : Stmt := top 58
abbrev n_tell_shortest : List Str := ["state", "numbers"]
theorem sc_tell_shortest : FnScope n_tell_shortest ["state", "numbers"] (defScope s_tell_shortest) := ⟨rfl, rfl, rfl, by decide +kernel, rfl, by decide +kernel, by decide +kernel⟩
abbrev s_checked_plan : Stmt := top 59
abbrev n_checked_plan : List Str := ["state", "period"]
theorem sc_checked_plan : FnScope n_checked_plan ["state", "period"] (defScope s_checked_plan) := ⟨rfl, rfl, rfl, by decide +kernel, rfl, by decide +kernel, by decide +kernel⟩
abbrev s_tell_plan : Stmt := top 60
abbrev n_tell_plan : List Str := ["state", "numbers", "plan"]
theorem sc_tell_plan : FnScope n_tell_plan ["state", "numbers"] (defScope s_tell_plan) := ⟨rfl, rfl, rfl, by decide +kernel, rfl, by decide +kernel, by decide +kernel⟩
abbrev s_tell_starts : Stmt := top 61
abbrev n_tell_starts : List Str := ["state", "numbers", "starts"]
theorem sc_tell_starts : FnScope n_tell_starts ["state", "numbers"] (defScope s_tell_starts) := ⟨rfl, rfl, rfl, by decide +kernel, rfl, by decide +kernel, by decide +kernel⟩
abbrev s_check_plan : Stmt := top 62
abbrev n_check_plan : List Str := ["state", "numbers", "stay"]
theorem sc_check_plan : FnScope n_check_plan ["state", "numbers"] (defScope s_check_plan) := ⟨rfl, rfl, rfl, by decide +kernel, rfl, by decide +kernel, by decide +kernel⟩
abbrev s_tell_feasible : Stmt := top 63
abbrev n_tell_feasible : List Str := ["state", "numbers"]
theorem sc_tell_feasible : FnScope n_tell_feasible ["state", "numbers"] (defScope s_tell_feasible) := ⟨rfl, rfl, rfl, by decide +kernel, rfl, by decide +kernel, by decide +kernel⟩
abbrev s_tell_conflict : Stmt := top 64
abbrev n_tell_conflict : List Str := ["state", "numbers", "found"]
theorem sc_tell_conflict : FnScope n_tell_conflict ["state", "numbers"] (defScope s_tell_conflict) := ⟨rfl, rfl, rfl, by decide +kernel, rfl, by decide +kernel, by decide +kernel⟩
abbrev s_tell_count : Stmt := top 65
abbrev n_tell_count : List Str := ["state", "numbers"]
theorem sc_tell_count : FnScope n_tell_count ["state", "numbers"] (defScope s_tell_count) := ⟨rfl, rfl, rfl, by decide +kernel, rfl, by decide +kernel, by decide +kernel⟩
abbrev s_tell_throughput : Stmt := top 66
abbrev n_tell_throughput : List Str := ["state", "numbers"]
theorem sc_tell_throughput : FnScope n_tell_throughput ["state", "numbers"] (defScope s_tell_throughput) := ⟨rfl, rfl, rfl, by decide +kernel, rfl, by decide +kernel, by decide +kernel⟩
abbrev s_tell_occupied : Stmt := top 67
abbrev n_tell_occupied : List Str := ["state", "numbers"]
theorem sc_tell_occupied : FnScope n_tell_occupied ["state", "numbers"] (defScope s_tell_occupied) := ⟨rfl, rfl, rfl, by decide +kernel, rfl, by decide +kernel, by decide +kernel⟩
abbrev s_tell_completion : Stmt := top 68
abbrev n_tell_completion : List Str := ["state", "numbers", "period", "lots"]
theorem sc_tell_completion : FnScope n_tell_completion ["state", "numbers"] (defScope s_tell_completion) := ⟨rfl, rfl, rfl, by decide +kernel, rfl, by decide +kernel, by decide +kernel⟩
abbrev s_shortest_with_window : Stmt := top 69
abbrev n_shortest_with_window : List Str := ["state", "numbers", "pit", "least", "most"]
theorem sc_shortest_with_window : FnScope n_shortest_with_window ["state", "numbers"] (defScope s_shortest_with_window) := ⟨rfl, rfl, rfl, by decide +kernel, rfl, by decide +kernel, by decide +kernel⟩
abbrev s_shortest_with_speed : Stmt := top 70
abbrev n_shortest_with_speed : List Str := ["state", "numbers", "move_time", "empty_time"]
theorem sc_shortest_with_speed : FnScope n_shortest_with_speed ["state", "numbers"] (defScope s_shortest_with_speed) := ⟨rfl, rfl, rfl, by decide +kernel, rfl, by decide +kernel, by decide +kernel⟩
abbrev s_tell_periods : Stmt := top 71
abbrev n_tell_periods : List Str := ["state", "numbers", "found"]
theorem sc_tell_periods : FnScope n_tell_periods ["state", "numbers"] (defScope s_tell_periods) := ⟨rfl, rfl, rfl, by decide +kernel, rfl, by decide +kernel, by decide +kernel⟩
abbrev s_tell_status : Stmt := top 72
abbrev n_tell_status : List Str := ["state", "numbers", "line"]
theorem sc_tell_status : FnScope n_tell_status ["state", "numbers"] (defScope s_tell_status) := ⟨rfl, rfl, rfl, by decide +kernel, rfl, by decide +kernel, by decide +kernel⟩
abbrev s_answer : Stmt := top 76
abbrev n_answer : List Str := ["state", "word", "numbers", "operation", "e"]
theorem sc_answer : FnScope n_answer ["state", "word", "numbers"] (defScope s_answer) := ⟨rfl, rfl, rfl, by decide +kernel, rfl, by decide +kernel, by decide +kernel⟩
abbrev s_answers : Stmt := top 77
abbrev n_answers : List Str := ["calls", "state", "found", "at", "behind", "told"]
theorem sc_answers : FnScope n_answers ["calls"] (defScope s_answers) := ⟨rfl, rfl, rfl, by decide +kernel, rfl, by decide +kernel, by decide +kernel⟩
/-- a def of the top: where it stands -/
structure D (K : PySem.W.Frag) (mg : Str → Option Value) (x : Str) (st : Stmt) (ps : List Str) where
  f : Addr
  fd : FuncData
  g : mg x = some (.ref f)
  F : Fun K x x st f fd
  b : Binds K fd ps []
abbrev IsNum (mg : Str → Option Value) (x : Str) (i : Int) : Prop := ∃ t, mg x = some (.int i t)
/-- what the top has left -/
structure Txt (K : PySem.W.Frag) (mg : Str → Option Value) where
  CF : Addr
  gF : mg "Refused" = some (.ref CF)
  oex : OexC K CF
  fI : Addr
  fdI : FuncData
  iF : PySem.W.findIn K (.ref CF) "__init__" = some (some (.ref fI))
  tI : PySem.W.typeIn K (.ref fI) = some (.type "function")
  FI : Fun K "__init__" "Refused.__init__" s_refused_init fI fdI
  bI : Binds K fdI ["self", "code"] []
  noCode : PySem.W.findIn K (.ref CF) "code" = some none
  xf : XfC K CF
  te : PySem.W.exmOne K (.ref CF) (.ref CF) = some true
  veI : PySem.W.findCls K (.type "ValueError") (.type "type") "__init__" = some (.val (.builtin "ValueError.__init__"))
  CL : Addr
  gL : mg "Line" = some (.ref CL)
  cl : Cls K CL
  nPits : NoAttr K CL "pits"
  nMove : NoAttr K CL "move_time"
  nEmpty : NoAttr K CL "empty_time"
  fL : Addr
  fdL : FuncData
  mkL : Mk K CL fL
  FL : Fun K "__init__" "Line.__init__" s_line_init fL fdL
  bL : Binds K fdL ["self", "pits", "move_time", "empty_time"] []
  CS : Addr
  gS : mg "State" = some (.ref CS)
  cs : Cls K CS
  nLine : NoAttr K CS "line"
  fS : Addr
  fdS : FuncData
  mkS : Mk K CS fS
  FS : Fun K "__init__" "State.__init__" s_state_init fS fdS
  bS : Binds K fdS ["self"] []
  c_NO_LINE : IsNum mg "NO_LINE" (-11)
  c_NO_PIT : IsNum mg "NO_PIT" (-2)
  c_BAD_ARGUMENT : IsNum mg "BAD_ARGUMENT" (-22)
  c_FULL : IsNum mg "FULL" (-28)
  c_NOTHING : IsNum mg "NOTHING" (-33)
  c_MOST_PITS : IsNum mg "MOST_PITS" 4
  c_LONGEST_STAY : IsNum mg "LONGEST_STAY" 30
  c_WIDEST : IsNum mg "WIDEST" 8
  c_LONGEST_MOVE : IsNum mg "LONGEST_MOVE" 9
  c_LONGEST_EMPTY : IsNum mg "LONGEST_EMPTY" 4
  c_LAST_PERIOD : IsNum mg "LAST_PERIOD" 99
  c_CREATE : IsNum mg "CREATE" 0
  n_len : mg "len" = none
  n_abs : mg "abs" = none
  n_max : mg "max" = none
  n_any : mg "any" = none
  n_all : mg "all" = none
  n_zip : mg "zip" = none
  n_range : mg "range" = none
  n_list : mg "list" = none
  n_int : mg "int" = none
  n_ValueError : mg "ValueError" = none
  d_refuse : D K mg "refuse" s_refuse ["is_wrong", "code"]
  d_check_speed : D K mg "check_speed" s_check_speed ["move_time", "empty_time"]
  d_check_window : D K mg "check_window" s_check_window ["least", "most"]
  d_check_pit : D K mg "check_pit" s_check_pit ["line", "pit"]
  d_check_period : D K mg "check_period" s_check_period ["period"]
  d_with_pit : D K mg "with_pit" s_with_pit ["line", "least", "most"]
  d_without_pit : D K mg "without_pit" s_without_pit ["line", "pit"]
  d_with_window : D K mg "with_window" s_with_window ["line", "pit", "least", "most"]
  d_with_speed : D K mg "with_speed" s_with_speed ["line", "move_time", "empty_time"]
  d_bound_of : D K mg "bound_of" s_bound_of ["line"]
  d_starts_of : D K mg "starts_of" s_starts_of ["line", "plan"]
  d_needed_time : D K mg "needed_time" s_needed_time ["line", "first", "second"]
  d_is_too_early : D K mg "is_too_early" s_is_too_early ["line", "period", "starts", "first", "second"]
  d_do_conflict : D K mg "do_conflict" s_do_conflict ["line", "period", "starts", "first", "second"]
  d_conflicts : D K mg "conflicts" s_conflicts ["line", "period", "plan"]
  d_is_within : D K mg "is_within" s_is_within ["window", "stay", "period"]
  d_may_repeat : D K mg "may_repeat" s_may_repeat ["line", "period"]
  d_is_feasible : D K mg "is_feasible" s_is_feasible ["line", "period", "plan"]
  d_does_fit : D K mg "does_fit" s_does_fit ["line", "period", "plan"]
  d_longer_plans : D K mg "longer_plans" s_longer_plans ["line", "period", "plan"]
  d_feasible_plans : D K mg "feasible_plans" s_feasible_plans ["line", "period"]
  d_first_from : D K mg "first_from" s_first_from ["line", "period", "plan"]
  d_first_or_none : D K mg "first_or_none" s_first_or_none ["line", "period"]
  d_first_plan : D K mg "first_plan" s_first_plan ["line", "period"]
  d_has_plan : D K mg "has_plan" s_has_plan ["line", "period"]
  d_feasible_periods : D K mg "feasible_periods" s_feasible_periods ["line"]
  d_shortest_period : D K mg "shortest_period" s_shortest_period ["line"]
  d_throughput_time : D K mg "throughput_time" s_throughput_time ["line", "plan"]
  d_completion_time : D K mg "completion_time" s_completion_time ["line", "period", "plan", "lots"]
  d_is_occupied : D K mg "is_occupied" s_is_occupied ["line", "period", "plan", "pit", "minute"]
  d_occupied_pits : D K mg "occupied_pits" s_occupied_pits ["line", "period", "plan", "minute"]
  d_most_occupied : D K mg "most_occupied" s_most_occupied ["line", "period", "plan"]
  d_create : D K mg "create" s_create ["state", "numbers"]
  d_add_pit : D K mg "add_pit" s_add_pit ["state", "numbers"]
  d_remove_pit : D K mg "remove_pit" s_remove_pit ["state", "numbers"]
  d_set_window : D K mg "set_window" s_set_window ["state", "numbers"]
  d_set_speed : D K mg "set_speed" s_set_speed ["state", "numbers"]
  d_get_pit : D K mg "get_pit" s_get_pit ["state", "numbers"]
  d_tell_shortest : D K mg "tell_shortest" s_tell_shortest ["state", "numbers"]
  d_checked_plan : D K mg "checked_plan" s_checked_plan ["state", "period"]
  d_tell_plan : D K mg "tell_plan" s_tell_plan ["state", "numbers"]
  d_tell_starts : D K mg "tell_starts" s_tell_starts ["state", "numbers"]
  d_check_plan : D K mg "check_plan" s_check_plan ["state", "numbers"]
  d_tell_feasible : D K mg "tell_feasible" s_tell_feasible ["state", "numbers"]
  d_tell_conflict : D K mg "tell_conflict" s_tell_conflict ["state", "numbers"]
  d_tell_count : D K mg "tell_count" s_tell_count ["state", "numbers"]
  d_tell_throughput : D K mg "tell_throughput" s_tell_throughput ["state", "numbers"]
  d_tell_occupied : D K mg "tell_occupied" s_tell_occupied ["state", "numbers"]
  d_tell_completion : D K mg "tell_completion" s_tell_completion ["state", "numbers"]
  d_shortest_with_window : D K mg "shortest_with_window" s_shortest_with_window ["state", "numbers"]
  d_shortest_with_speed : D K mg "shortest_with_speed" s_shortest_with_speed ["state", "numbers"]
  d_tell_periods : D K mg "tell_periods" s_tell_periods ["state", "numbers"]
  d_tell_status : D K mg "tell_status" s_tell_status ["state", "numbers"]
  d_answer : D K mg "answer" s_answer ["state", "word", "numbers"]
  d_answers : D K mg "answers" s_answers ["calls"]
  ops : Addr
  gOps : mg "OPERATIONS" = some (.ref ops)
  tOps : ∀ H : Hp, SqT K H ops (RL [d_create.f, d_add_pit.f, d_remove_pit.f, d_set_window.f, d_set_speed.f, d_get_pit.f, d_tell_shortest.f, d_tell_plan.f, d_tell_starts.f, d_tell_feasible.f,
    d_tell_conflict.f, d_tell_count.f, d_tell_throughput.f, d_tell_occupied.f, d_tell_completion.f, d_shortest_with_window.f, d_shortest_with_speed.f, d_tell_periods.f, d_tell_status.f])
end Hm

/-! Refusals and checks. -/
namespace Hm
open PySem PySem.Spec PyProof.Rows L2
/-- a refusal with the code c leaves -/
def Thr (CF : Addr) (c : Int) (H : Hp) (E : XK) : Prop := ∀ (H' : Hp) (d : Addr), Same H H' → H' d = some (.xd [(("code" : Str), .int c)]) → E (.ref CF) (some d) H'
theorem Thr.later {CF : Addr} {c : Int} {H H' : Hp} {E : XK} (t : Thr CF c H E) (s : Same H H') : Thr CF c H' E := fun H2 d s2 e => t H2 d (s.trans s2) e
theorem q_or {ta tb : TE} {σ : L2.St} {H : Hp} {Q : VK} {c1 c2 : Bool} (h1 : ∀ R : VK, R (.bl c1) H → ta σ H R) (h2 : ∀ R : VK, R (.bl c2) H → tb σ H R) (q : Q (.bl (c1 || c2)) H) : tOrV ta tb σ H Q :=
  h1 _ ⟨c1, rfl, ifb (fun e => by subst e; exact q) (fun e => by subst e; exact h2 _ q)⟩
theorem q_and {ta tb : TE} {σ : L2.St} {H : Hp} {Q : VK} {c1 c2 : Bool} (h1 : ∀ R : VK, R (.bl c1) H → ta σ H R) (h2 : ∀ R : VK, R (.bl c2) H → tb σ H R) (q : Q (.bl (c1 && c2)) H) : tAndV ta tb σ H Q :=
  h1 _ ⟨c1, rfl, ifb (fun e => by subst e; exact h2 _ q) (fun e => by subst e; exact q)⟩
/-! ### what a line's fields give -/
section
variable {K : PySem.W.Frag} {mg : Str → Option Value} {H : Hp} {a dx p : Addr} {ts : List Addr} {v : Kp396.Line} {Q : VK}
theorem LineIn.pits (T : Txt K mg) (L : LineIn T.CL H a dx p ts v) (q : Q (.ref p) H) :
    ∃ a' C dx fs x, V.ref a = .ref a' ∧ H a' = some (.ins C dx fs) ∧ Cls K C ∧ NoAttr K C "pits" ∧ fs.lookup ("pits" : Str) = some x ∧ Q x H := ⟨a, _, _, _, _, rfl, L.obj, T.cl, T.nPits, lk_pits, q⟩
theorem LineIn.move (T : Txt K mg) (L : LineIn T.CL H a dx p ts v) (q : Q (N v.moveTime) H) :
    ∃ a' C dx fs x, V.ref a = .ref a' ∧ H a' = some (.ins C dx fs) ∧ Cls K C ∧ NoAttr K C "move_time" ∧ fs.lookup ("move_time" : Str) = some x ∧ Q x H := ⟨a, _, _, _, _, rfl, L.obj, T.cl, T.nMove, lk_move, q⟩
theorem LineIn.empty (T : Txt K mg) (L : LineIn T.CL H a dx p ts v) (q : Q (N v.emptyTime) H) :
    ∃ a' C dx fs x, V.ref a = .ref a' ∧ H a' = some (.ins C dx fs) ∧ Cls K C ∧ NoAttr K C "empty_time" ∧ fs.lookup ("empty_time" : Str) = some x ∧ Q x H := ⟨a, _, _, _, _, rfl, L.obj, T.cl, T.nEmpty, lk_empty, q⟩
theorem LineIn.count (L : LineIn C H a dx p ts v) : ((RL ts).length : Int) = (v.pits.length : Int) := by
  rw [List.length_map, Paired.len L.win]
end
section
variable {P : Program} {w : World} {K : PySem.W.Frag} {mg : Str → Option Value} {base : Heap}
/-! ### Refused.__init__, refuse -/
def sp_refused_init (CF : Addr) : Sp := fun vs H Q _ => ∃ (a : Addr) (c : Int), vs = [.ref a, .int c] ∧ H a = some (exo a CF none) ∧
  ∀ d, H d = none → d ≠ a → Q .non (upd (upd H d (exd d [(("code" : Str), .int c)])) a (exo a CF (some d)))
theorem ok_refused_init (T : Txt K mg) : FnOk P w K mg base CX0 1 T.fI T.fdI ["self", "code"] (sp_refused_init T.CF) := by
  refine T.FI.ok sc_refused_init (fun vs H Q E h => ?_) (fun cdv A outer s H vs Q E hr h => ?_)
  · obtain ⟨a, c, rfl, _⟩ := h
    rfl
  · obtain ⟨a, c, rfl, ha, k⟩ := h
    refine ⟨_, (pss_cons (ps_expr (pe_veinit (by rfl) T.n_ValueError T.veI (by exact (pa_cons (pv 0) (pa_cons pe_str pa_nil)))))
    (pss_one (ps_ost (pv 0) (pv 1)))), ?_⟩
    exact ⟨_, rfl, a, T.CF, _, rfl, (by show 1 ≤ 1000; decide), T.oex, ha, _, rfl, _, rfl, a, T.CF, rfl, T.oex, T.noCode, .inl ⟨ha, fun dx hx ne => k dx hx ne⟩⟩
def sp_refuse (CF : Addr) : Sp := fun vs H Q E => ∃ (b : Bool) (c : Int), vs = [.bl b, .int c] ∧ (b = false → Q .non H) ∧ (b = true → Thr CF c H E)
theorem ok_refuse (T : Txt K mg) : FnOk P w K mg base (L2.CX P w) 3 T.d_refuse.f T.d_refuse.fd ["is_wrong", "code"] (sp_refuse T.CF) := by
  refine T.d_refuse.F.okX sc_refuse (fun vs H Q E h => ?_) (fun cdv A outer s H vs Q E hr h => ?_)
  · obtain ⟨a, c, rfl, _⟩ := h
    rfl
  · obtain ⟨b, c, rfl, k1, k2⟩ := h
    refine ⟨_, (pss_one (ps_if (pt_val (pv 0)) (pss_one (ps_raise rfl (takes_of rfl rfl rfl rfl) (pmk_oex T.oex T.iF T.tI (ok_refused_init T) (hr.mono (by decide)) T.bI .nil pass0 (by rfl) T.gF (by exact (pa_cons (pv 1) pa_nil))))) pss_nil)), ?_⟩
    refine ⟨_, rfl, b, rfl, ifb (fun hb => ?_) fun hb => k1 hb⟩
    refine ⟨_, rfl, (by show 1 ≤ 1000; decide), fun a ha => ⟨a, c, rfl, upd_same, fun d hd ne => ⟨rfl, d, _, upd_same, (upd_ne ne).trans upd_same, ?_, ?_⟩⟩⟩
    · rw [upd_ne ne] at hd
      exact hd
    · have hd' : H d = none := by
        rw [upd_ne ne] at hd
        exact hd
      refine k2 hb _ d (fun x o e => ?_) upd_same
      have hxd : x ≠ d := ne_of_none e hd'
      have hxa : x ≠ a := ne_of_none e ha
      rw [upd_ne hxd, del_ne hxa, upd_ne hxa, upd_ne hxd, upd_ne hxa]
      exact e
/-! ### checks -/
theorem speed_test (m e : Nat) : (decide ((m : Int) < 1) || (decide ((9 : Int) < (m : Int)) || decide ((4 : Int) < (e : Int)))) = !Kp396.validSpeed m e := by
  unfold Kp396.validSpeed
  rw [Bool.eq_iff_iff]
  simp only [Bool.or_eq_true, decide_eq_true_eq, Bool.not_eq_true', Bool.and_eq_false_iff, decide_eq_false_iff_not]
  omega
theorem window_test (a b : Nat) : (decide ((a : Int) < 1) || (decide ((b : Int) < (a : Int)) || (decide ((30 : Int) < (b : Int)) || decide ((a : Int) + 8 < (b : Int))))) = !Kp396.validWindow a b := by
  unfold Kp396.validWindow
  rw [Bool.eq_iff_iff]
  simp only [Bool.or_eq_true, decide_eq_true_eq, Bool.not_eq_true', Bool.and_eq_false_iff, decide_eq_false_iff_not]
  omega
theorem period_test (t : Nat) : (decide ((t : Int) < 1) || decide ((99 : Int) < (t : Int))) = !Kp396.validPeriod t := by
  unfold Kp396.validPeriod Kp396.maxPeriod
  rw [Bool.eq_iff_iff]
  simp only [Bool.or_eq_true, decide_eq_true_eq, Bool.not_eq_true', Bool.and_eq_false_iff, decide_eq_false_iff_not]
  omega
def sp_check_speed (CF : Addr) : Sp := fun vs H Q E => ∃ m e : Nat, vs = [N m, N e] ∧ (Kp396.validSpeed m e = true → Q .non H) ∧ (Kp396.validSpeed m e = false → Thr CF (-22) H E)
theorem ok_check_speed (T : Txt K mg) : FnOk P w K mg base (L2.CX P w) 4 T.d_check_speed.f T.d_check_speed.fd ["move_time", "empty_time"] (sp_check_speed T.CF) := by
  refine T.d_check_speed.F.okX sc_check_speed (fun vs H Q E h => ?_) (fun cdv A outer s H vs Q E hr h => ?_)
  · obtain ⟨a, c, rfl, _⟩ := h
    rfl
  · obtain ⟨m, e, rfl, k1, k2⟩ := h
    refine ⟨_, (pss_one (ps_expr (pe_call (ok_refuse T) (hr.mono (by decide)) (by rfl) T.d_refuse.g T.d_refuse.F.kp T.d_refuse.b .nil (passes_call (W := fun cls d _ H => E cls d H) (takes_of rfl rfl rfl rfl) fun _ _ _ _ h => h) (by exact (pa_cons (pe_or (pe_cmpR op_lt (pv 0) pe_int (nomark _)) (pe_or (pe_cmpR op_gt (pv 0) (pe_num (by rfl) T.c_LONGEST_MOVE) (nomark _)) (pe_one (pe_cmpR op_gt (pv 1) (pe_num (by rfl) T.c_LONGEST_EMPTY) (nomark _))))) (pa_cons (pe_num (by rfl) T.c_BAD_ARGUMENT) pa_nil)))))), ?_⟩
    refine q_or (fun R q => ⟨_, rfl, _, _, rfl, rfl, q⟩) (fun R q => q_or (fun R q => ⟨_, rfl, _, _, rfl, rfl, q⟩) (fun R q => ⟨_, rfl, _, _, rfl, rfl, q⟩) q) ?_
    exact ⟨_, -22, rfl, fun hb => k1 (by rw [speed_test] at hb; simpa using hb), fun hb => k2 (by rw [speed_test] at hb; simpa using hb)⟩
def sp_check_window (CF : Addr) : Sp := fun vs H Q E => ∃ a b : Nat, vs = [N a, N b] ∧ (Kp396.validWindow a b = true → Q .non H) ∧ (Kp396.validWindow a b = false → Thr CF (-22) H E)
theorem ok_check_window (T : Txt K mg) : FnOk P w K mg base (L2.CX P w) 4 T.d_check_window.f T.d_check_window.fd ["least", "most"] (sp_check_window T.CF) := by
  refine T.d_check_window.F.okX sc_check_window (fun vs H Q E h => ?_) (fun cdv A outer s H vs Q E hr h => ?_)
  · obtain ⟨a, c, rfl, _⟩ := h
    rfl
  · obtain ⟨m, e, rfl, k1, k2⟩ := h
    refine ⟨_, (pss_one (ps_expr (pe_call (ok_refuse T) (hr.mono (by decide)) (by rfl) T.d_refuse.g T.d_refuse.F.kp T.d_refuse.b .nil (passes_call (W := fun cls d _ H => E cls d H) (takes_of rfl rfl rfl rfl) fun _ _ _ _ h => h) (by exact (pa_cons (pe_or (pe_cmpR op_lt (pv 0) pe_int (nomark _)) (pe_or (pe_cmpR op_gt (pv 0) (pv 1) (nomark _)) (pe_or (pe_cmpR op_gt (pv 1) (pe_num (by rfl) T.c_LONGEST_STAY) (nomark _)) (pe_one (pe_cmpR op_gt (pv 1) (pe_op op_add (pv 0) (pe_num (by rfl) T.c_WIDEST)) (nomark _)))))) (pa_cons (pe_num (by rfl) T.c_BAD_ARGUMENT) pa_nil)))))), ?_⟩
    refine q_or (fun R q => ⟨_, rfl, _, _, rfl, rfl, q⟩) (fun R q => q_or (fun R q => ⟨_, rfl, _, rfl, _, _, rfl, rfl, q⟩) (fun R q => q_or (fun R q => ⟨_, rfl, _, _, rfl, rfl, q⟩) (fun R q => ⟨_, rfl, _, rfl, _, _, rfl, rfl, _, _, rfl, rfl, q⟩) q) q) ?_
    exact ⟨_, -22, rfl, fun hb => k1 (by rw [window_test] at hb; simpa using hb), fun hb => k2 (by rw [window_test] at hb; simpa using hb)⟩
def sp_check_period (CF : Addr) : Sp := fun vs H Q E => ∃ t : Nat, vs = [N t] ∧ (Kp396.validPeriod t = true → Q .non H) ∧ (Kp396.validPeriod t = false → Thr CF (-22) H E)
theorem ok_check_period (T : Txt K mg) : FnOk P w K mg base (L2.CX P w) 4 T.d_check_period.f T.d_check_period.fd ["period"] (sp_check_period T.CF) := by
  refine T.d_check_period.F.okX sc_check_period (fun vs H Q E h => ?_) (fun cdv A outer s H vs Q E hr h => ?_)
  · obtain ⟨a, rfl, _⟩ := h
    rfl
  · obtain ⟨t, rfl, k1, k2⟩ := h
    refine ⟨_, (pss_one (ps_expr (pe_call (ok_refuse T) (hr.mono (by decide)) (by rfl) T.d_refuse.g T.d_refuse.F.kp T.d_refuse.b .nil (passes_call (W := fun cls d _ H => E cls d H) (takes_of rfl rfl rfl rfl) fun _ _ _ _ h => h) (by exact (pa_cons (pe_or (pe_cmpR op_lt (pv 0) pe_int (nomark _)) (pe_one (pe_cmpR op_gt (pv 0) (pe_num (by rfl) T.c_LAST_PERIOD) (nomark _)))) (pa_cons (pe_num (by rfl) T.c_BAD_ARGUMENT) pa_nil)))))), ?_⟩
    refine q_or (fun R q => ⟨_, rfl, _, _, rfl, rfl, q⟩) (fun R q => ⟨_, rfl, _, _, rfl, rfl, q⟩) ?_
    exact ⟨_, -22, rfl, fun hb => k1 (by rw [period_test] at hb; simpa using hb), fun hb => k2 (by rw [period_test] at hb; simpa using hb)⟩
def sp_check_pit (CF C : Addr) : Sp := fun vs H Q E => ∃ (a : Addr) (v : Kp396.Line) (i : Nat), vs = [.ref a, N i] ∧ LineAt C H a v ∧ (Kp396.isPit v i = true → Q .non H) ∧ (Kp396.isPit v i = false → Thr CF (-2) H E)
theorem ok_check_pit (T : Txt K mg) : FnOk P w K mg base (L2.CX P w) 4 T.d_check_pit.f T.d_check_pit.fd ["line", "pit"] (sp_check_pit T.CF T.CL) := by
  refine T.d_check_pit.F.okX sc_check_pit (fun vs H Q E h => ?_) (fun cdv A outer s H vs Q E hr h => ?_)
  · obtain ⟨a, v, i, rfl, _⟩ := h
    rfl
  · obtain ⟨a, v, i, rfl, ⟨dx, p, ts, L⟩, k1, k2⟩ := h
    refine ⟨_, (pss_one (ps_expr (pe_call (ok_refuse T) (hr.mono (by decide)) (by rfl) T.d_refuse.g T.d_refuse.F.kp T.d_refuse.b .nil (passes_call (W := fun cls d _ H => E cls d H) (takes_of rfl rfl rfl rfl) fun _ _ _ _ h => h) (by exact (pa_cons (pe_cmpR op_ge (pv 1) (pe_callB call_len_seq (by rfl) T.n_len (by decide +kernel) (by exact (pa_cons (pe_fld (pv 0) rfl) pa_nil))) (nomark _)) (pa_cons (pe_num (by rfl) T.c_NO_PIT) pa_nil)))))), ?_⟩
    refine ⟨_, rfl, _, rfl, L.pits T ⟨p, _, rfl, .inl (SqL.of L.lst), _, _, rfl, rfl, ?_⟩⟩
    have e : decide (((RL ts).length : Int) ≤ (i : Int)) = !Kp396.isPit v i := by
      rw [L.count, Kp396.isPit, Bool.eq_iff_iff]
      simp
    exact ⟨_, -2, rfl, fun hb => k1 (by rw [e] at hb; simpa using hb), fun hb => k2 (by rw [e] at hb; simpa using hb)⟩
end
end Hm

/-! Lines made and read. -/
namespace Hm
open PySem PySem.Spec PyProof.Rows L2
theorem cut_take (xs : List V) (i : Nat) : cutV xs none (some (i : Int)) = xs.take i := by
  unfold cutV
  rw [HT.sIx_none, HT.sIx_nat, List.drop_zero, Nat.sub_zero]
  by_cases h : i ≤ xs.length
  · rw [Nat.min_eq_left h]
  · rw [Nat.min_eq_right (by omega), List.take_length, List.take_of_length_le (by omega)]
theorem cut_drop (xs : List V) (i : Nat) : cutV xs (some ((i : Int) + 1)) none = xs.drop (i + 1) := by
  have e : ((i : Int) + 1) = ((i + 1 : Nat) : Int) := rfl
  unfold cutV
  rw [e, HT.sIx_none, HT.sIx_nat]
  by_cases h : i + 1 ≤ xs.length
  · rw [Nat.min_eq_left h, List.take_of_length_le (by rw [List.length_drop]; omega)]
  · rw [Nat.min_eq_right (by omega), List.drop_length, List.drop_of_length_le (by omega)]
    simp
theorem at_end {xs : List V} {v : V} (h : xs[xs.length - 1]? = some v) : atI xs (-1) = some v := by
  have hl : 0 < xs.length := by
    cases xs with
    | nil => simp at h
    | cons a l => simp
  unfold atI ixN
  rw [if_neg (by decide), if_pos (by omega)]
  show xs[((-1 : Int) + (xs.length : Int)).toNat]? = some v
  rw [show ((-1 : Int) + (xs.length : Int)).toNat = xs.length - 1 by omega]
  exact h
theorem nl_at {l : List Nat} {i : Nat} (h : i < l.length) : (NL l)[i]? = some (N (l.getD i 0)) := by
  rw [List.getElem?_map, List.getElem?_eq_getElem h, List.getD_eq_getElem?_getD, List.getElem?_eq_getElem h]
  rfl
theorem mulOk {n : Nat} {j : Int} (h : n ≤ 1000000) : CMul (n : Int) j := .inl ⟨by omega, by omega⟩
section
variable {P : Program} {w : World} {K : PySem.W.Frag} {mg : Str → Option Value} {base : Heap}
/-! ### Line.__init__ -/
def sp_line_init (C : Addr) : Sp := fun vs H Q _ => ∃ (x p dx : Addr) (v : Kp396.Line), vs = [.ref x, .ref p, N v.moveTime, N v.emptyTime] ∧ H x = some (.ins C dx []) ∧
  ∀ H' : Hp, H' x = some (.ins C dx (lineF p v)) → (∀ b o, H b = some o → b ≠ x → H' b = some o) → Q .non H'
theorem ok_line_init (T : Txt K mg) : FnOk P w K mg base CX0 1 T.fL T.fdL ["self", "pits", "move_time", "empty_time"] (sp_line_init T.CL) := by
  refine T.FL.ok sc_line_init (fun vs H Q E h => ?_) (fun cdv A outer s H vs Q E hr h => ?_)
  · obtain ⟨x, p, dx, v, rfl, _⟩ := h
    rfl
  · obtain ⟨x, p, dx, v, rfl, hx, k⟩ := h
    refine ⟨_, (pss_cons (ps_fld (pv 0) (pv 1) rfl)
    (pss_cons (ps_fld (pv 0) (pv 2) rfl)
    (pss_one (ps_fld (pv 0) (pv 3) rfl)))), ?_⟩
    refine ⟨_, rfl, _, rfl, x, T.CL, dx, _, rfl, hx, T.cl, T.nPits, (by show 0 < 1000; decide), ?_⟩
    refine ⟨_, rfl, _, rfl, x, T.CL, dx, _, rfl, upd_same, T.cl, T.nMove, (by show 1 < 1000; decide), ?_⟩
    refine ⟨_, rfl, _, rfl, x, T.CL, dx, _, rfl, upd_same, T.cl, T.nEmpty, (by show 2 < 1000; decide), ?_⟩
    refine k _ ?_ fun b o e hb => ?_
    · rw [upd_same, put_lines]
    · rw [upd_ne hb, upd_ne hb, upd_ne hb]
      exact e
/-- a line that was made -/
theorem made {C : Addr} {H H' : Hp} {x dx r : Addr} {ts : List Addr} {v : Kp396.Line} (nx : H x = none) (nd : H dx = none) (hr : H r = some (.lst (RL ts))) (hw : Paired (WinIn H) ts v.pits) (g : GoodL v)
    (e : H' x = some (.ins C dx (lineF r v))) (k : ∀ b o, (upd (upd H dx (.own x)) x (.ins C dx [])) b = some o → b ≠ x → H' b = some o) : Same H H' ∧ LineAt C H' x v := by
  have s : Same H H' := Same.made nx nd k
  exact ⟨s, dx, r, ts, e, s _ _ hr, Paired.sameW s hw, g⟩
def sp_with_pit (CF C : Addr) : Sp := fun vs H Q E => ∃ (a : Addr) (v : Kp396.Line) (x y : Nat), vs = [.ref a, N x, N y] ∧ LineAt C H a v ∧ Kp396.validWindow x y = true ∧ (v.pits.length = 4 → Thr CF (-28) H E) ∧
  (v.pits.length < 4 → ∀ (H' : Hp) (r : Addr), Same H H' → LineAt C H' r { v with pits := v.pits ++ [⟨x, y⟩] } → Q (.ref r) H')
theorem ok_with_pit (T : Txt K mg) : FnOk P w K mg base (L2.CX P w) 4 T.d_with_pit.f T.d_with_pit.fd ["line", "least", "most"] (sp_with_pit T.CF T.CL) := by
  refine T.d_with_pit.F.okX sc_with_pit (fun vs H Q E h => ?_) (fun cdv A outer s H vs Q E hr h => ?_)
  · obtain ⟨a, v, x, y, rfl, _⟩ := h
    rfl
  · obtain ⟨a, v, x, y, rfl, ⟨dx, p, ts, L⟩, hv, k1, k2⟩ := h
    refine ⟨_, (pss_cons (ps_expr (pe_call (ok_refuse T) (hr.mono (by decide)) (by rfl) T.d_refuse.g T.d_refuse.F.kp T.d_refuse.b .nil (passes_call (W := fun cls d _ H => E cls d H) (takes_of rfl rfl rfl rfl) fun _ _ _ _ h => h) (by exact (pa_cons (pe_cmp (pc_eqI (pe_callB call_len_seq (by rfl) T.n_len (by decide +kernel) (by exact (pa_cons (pe_fld (pv 0) rfl) pa_nil))) (pe_num (by rfl) T.c_MOST_PITS))) (pa_cons (pe_num (by rfl) T.c_FULL) pa_nil)))))
    (pss_one (ps_ret (pe_make T.mkL (ok_line_init T) (hr.mono (by decide)) (by rfl) T.gL T.bL .nil pass0 (by exact (pa_cons (pe_op op_cat (pe_fld (pv 0) rfl) (pe_lst (by exact (pa_cons (pe_tup (by exact (pa_cons (pv 1) (pa_cons (pv 2) pa_nil)))) pa_nil)))) (pa_cons (pe_fld (pv 0) rfl) (pa_cons (pe_fld (pv 0) rfl) pa_nil)))))))), ?_⟩
    have hn := L.good.n4
    have hts : (RL ts).length = v.pits.length := by rw [List.length_map, Paired.len L.win]
    refine ⟨_, rfl, _, _, _, _, _, rfl, L.obj, T.cl, T.nPits, lk_pits, p, _, rfl, .inl (SqL.of L.lst), _, _, rfl, rfl, ?_⟩
    refine ⟨_, -28, rfl, fun hb => ?_, fun hb => ?_⟩
    · have hb' := of_decide_eq_false hb
      rw [hts] at hb'
      refine ⟨_, rfl, _, _, _, _, _, rfl, L.obj, T.cl, T.nPits, lk_pits, _, rfl, _, rfl, (by show 2 ≤ sizeLine; decide), fun t ht => ⟨(by show 1 ≤ sizeLine; decide), fun q hq => ?_⟩⟩
      have s1 := Same.new (o := .tup [N x, N y]) ht
      have s2 := Same.new (o := .lst [V.ref t]) hq
      have L2 := (L.same s1).same s2
      refine ⟨p, q, _, _, rfl, rfl, L2.lst, upd_same, smallE (by rw [hts]; show v.pits.length + 1 ≤ 10000000; omega), fun r hr' => ?_⟩
      have s3 := Same.new (o := .lst (RL ts ++ [V.ref t])) hr'
      have L3 := L2.same s3
      refine ⟨_, rfl, _, _, _, _, _, rfl, L3.obj, T.cl, T.nMove, lk_move, _, rfl, _, _, _, _, _, rfl, L3.obj, T.cl, T.nEmpty, lk_empty, fun z dz nz nd ne => ?_⟩
      refine ⟨z, r, dz, { v with pits := v.pits ++ [⟨x, y⟩] }, rfl, upd_same, fun H' e k => ⟨rfl, ?_⟩⟩
      have m := made (ts := ts ++ [t]) nz nd (by rw [upd_same, RL, RL, List.map_append]; rfl) (Paired.app L3.win (Paired.one (s3 _ _ (s2 _ _ upd_same)))) (GoodL.add L.good hv (by omega)) e k
      exact k2 (by omega) H' z (((s1.trans s2).trans s3).trans m.1) m.2
    · have hb' := of_decide_eq_true hb
      rw [hts] at hb'
      exact k1 (by omega)
def sp_without_pit (C : Addr) : Sp := fun vs H Q _ => ∃ (a : Addr) (v : Kp396.Line) (i : Nat), vs = [.ref a, N i] ∧ LineAt C H a v ∧
  ∀ (H' : Hp) (r : Addr), Same H H' → LineAt C H' r { v with pits := v.pits.eraseIdx i } → Q (.ref r) H'
theorem ok_without_pit (T : Txt K mg) : FnOk P w K mg base CX0 4 T.d_without_pit.f T.d_without_pit.fd ["line", "pit"] (sp_without_pit T.CL) := by
  refine T.d_without_pit.F.ok sc_without_pit (fun vs H Q E h => ?_) (fun cdv A outer s H vs Q E hr h => ?_)
  · obtain ⟨a, v, i, rfl, _⟩ := h
    rfl
  · obtain ⟨a, v, i, rfl, ⟨dx, p, ts, L⟩, k2⟩ := h
    refine ⟨_, (pss_one (ps_ret (pe_make T.mkL (ok_line_init T) (hr.mono (by decide)) (by rfl) T.gL T.bL .nil pass0 (by exact (pa_cons (pe_op op_cat (pe_slice sl_list (pe_fld (pv 0) rfl) po_none (po_some (pv 1))) (pe_slice sl_list (pe_fld (pv 0) rfl) (po_some (pe_op op_add (pv 1) pe_int)) po_none)) (pa_cons (pe_fld (pv 0) rfl) (pa_cons (pe_fld (pv 0) rfl) pa_nil))))))), ?_⟩
    have hn := L.good.n4
    have hts : (RL ts).length = v.pits.length := by rw [List.length_map, Paired.len L.win]
    refine ⟨_, rfl, _, _, _, _, _, rfl, L.obj, T.cl, T.nPits, lk_pits, _, rfl, _, rfl, p, _, rfl, SqL.of L.lst, fun q1 h1 => ?_⟩
    have s1 := Same.new (o := .lst (cutV (RL ts) none (some (i : Int)))) h1
    have L1 := L.same s1
    refine ⟨_, rfl, _, _, _, _, _, rfl, L1.obj, T.cl, T.nPits, lk_pits, _, rfl, _, _, rfl, rfl, _, rfl, p, _, rfl, SqL.of L1.lst, fun q2 h2 => ?_⟩
    have s2 := Same.new (o := .lst (cutV (RL ts) (some ((i : Int) + 1)) none)) h2
    have L2 := L1.same s2
    refine ⟨q1, q2, _, _, rfl, rfl, s2 _ _ upd_same, upd_same, ?_, fun r hr' => ?_⟩
    · have c1 := cutV_length (RL ts) none (some (i : Int))
      have c2 := cutV_length (RL ts) (some ((i : Int) + 1)) none
      exact smallE (by omega)
    have s3 := Same.new (o := .lst (cutV (RL ts) none (some (i : Int)) ++ cutV (RL ts) (some ((i : Int) + 1)) none)) hr'
    have L3 := L2.same s3
    refine ⟨_, rfl, _, _, _, _, _, rfl, L3.obj, T.cl, T.nMove, lk_move, _, rfl, _, _, _, _, _, rfl, L3.obj, T.cl, T.nEmpty, lk_empty, fun z dz nz nd ne => ?_⟩
    refine ⟨z, r, dz, { v with pits := v.pits.eraseIdx i }, rfl, upd_same, fun H' e k => ⟨rfl, ?_⟩⟩
    have m := made (ts := ts.take i ++ ts.drop (i + 1)) nz nd (by rw [upd_same, cut_take, cut_drop, RL, RL, List.map_append, List.map_take, List.map_drop])
      (by
        show Paired _ _ (v.pits.eraseIdx i)
        rw [← erase_eq]
        exact Paired.app (Paired.tak i L3.win) (Paired.drp (i + 1) L3.win)) (GoodL.rem L.good i) e k
    exact k2 H' z (((s1.trans s2).trans s3).trans m.1) m.2
def sp_with_window (C : Addr) : Sp := fun vs H Q _ => ∃ (a : Addr) (v : Kp396.Line) (i x y : Nat), vs = [.ref a, N i, N x, N y] ∧ LineAt C H a v ∧ Kp396.isPit v i = true ∧ Kp396.validWindow x y = true ∧
  ∀ (H' : Hp) (r : Addr), Same H H' → LineAt C H' r (Kp396.withWindow v i x y) → Q (.ref r) H'
theorem ok_with_window (T : Txt K mg) : FnOk P w K mg base CX0 4 T.d_with_window.f T.d_with_window.fd ["line", "pit", "least", "most"] (sp_with_window T.CL) := by
  refine T.d_with_window.F.ok sc_with_window (fun vs H Q E h => ?_) (fun cdv A outer s H vs Q E hr h => ?_)
  · obtain ⟨a, v, i, x, y, rfl, _⟩ := h
    rfl
  · obtain ⟨a, v, i, x, y, rfl, ⟨dx, p, ts, L⟩, hi, hv, k2⟩ := h
    refine ⟨_, (pss_one (ps_ret (pe_make T.mkL (ok_line_init T) (hr.mono (by decide)) (by rfl) T.gL T.bL .nil pass0 (by exact (pa_cons (pe_op op_cat (pe_op op_cat (pe_slice sl_list (pe_fld (pv 0) rfl) po_none (po_some (pv 1))) (pe_lst (by exact (pa_cons (pe_tup (by exact (pa_cons (pv 2) (pa_cons (pv 3) pa_nil)))) pa_nil)))) (pe_slice sl_list (pe_fld (pv 0) rfl) (po_some (pe_op op_add (pv 1) pe_int)) po_none)) (pa_cons (pe_fld (pv 0) rfl) (pa_cons (pe_fld (pv 0) rfl) pa_nil))))))), ?_⟩
    have hn := L.good.n4
    have hts : (RL ts).length = v.pits.length := by rw [List.length_map, Paired.len L.win]
    have hi' : i < v.pits.length := of_decide_eq_true hi
    have c1 := cutV_length (RL ts) none (some (i : Int))
    have c2 := cutV_length (RL ts) (some ((i : Int) + 1)) none
    refine ⟨_, rfl, _, _, _, _, _, rfl, L.obj, T.cl, T.nPits, lk_pits, _, rfl, _, rfl, p, _, rfl, SqL.of L.lst, fun q1 h1 => ?_⟩
    have s1 := Same.new (o := .lst (cutV (RL ts) none (some (i : Int)))) h1
    have L1 := L.same s1
    refine ⟨_, rfl, _, rfl, (by show 2 ≤ sizeLine; decide), fun t ht => ⟨(by show 1 ≤ sizeLine; decide), fun q2 h2 => ?_⟩⟩
    have s2 := Same.new (o := .tup [N x, N y]) ht
    have s3 := Same.new (o := .lst [V.ref t]) h2
    have L3 := (L1.same s2).same s3
    refine ⟨q1, q2, _, _, rfl, rfl, s3 _ _ (s2 _ _ upd_same), upd_same, smallE (by show _ + 1 ≤ _; omega), fun q3 h3 => ?_⟩
    have s4 := Same.new (o := .lst (cutV (RL ts) none (some (i : Int)) ++ [V.ref t])) h3
    have L4 := L3.same s4
    refine ⟨_, rfl, _, _, _, _, _, rfl, L4.obj, T.cl, T.nPits, lk_pits, _, rfl, _, _, rfl, rfl, _, rfl, p, _, rfl, SqL.of L4.lst, fun q4 h4 => ?_⟩
    have s5 := Same.new (o := .lst (cutV (RL ts) (some ((i : Int) + 1)) none)) h4
    have L5 := L4.same s5
    refine ⟨q3, q4, _, _, rfl, rfl, s5 _ _ upd_same, upd_same, ?_, fun r hr' => ?_⟩
    · rw [List.length_append]
      exact smallE (by show _ + 1 + _ ≤ _; omega)
    have s6 := Same.new (o := .lst (cutV (RL ts) none (some (i : Int)) ++ [V.ref t] ++ cutV (RL ts) (some ((i : Int) + 1)) none)) hr'
    have L6 := L5.same s6
    refine ⟨_, rfl, _, _, _, _, _, rfl, L6.obj, T.cl, T.nMove, lk_move, _, rfl, _, _, _, _, _, rfl, L6.obj, T.cl, T.nEmpty, lk_empty, fun z dz nz nd ne => ?_⟩
    refine ⟨z, r, dz, Kp396.withWindow v i x y, rfl, upd_same, fun H' e k => ⟨rfl, ?_⟩⟩
    have m := made (ts := ts.take i ++ [t] ++ ts.drop (i + 1)) nz nd (by rw [upd_same, cut_take, cut_drop, RL, RL, List.map_append, List.map_append, List.map_take, List.map_drop]; rfl)
      (by
        show Paired _ _ (v.pits.set i ⟨x, y⟩)
        rw [← set_eq hi']
        exact Paired.app (Paired.app (Paired.tak i L6.win) (Paired.one (s6 _ _ (s5 _ _ (s4 _ _ (s3 _ _ upd_same)))))) (Paired.drp (i + 1) L6.win)) (GoodL.set L.good hv) e k
    exact k2 H' z ((((((s1.trans s2).trans s3).trans s4).trans s5).trans s6).trans m.1) m.2
def sp_with_speed (C : Addr) : Sp := fun vs H Q _ => ∃ (a : Addr) (v : Kp396.Line) (m e : Nat), vs = [.ref a, N m, N e] ∧ LineAt C H a v ∧ Kp396.validSpeed m e = true ∧
  ∀ (H' : Hp) (r : Addr), Same H H' → LineAt C H' r { v with moveTime := m, emptyTime := e } → Q (.ref r) H'
theorem ok_with_speed (T : Txt K mg) : FnOk P w K mg base CX0 4 T.d_with_speed.f T.d_with_speed.fd ["line", "move_time", "empty_time"] (sp_with_speed T.CL) := by
  refine T.d_with_speed.F.ok sc_with_speed (fun vs H Q E h => ?_) (fun cdv A outer s H vs Q E hr h => ?_)
  · obtain ⟨a, v, m, e, rfl, _⟩ := h
    rfl
  · obtain ⟨a, v, m, e, rfl, ⟨dx, p, ts, L⟩, hv, k2⟩ := h
    refine ⟨_, (pss_one (ps_ret (pe_make T.mkL (ok_line_init T) (hr.mono (by decide)) (by rfl) T.gL T.bL .nil pass0 (by exact (pa_cons (pe_fld (pv 0) rfl) (pa_cons (pv 1) (pa_cons (pv 2) pa_nil))))))), ?_⟩
    refine ⟨_, rfl, _, _, _, _, _, rfl, L.obj, T.cl, T.nPits, lk_pits, _, rfl, _, rfl, fun z dz nz nd ne => ?_⟩
    refine ⟨z, p, dz, { v with moveTime := m, emptyTime := e }, rfl, upd_same, fun H' e' k => ⟨rfl, ?_⟩⟩
    have mm := made (ts := ts) (v := { v with moveTime := m, emptyTime := e }) nz nd L.lst L.win (GoodL.speed L.good hv) e' k
    exact k2 H' z mm.1 mm.2
/-! ### bound_of -/
def sp_bound_of (C : Addr) : Sp := fun vs H Q _ => ∃ (a : Addr) (v : Kp396.Line), vs = [.ref a] ∧ LineAt C H a v ∧ Q (N (Kp396.periodBound v)) H
theorem max_int (a b : Nat) : V.int (if (b : Int) > (a : Int) then (b : Int) else (a : Int)) = N (max a b) := by
  congr 1
  split <;> omega
theorem ok_bound_of (T : Txt K mg) : FnOk P w K mg base CX0 1 T.d_bound_of.f T.d_bound_of.fd ["line"] (sp_bound_of T.CL) := by
  refine T.d_bound_of.F.ok sc_bound_of (fun vs H Q E h => ?_) (fun cdv A outer s H vs Q E hr h => ?_)
  · obtain ⟨a, v, rfl, _⟩ := h
    rfl
  · obtain ⟨a, v, rfl, ⟨dx, p, ts, L⟩, k⟩ := h
    refine ⟨_, (pss_cons (ps_set (i := 1) sc_bound_of.nd rfl (Or.inl rfl) (by exact (pe_callB (call_max2 rfl) (by rfl) T.n_max (by decide +kernel) (by exact (pa_cons (pe_op op_add (pe_fld (pv 0) rfl) (pe_fld (pv 0) rfl)) (pa_cons (pe_op op_mul (pe_op op_add (pe_callB call_len_seq (by rfl) T.n_len (by decide +kernel) (by exact (pa_cons (pe_fld (pv 0) rfl) pa_nil))) pe_int) (pe_fld (pv 0) rfl)) pa_nil))))))
    (pss_cons (ps_for PassesOwn.never rfl (pi_list (pe_fld (pv 0) rfl)) (pg_tup rfl (pgs_cons (pg_name (i := 2) sc_bound_of.nd rfl (Or.inl rfl)) (pgs_cons (pg_name (i := 3) sc_bound_of.nd rfl (Or.inl rfl)) pgs_nil))) (pss_one (ps_set (i := 1) sc_bound_of.nd rfl (Or.inl rfl) (by exact (pe_callB (call_max2 rfl) (by rfl) T.n_max (by decide +kernel) (by exact (pa_cons (pv 1) (pa_cons (pe_op op_add (pe_op op_add (pv 2) (pe_op op_mul pe_int (pe_fld (pv 0) rfl))) (pe_op op_mul pe_int (pe_fld (pv 0) rfl))) pa_nil))))))))
    (pss_one (ps_ret (pv 1))))), ?_⟩
    have g := L.good
    have hn := g.n4
    have hm := g.m9
    have hts : (RL ts).length = v.pits.length := by rw [List.length_map, Paired.len L.win]
    refine ⟨_, rfl, _, _, _, _, _, rfl, L.obj, T.cl, T.nMove, lk_move, _, rfl, _, _, _, _, _, rfl, L.obj, T.cl, T.nEmpty, lk_empty, _, _, rfl, rfl, _, rfl, _, _, _, _, _, rfl, L.obj, T.cl, T.nPits, lk_pits, p, _, rfl, .inl (SqL.of L.lst), _, _, rfl, rfl, _, rfl, _, _, _, _, _, rfl, L.obj, T.cl, T.nMove, lk_move, _, _, rfl, rfl, .inr ⟨by omega, by omega⟩, _, _, rfl, ?_⟩
    have e0 : V.int (if (((RL ts).length : Int) + 1) * (v.moveTime : Int) > (v.moveTime : Int) + (v.emptyTime : Int) then (((RL ts).length : Int) + 1) * (v.moveTime : Int) else (v.moveTime : Int) + (v.emptyTime : Int)) = N (boundTo v 0) := by
      rw [hts, boundTo_zero, ← max_int]
      rw [Int.natCast_mul, Int.natCast_add, Int.natCast_add]
      rfl
    refine ⟨_, rfl, _, _, _, _, _, rfl, L.obj, T.cl, T.nPits, lk_pits, p, rfl, ⟨_, SqL.of L.lst⟩, for_list (K := K) (a := p) (xs := RL ts) (fun i σ H' => H' = H ∧ ∃ s2 s3, σ = [some (V.ref a), some (N (boundTo v i)), s2, s3]) ⟨rfl, none, none, by rw [← e0]; rfl⟩ (fun i σ H' _ hP => by rw [hP.1]; exact SqL.of L.lst) ?_ ?_⟩
    · rintro i x σ H' hi ⟨rfl, s2, s3, rfl⟩
      obtain ⟨t, ht, rfl⟩ := map_at hi
      obtain ⟨wd, hw, hW⟩ := Paired.getL L.win ht
      have gw := g.ws wd (List.mem_of_getElem? hw)
      refine ⟨t, _, rfl, SqT.of hW, rfl, _, _, rfl, _, _, rfl, rfl, ?_⟩
      refine ⟨_, rfl, _, rfl, _, rfl, _, _, _, _, _, rfl, L.obj, T.cl, T.nMove, lk_move, _, _, rfl, rfl, .inl ⟨by decide, by decide⟩, _, _, rfl, rfl, _, rfl, _, _, _, _, _, rfl, L.obj, T.cl, T.nEmpty, lk_empty, _, _, rfl, rfl, .inl ⟨by decide, by decide⟩, _, _, rfl, rfl, _, _, rfl, rfl, some (N wd.least), some (N wd.most), ?_⟩
      have e1 : V.int (if (wd.least : Int) + 2 * (v.moveTime : Int) + 2 * (v.emptyTime : Int) > (boundTo v i : Int) then (wd.least : Int) + 2 * (v.moveTime : Int) + 2 * (v.emptyTime : Int) else (boundTo v i : Int)) = N (boundTo v (i + 1)) := by
        rw [boundTo_succ v hw, ← max_int]
        rw [Int.natCast_add, Int.natCast_add, Int.natCast_mul, Int.natCast_mul]
        rfl
      rw [← e1]
      rfl
    · rintro σ H' ⟨rfl, s2, s3, rfl⟩
      refine ⟨_, rfl, ?_⟩
      rw [hts, boundTo_end]
      exact k
/-! ### starts_of -/
def sp_starts_of (C : Addr) : Sp := fun vs H Q _ => ∃ (a p : Addr) (v : Kp396.Line) (l : List Nat), vs = [.ref a, .ref p] ∧ LineAt C H a v ∧ PlanIn H p l ∧ l.length ≤ 1000 ∧
  ∀ (H' : Hp) (q : Addr), Same H H' → PlanIn H' q (Kp396.startTimes v l) → Q (.ref q) H'
theorem ok_starts_of (T : Txt K mg) : FnOk P w K mg base CX0 1 T.d_starts_of.f T.d_starts_of.fd ["line", "plan"] (sp_starts_of T.CL) := by
  refine T.d_starts_of.F.ok sc_starts_of (fun vs H Q E h => ?_) (fun cdv A outer s H vs Q E hr h => ?_)
  · obtain ⟨a, p, v, l, rfl, _⟩ := h
    rfl
  · obtain ⟨a, pl, v, l, rfl, ⟨dx, p, ts, L⟩, hp, hl, k⟩ := h
    refine ⟨_, (pss_cons (ps_set (i := 2) sc_starts_of.nd rfl (Or.inl rfl) (by exact (pe_lst (by exact (pa_cons pe_int pa_nil)))))
    (pss_cons (ps_for PassesOwn.never rfl (pi_list (pv 1)) (pg_name (i := 3) sc_starts_of.nd rfl (Or.inl rfl)) (pss_one (ps_expr (pe_bm PySem.F.plainAttrs_list PySem.F.slot_list_append PySem.F.type_list_append mt_append (pv 2) (by exact (pa_cons (pe_op op_add (pe_op op_add (pe_ix ix_list (pv 2) (pe_un un_neg pe_int) (fun _ _ => rfl)) (pe_fld (pv 0) rfl)) (pv 3)) pa_nil))))))
    (pss_one (ps_ret (pv 2))))), ?_⟩
    refine ⟨(by show 1 ≤ sizeLine; decide), fun q hq => ?_⟩
    have s1 := Same.new (o := .lst [V.int 0]) hq
    refine ⟨_, rfl, pl, rfl, ⟨_, SqL.of (s1 _ _ hp)⟩, for_list (K := K) (a := pl) (xs := NL l) (fun i σ H' => Same H H' ∧ PlanIn H' q (Kp396.startTimes v (l.take i)) ∧ ∃ s3, σ = [some (V.ref a), some (V.ref pl), some (V.ref q), s3])
      ⟨s1, (by show upd H q _ q = _; rw [upd_same]; simp [Kp396.startTimes]), _, rfl⟩ (fun i σ H' _ hP => SqL.of (hP.1 _ _ hp)) ?_ ?_⟩
    · rintro i x σ H' hi ⟨sm, hq', s3, rfl⟩
      obtain ⟨st, hst, rfl⟩ := map_at hi
      have hil : i < l.length := by
        rcases Nat.lt_or_ge i l.length with h | h
        · exact h
        · rw [List.getElem?_eq_none h] at hst
          cases hst
      have hlast : (NL (Kp396.startTimes v (l.take i)))[(NL (Kp396.startTimes v (l.take i))).length - 1]? = some (N ((l.take i).sum + (l.take i).length * v.moveTime)) := by
        have e := times_last v (l.take i)
        rw [List.length_map]
        exact at_map e
      have L' := L.same sm
      refine ⟨_, rfl, .inl ⟨rfl, _, SqL.of hq'⟩, _, rfl, _, rfl, q, _, _, _, rfl, rfl, SqL.of hq', at_end hlast, _, rfl, _, _, _, _, _, rfl, L'.obj, T.cl, T.nMove, lk_move, _, _, rfl, rfl, _, rfl, _, _, rfl, rfl, q, _, _, rfl, rfl, hq', ?_, ?_⟩
      · rw [List.length_map, times_len, List.length_take]
        exact small (by omega)
      · refine ⟨Same.put sm hq, ?_, some (N st), rfl⟩
        show upd _ _ _ _ = _
        rw [upd_same, take_more hst, times_snoc, NL, NL, List.map_append]
        congr 3
        show [V.int _] = [V.int _]
        congr 2
        rw [Nat.add_mul, Nat.one_mul]
        omega
    · rintro σ H' ⟨sm, hq', s3, rfl⟩
      rw [List.length_map, List.take_length] at hq'
      exact ⟨_, rfl, k H' q sm hq'⟩
end
end Hm

/-! Moves and conflicts. -/
namespace Hm
open PySem PySem.Spec PyProof.Rows L2
theorem rng_lo (n : Nat) : -(2 ^ 62) ≤ (n : Int) := by
  have e : (2 : Int) ^ 62 = 4611686018427387904 := by decide
  omega
theorem rng_hi {n : Nat} (h : n ≤ 10000000) : (n : Int) < 2 ^ 62 := by
  have e : (2 : Int) ^ 62 = 4611686018427387904 := by decide
  omega
section
variable {P : Program} {w : World} {K : PySem.W.Frag} {mg : Str → Option Value} {base : Heap}
def sp_needed_time (C : Addr) : Sp := fun vs H Q _ => ∃ (a : Addr) (v : Kp396.Line) (i j : Nat), vs = [.ref a, N i, N j] ∧ LineAt C H a v ∧ Q (N (v.moveTime + Kp396.emptyMove v (i + 1) j)) H
theorem ok_needed_time (T : Txt K mg) : FnOk P w K mg base CX0 1 T.d_needed_time.f T.d_needed_time.fd ["line", "first", "second"] (sp_needed_time T.CL) := by
  refine T.d_needed_time.F.ok sc_needed_time (fun vs H Q E h => ?_) (fun cdv A outer s H vs Q E hr h => ?_)
  · obtain ⟨a, v, i, j, rfl, _⟩ := h
    rfl
  · obtain ⟨a, v, i, j, rfl, ⟨dx, p, ts, L⟩, k⟩ := h
    refine ⟨_, (pss_one (ps_ret (pe_op op_add (pe_fld (pv 0) rfl) (pe_op op_mul (pe_fld (pv 0) rfl) (pe_callB call_abs (by rfl) T.n_abs (by decide +kernel) (by exact (pa_cons (pe_op op_sub (pv 2) (pe_op op_add (pv 1) pe_int)) pa_nil))))))), ?_⟩
    have he := L.good.e4
    refine ⟨_, rfl, _, _, _, _, _, rfl, L.obj, T.cl, T.nMove, lk_move, _, rfl, _, _, _, _, _, rfl, L.obj, T.cl, T.nEmpty, lk_empty, _, rfl, _, rfl, _, _, rfl, rfl, _, _, rfl, rfl, _, rfl, _, _, rfl, rfl, mulOk (by omega), _, _, rfl, rfl, ?_⟩
    refine int_eq ?_ k
    rw [Int.natCast_add, emptyMove_int]
    rfl
def sp_is_too_early (C : Addr) : Sp := fun vs H Q _ => ∃ (a q : Addr) (v : Kp396.Line) (p i j : Nat) (xs : List Nat), vs = [.ref a, N p, .ref q, N i, N j] ∧ LineAt C H a v ∧ PlanIn H q xs ∧ 0 < p ∧ i < xs.length ∧ j < xs.length ∧
  Q (.bl (early v p i (xs.getD i 0) j (xs.getD j 0))) H
theorem ok_is_too_early (T : Txt K mg) : FnOk P w K mg base CX0 2 T.d_is_too_early.f T.d_is_too_early.fd ["line", "period", "starts", "first", "second"] (sp_is_too_early T.CL) := by
  refine T.d_is_too_early.F.ok sc_is_too_early (fun vs H Q E h => ?_) (fun cdv A outer s H vs Q E hr h => ?_)
  · obtain ⟨a, q, v, p, i, j, xs, rfl, _⟩ := h
    rfl
  · obtain ⟨a, q, v, p, i, j, xs, rfl, hL, hq, hp, hi, hj, k⟩ := h
    refine ⟨_, (pss_one (ps_ret (pe_cmpR op_lt (pe_op op_mod (pe_op op_sub (pe_ix ix_list (pv 2) (pv 4) (fun _ _ => rfl)) (pe_ix ix_list (pv 2) (pv 3) (fun _ _ => rfl))) (pv 1)) (pe_call (ok_needed_time T) (hr.mono (by decide)) (by rfl) T.d_needed_time.g T.d_needed_time.F.kp T.d_needed_time.b .nil pass0 (by exact (pa_cons (pv 0) (pa_cons (pv 3) (pa_cons (pv 4) pa_nil))))) (nomark _)))), ?_⟩
    exact ⟨_, rfl, _, rfl, q, _, _, _, rfl, rfl, SqL.of hq, atI_nat (nl_at hj), _, rfl, _, rfl, q, _, _, _, rfl, rfl, SqL.of hq, atI_nat (nl_at hi), _, _, rfl, rfl, _, rfl, _, _, rfl, rfl, (by show (0 : Int) < (p : Int); omega),
      _, rfl, _, rfl, _, rfl, a, v, i, j, rfl, hL, _, _, rfl, rfl, k⟩
def sp_do_conflict (C : Addr) : Sp := fun vs H Q _ => ∃ (a q : Addr) (v : Kp396.Line) (p i j : Nat) (xs : List Nat), vs = [.ref a, N p, .ref q, N i, N j] ∧ LineAt C H a v ∧ PlanIn H q xs ∧ 0 < p ∧ i < xs.length ∧ j < xs.length ∧
  Q (.bl (!Kp396.movesFit v p i (xs.getD i 0) j (xs.getD j 0))) H
theorem ok_do_conflict (T : Txt K mg) : FnOk P w K mg base CX0 3 T.d_do_conflict.f T.d_do_conflict.fd ["line", "period", "starts", "first", "second"] (sp_do_conflict T.CL) := by
  refine T.d_do_conflict.F.ok sc_do_conflict (fun vs H Q E h => ?_) (fun cdv A outer s H vs Q E hr h => ?_)
  · obtain ⟨a, q, v, p, i, j, xs, rfl, _⟩ := h
    rfl
  · obtain ⟨a, q, v, p, i, j, xs, rfl, hL, hq, hp, hi, hj, k⟩ := h
    refine ⟨_, (pss_one (ps_ret (pe_or (pe_call (ok_is_too_early T) (hr.mono (by decide)) (by rfl) T.d_is_too_early.g T.d_is_too_early.F.kp T.d_is_too_early.b .nil pass0 (by exact (pa_cons (pv 0) (pa_cons (pv 1) (pa_cons (pv 2) (pa_cons (pv 3) (pa_cons (pv 4) pa_nil))))))) (pe_one (pe_call (ok_is_too_early T) (hr.mono (by decide)) (by rfl) T.d_is_too_early.g T.d_is_too_early.F.kp T.d_is_too_early.b .nil pass0 (by exact (pa_cons (pv 0) (pa_cons (pv 1) (pa_cons (pv 2) (pa_cons (pv 4) (pa_cons (pv 3) pa_nil))))))))))), ?_⟩
    refine q_or (c1 := early v p i (xs.getD i 0) j (xs.getD j 0)) (c2 := early v p j (xs.getD j 0) i (xs.getD i 0))
      (fun R r => ⟨_, rfl, _, rfl, _, rfl, _, rfl, _, rfl, a, q, v, p, i, j, xs, rfl, hL, hq, hp, hi, hj, r⟩)
      (fun R r => ⟨_, rfl, _, rfl, _, rfl, _, rfl, _, rfl, a, q, v, p, j, i, xs, rfl, hL, hq, hp, hj, hi, r⟩) ?_
    rw [fit_eq v p i _ j _ hp hL.good.m1, Bool.not_not] at k
    exact k
/-! ### conflicts -/
def sp_conflicts (C : Addr) : Sp := fun vs H Q _ => ∃ (a pl : Addr) (v : Kp396.Line) (p : Nat) (l : List Nat), vs = [.ref a, N p, .ref pl] ∧ LineAt C H a v ∧ PlanIn H pl l ∧ l.length ≤ 100 ∧ 0 < p ∧
  ∀ (H' : Hp) (r : Addr) (ts : List Addr), Same H H' → H' r = some (.lst (RL ts)) → Paired (PairIn H') ts (confs v p l) → Q (.ref r) H'
theorem ok_conflicts (T : Txt K mg) : FnOk P w K mg base CX0 4 T.d_conflicts.f T.d_conflicts.fd ["line", "period", "plan"] (sp_conflicts T.CL) := by
  refine T.d_conflicts.F.ok sc_conflicts (fun vs H Q E h => ?_) (fun cdv A outer s H vs Q E hr h => ?_)
  · obtain ⟨a, pl, v, p, l, rfl, _⟩ := h
    rfl
  · obtain ⟨a, pl, v, p, l, rfl, hL, hpl, hl, hp, k⟩ := h
    refine ⟨_, (pss_cons (ps_set (i := 3) sc_conflicts.nd rfl (Or.inl rfl) (by exact (pe_call (ok_starts_of T) (hr.mono (by decide)) (by rfl) T.d_starts_of.g T.d_starts_of.F.kp T.d_starts_of.b .nil pass0 (by exact (pa_cons (pv 0) (pa_cons (pv 2) pa_nil))))))
    (pss_cons (ps_set (i := 4) sc_conflicts.nd rfl (Or.inl rfl) (by exact (pe_lst (by exact pa_nil))))
    (pss_cons (ps_for PassesOwn.never rfl (pi_range1 (by rfl) T.n_range (by exact (pa_cons (pe_callB call_len_seq (by rfl) T.n_len (by decide +kernel) (by exact (pa_cons (pv 3) pa_nil))) pa_nil))) (pg_name (i := 5) sc_conflicts.nd rfl (Or.inl rfl)) (pss_one (ps_for PassesOwn.never rfl (pi_range2 (by rfl) T.n_range (by exact (pa_cons (pe_op op_add (pv 5) pe_int) (pa_cons (pe_callB call_len_seq (by rfl) T.n_len (by decide +kernel) (by exact (pa_cons (pv 3) pa_nil))) pa_nil)))) (pg_name (i := 6) sc_conflicts.nd rfl (Or.inl rfl)) (pss_one (ps_if (pt_val (pe_call (ok_do_conflict T) (hr.mono (by decide)) (by rfl) T.d_do_conflict.g T.d_do_conflict.F.kp T.d_do_conflict.b .nil pass0 (by exact (pa_cons (pv 0) (pa_cons (pv 1) (pa_cons (pv 3) (pa_cons (pv 5) (pa_cons (pv 6) pa_nil)))))))) (pss_one (ps_expr (pe_bm PySem.F.plainAttrs_list PySem.F.slot_list_append PySem.F.type_list_append mt_append (pv 4) (by exact (pa_cons (pe_tup (by exact (pa_cons (pv 5) (pa_cons (pv 6) pa_nil)))) pa_nil))))) pss_nil)))))
    (pss_one (ps_ret (pv 4)))))), ?_⟩
    refine ⟨_, rfl, _, rfl, a, pl, v, l, rfl, hL, hpl, by omega, fun H1 q s1 hq => ?_⟩
    refine ⟨(by show 0 ≤ sizeLine; decide), fun f hf => ?_⟩
    have hlen : (NL (Kp396.startTimes v l)).length = l.length + 1 := by rw [List.length_map, times_len]
    have s2 : Same H1 (upd H1 f (.lst [])) := Same.new hf
    refine ⟨_, rfl, q, _, rfl, .inl (SqL.of (s2 _ _ hq)), _, rfl, rng_lo _, rng_hi (by omega), for_range (lo := 0) (n := (NL (Kp396.startTimes v l)).length) (fun i σ H' => Same H1 H' ∧
      ∃ ts s5 s6, σ = [some (V.ref a), some (N p), some (V.ref pl), some (V.ref q), some (V.ref f), s5, s6] ∧ H' f = some (.lst (RL ts)) ∧ Paired (PairIn H') ts (Hm.outer v p l i)) ⟨s2, [], none, none, rfl, upd_same, .nil⟩ ?_ ?_⟩
    · rintro i σ H' hi ⟨sm, ts, s5, s6, rfl, hfl, hts⟩
      rw [hlen] at hi
      rw [Int.zero_add]
      have hn : (((NL (Kp396.startTimes v l)).length : Int) - ((i : Int) + 1)).toNat = l.length + 1 - (i + 1) := by omega
      refine ⟨_, rfl, _, _, rfl, rfl, _, rfl, q, _, rfl, .inl (SqL.of (sm _ _ hq)), _, _, rfl, ⟨rng_lo (i + 1), rng_hi (n := i + 1) (by omega), rng_lo _, rng_hi (by omega)⟩,
        for_range (lo := (i : Int) + 1) (n := (((NL (Kp396.startTimes v l)).length : Int) - ((i : Int) + 1)).toNat) (fun m σ H'' => Same H1 H'' ∧
        ∃ ts s6, σ = [some (V.ref a), some (N p), some (V.ref pl), some (V.ref q), some (V.ref f), some (N i), s6] ∧ H'' f = some (.lst (RL ts)) ∧ Paired (PairIn H'') ts (Hm.outer v p l i ++ Hm.inner v p l i m))
        ⟨sm, ts, s6, rfl, hfl, by rw [inner_zero, List.append_nil]; exact hts⟩ ?_ ?_⟩
      · rintro m σ H2 hm ⟨sm2, ts2, s6', rfl, hfl2, hts2⟩
        rw [hn] at hm
        rw [show (i : Int) + 1 + (m : Int) = ((i + 1 + m : Nat) : Int) by omega]
        have hb0 : l.length = l.length := rfl
        refine ⟨_, rfl, _, rfl, _, rfl, _, rfl, _, rfl, a, q, v, p, i, i + 1 + m, Kp396.startTimes v l, rfl, (hL.same s1).same sm2, sm2 _ _ hq, hp, by rw [times_len]; omega, by rw [times_len]; omega, _, rfl, ifb (fun hb => ?_) (fun hb => ?_)⟩
        · have hb' : bad v p l (i, i + 1 + m) = true := hb
          refine ⟨_, rfl, .inl ⟨rfl, _, SqL.of hfl2⟩, _, rfl, _, rfl, (by show 2 ≤ sizeLine; decide), fun t ht => ?_⟩
          have s3 : Same H2 (upd H2 t (.tup [N i, N (i + 1 + m)])) := Same.new ht
          refine ⟨f, _, _, rfl, rfl, s3 _ _ hfl2, ?_, Same.put (sm2.trans s3) hf, ts2 ++ [t], some (N (i + 1 + m)), rfl, ?_, ?_⟩
          · have e1 := Paired.len hts2
            have e2 := outer_len v p l i
            have e3 := inner_len v p l i m
            have e4 : i * (l.length + 1) ≤ 101 * 101 := Nat.mul_le_mul (by omega) (by omega)
            rw [List.length_append] at e1
            rw [List.length_map]
            exact small (by omega)
          · show upd _ _ _ _ = _
            rw [upd_same, RL, RL, List.map_append]
            rfl
          · rw [inner_succ, if_pos hb', ← List.append_assoc]
            refine Paired.mapP (Paired.app (Paired.sameX s3 hts2) (Paired.one (y := (i, i + 1 + m)) (show PairIn _ t (i, i + 1 + m) from upd_same))) fun x y z => ?_
            show upd _ _ _ _ = _
            rw [upd_ne (ne_of z (s3 _ _ hfl2) (by intro z; cases z))]
            exact z
        · have hb' : bad v p l (i, i + 1 + m) = false := hb
          refine ⟨sm2, ts2, some (N (i + 1 + m)), rfl, hfl2, ?_⟩
          rw [inner_succ, hb', if_neg Bool.false_ne_true, List.append_nil]
          exact hts2
      · rintro σ H2 ⟨sm2, ts2, s6', rfl, hfl2, hts2⟩
        rw [hn, ← outer_succ] at hts2
        exact ⟨sm2, ts2, some (N i), s6', rfl, hfl2, hts2⟩
    · rintro σ H' ⟨sm, ts, s5, s6, rfl, hfl, hts⟩
      rw [hlen, confs_eq] at hts
      exact ⟨_, rfl, k H' f ts (s1.trans sm) hfl hts⟩
/-! ### single tests -/
def sp_is_within : Sp := fun vs H Q _ => ∃ (t : Addr) (wd : Kp396.Window) (x p : Nat), vs = [.ref t, N x, N p] ∧ WinIn H t wd ∧ Q (.bl (within p wd x)) H
theorem ok_is_within (T : Txt K mg) : FnOk P w K mg base CX0 1 T.d_is_within.f T.d_is_within.fd ["window", "stay", "period"] sp_is_within := by
  refine T.d_is_within.F.ok sc_is_within (fun vs H Q E h => ?_) (fun cdv A outer s H vs Q E hr h => ?_)
  · obtain ⟨t, wd, x, p, rfl, _⟩ := h
    rfl
  · obtain ⟨t, wd, x, p, rfl, hW, k⟩ := h
    refine ⟨_, (pss_one (ps_ret (pe_and (pe_chain op_le op_le (pe_ix ix_tup (pv 0) pe_int (fun _ _ => rfl)) (pv 1) (pe_ix ix_tup (pv 0) pe_int (fun _ _ => rfl))) (pe_one (pe_cmpR op_lt (pv 1) (pv 2) (nomark _)))))), ?_⟩
    refine q_and (c1 := decide ((wd.least : Int) ≤ (x : Int)) && decide ((x : Int) ≤ (wd.most : Int))) (c2 := decide ((x : Int) < (p : Int))) (fun R r => ?_) (fun R r => ⟨_, rfl, _, rfl, _, _, rfl, rfl, r⟩) ?_
    · refine ⟨_, rfl, t, _, _, _, rfl, rfl, SqT.of hW, rfl, _, rfl, _, _, rfl, rfl, _, rfl, ifb (fun hb => ?_) (fun hb => ?_)⟩
      · rw [hb, Bool.true_and] at r
        exact ⟨_, rfl, t, _, _, _, rfl, rfl, SqT.of hW, rfl, _, _, rfl, rfl, r⟩
      · rw [hb, Bool.false_and] at r
        exact r
    · refine bl_eq ?_ k
      unfold within
      rw [Bool.eq_iff_iff]
      simp only [Bool.and_eq_true, decide_eq_true_eq]
      omega
def sp_may_repeat (C : Addr) : Sp := fun vs H Q _ => ∃ (a : Addr) (v : Kp396.Line) (p : Nat), vs = [.ref a, N p] ∧ LineAt C H a v ∧ Q (.bl (Kp396.singleMoveFits v p)) H
theorem ok_may_repeat (T : Txt K mg) : FnOk P w K mg base CX0 1 T.d_may_repeat.f T.d_may_repeat.fd ["line", "period"] (sp_may_repeat T.CL) := by
  refine T.d_may_repeat.F.ok sc_may_repeat (fun vs H Q E h => ?_) (fun cdv A outer s H vs Q E hr h => ?_)
  · obtain ⟨a, v, p, rfl, _⟩ := h
    rfl
  · obtain ⟨a, v, p, rfl, ⟨dx, q, ts, L⟩, k⟩ := h
    refine ⟨_, (pss_one (ps_ret (pe_cmpR op_le (pe_op op_add (pe_fld (pv 0) rfl) (pe_fld (pv 0) rfl)) (pv 1) (nomark _)))), ?_⟩
    refine ⟨_, rfl, _, _, _, _, _, rfl, L.obj, T.cl, T.nMove, lk_move, _, rfl, _, _, _, _, _, rfl, L.obj, T.cl, T.nEmpty, lk_empty, _, _, rfl, rfl, _, rfl, _, _, rfl, rfl, ?_⟩
    refine bl_eq ?_ k
    unfold Kp396.singleMoveFits
    rw [Bool.eq_iff_iff]
    simp only [decide_eq_true_eq]
    omega
end
end Hm

/-! Plans. -/
namespace Hm
open PySem PySem.Spec PyProof.Rows L2
/-- if t and u -/
theorem if_and {t u : TT} {a b : TS} {D : Ends} {σ : L2.St} {H : Hp} {c1 c2 : Bool} (h1 : ∀ R : Bool → Hp → Prop, R c1 H → t σ H R) (h2 : ∀ R : Bool → Hp → Prop, (∀ H', Same H H' → R c2 H') → u σ H R)
    (q : ∀ H', Same H H' → if (c1 && c2) = true then a D σ H' else b D σ H') : tIfS (tAnd t u) a b D σ H := by
  refine h1 _ (ifb (fun e => ?_) (fun e => ?_))
  · subst e
    exact h2 _ q
  · subst e
    exact q H (Same.refl H)
theorem yes_then {σ : L2.St} {H : Hp} {A B : Hp → Prop} (h : A H) : tYes σ H (fun b H3 => if b = true then A H3 else B H3) := by
  show if true = true then A H else B H
  rw [if_pos rfl]
  exact h
theorem plan_ne {H : Hp} {q f : Addr} {l : List Nat} {fs : List Addr} (h : PlanIn H q l) (hl : l ≠ []) (hf : H f = some (.lst (RL fs))) : q ≠ f := by
  refine ne_of h hf fun z => ?_
  injection z with z
  cases l with
  | nil => exact hl rfl
  | cons x r =>
    cases fs with
    | nil => cases z
    | cons y r' =>
      injection z with z1 _
      cases z1
theorem plans_put {H : Hp} {f : Addr} {fs : List Addr} {o : HO} (hf : H f = some (.lst (RL fs))) : ∀ {qs : List Addr} {ps : List (List Nat)}, Paired (PlanIn H) qs ps → (∀ l ∈ ps, l ≠ []) → Paired (PlanIn (upd H f o)) qs ps
  | _, _, .nil, _ => .nil
  | _, _, .cons r t, h => .cons (by
      show upd H f o _ = _
      rw [upd_ne (plan_ne r (h _ (List.mem_cons_self ..)) hf)]
      exact r) (plans_put hf t fun l hl => h l (List.mem_cons_of_mem _ hl))
theorem pext_ne {v : Kp396.Line} {p : Nat} {l r : List Nat} {i : Nat} (h : r ∈ pext v p l i) : r ≠ [] := by
  unfold pext at h
  obtain ⟨j, _, e⟩ := List.mem_map.mp (List.mem_filter.mp h).1
  intro z
  rw [z] at e
  simp at e
theorem sext_ne {v : Kp396.Line} {p : Nat} {l r : List Nat} (h : r ∈ sext v p l) : r ≠ [] := by
  have := (sext_good h).2
  intro z
  rw [z] at this
  simp at this
section
variable {P : Program} {w : World} {K : PySem.W.Frag} {mg : Str → Option Value} {base : Heap}
/-! ### is_feasible, does_fit -/
def sp_is_feasible (C : Addr) : Sp := fun vs H Q _ => ∃ (a pl : Addr) (v : Kp396.Line) (p : Nat) (l : List Nat), vs = [.ref a, N p, .ref pl] ∧ LineAt C H a v ∧ PlanIn H pl l ∧ l.length = v.pits.length ∧ 0 < p ∧
  ∀ H' : Hp, Same H H' → Q (.bl (Kp396.isFeasible v p l)) H'
theorem pairs_data {K : PySem.W.Frag} {H : Hp} : ∀ {ts : List Addr} {xs : List (Nat × Nat)}, Paired (PairIn H) ts xs → DpAll K H (RL ts) (xs.map fun x => PyData.tuple [.int x.1, .int x.2])
  | _, _, .nil => .nil
  | _, _, .cons r t => .cons (.tup (SqT.of r) (.cons (.int _) (.cons (.int _) .nil))) (pairs_data t)
theorem pairs_lay : ∀ xs : List (Nat × Nat), PyData.canLayAll0 (xs.map fun x => PyData.tuple [.int x.1, .int x.2]) = true
  | [] => by simp [PyData.canLayAll0]
  | x :: xs => by
    have ih := pairs_lay xs
    simp only [List.map_cons, PyData.canLayAll0, PyData.canLay0, ih, Bool.and_self]
theorem pairs_deep : ∀ xs : List (Nat × Nat), PyData.depthAll (xs.map fun x => PyData.tuple [.int x.1, .int x.2]) ≤ 3
  | [] => by simp [PyData.depthAll]
  | x :: xs => by
    have ih := pairs_deep xs
    simp only [List.map_cons, PyData.depthAll, PyData.depth]
    omega
theorem pairs_shaped (xs : List (Nat × Nat)) : SeqAt.shaped (PyData.list (xs.map fun x => PyData.tuple [.int x.1, .int x.2])) = true := by
  have h1 := pairs_lay xs
  have h2 := pairs_deep xs
  unfold SeqAt.shaped
  rw [Bool.and_eq_true, decide_eq_true_eq]
  refine ⟨?_, ?_⟩
  · simp only [PyData.canLay0, h1]
  · simp only [PyData.depth]
    omega
theorem pairs_eqv (xs : List (Nat × Nat)) : PyData.eqv (PyData.list (xs.map fun x => PyData.tuple [.int x.1, .int x.2])) (.list []) = decide (xs = []) := by
  cases xs <;> simp [PyData.eqv, PyData.eqvAll]
theorem ok_is_feasible (T : Txt K mg) : FnOk P w K mg base CX0 5 T.d_is_feasible.f T.d_is_feasible.fd ["line", "period", "plan"] (sp_is_feasible T.CL) := by
  refine T.d_is_feasible.F.ok sc_is_feasible (fun vs H Q E h => ?_) (fun cdv A outer s H vs Q E hr h => ?_)
  · obtain ⟨a, pl, v, p, l, rfl, _⟩ := h
    rfl
  · obtain ⟨a, pl, v, p, l, rfl, ⟨dx, q, ts, L⟩, hpl, hl, hp, k⟩ := h
    refine ⟨_, (pss_cons (ps_if (pt_not (pt_val (pe_callB (cr_all rfl) (by rfl) T.n_all (by decide +kernel) (by exact (pa_cons (pe_lc (own := [("window", 3), ("stay", 4)]) (g := (gTup K 2 (gCons (gName 3) (gCons (gName 4) gNil)))) (tt := tYes) rfl sc_is_feasible.nd (pi_zip (by rfl) T.n_zip (by exact (pa_cons (pe_fld (pv 0) rfl) (pa_cons (pv 2) pa_nil)))) (blkOk_by (own := [("window", 3), ("stay", 4)]) (N := n_is_feasible) (sc := defScope s_is_feasible) (by decide +kernel)) (fun _ _ _ _ _ => (pg_tup rfl (pgs_cons (pg_name (i := 3) sc_is_feasible.nd rfl (Or.inl rfl)) (pgs_cons (pg_name (i := 4) sc_is_feasible.nd rfl (Or.inl rfl)) pgs_nil)))) (fun _ _ _ _ _ => pts_nil) (fun _ _ _ _ _ => (pe_call (ok_is_within T) (hr.mono (by decide)) (by rfl) T.d_is_within.g T.d_is_within.F.kp T.d_is_within.b .nil pass0 (by exact (pa_cons (pv 3) (pa_cons (pv 4) (pa_cons (pv 1) pa_nil))))))) pa_nil))))) (pss_one (ps_ret pe_bl)) pss_nil)
    (pss_one (ps_ret (pe_and (pe_call (ok_may_repeat T) (hr.mono (by decide)) (by rfl) T.d_may_repeat.g T.d_may_repeat.F.kp T.d_may_repeat.b .nil pass0 (by exact (pa_cons (pv 0) (pa_cons (pv 1) pa_nil)))) (pe_one (pe_cmpR (op_eqD hr.units) (pe_call (ok_conflicts T) (hr.mono (by decide)) (by rfl) T.d_conflicts.g T.d_conflicts.F.kp T.d_conflicts.b .nil pass0 (by exact (pa_cons (pv 0) (pa_cons (pv 1) (pa_cons (pv 2) pa_nil))))) (pe_lst (by exact pa_nil)) (nomark _))))))), ?_⟩
    have hts : (RL ts).length = v.pits.length := by rw [List.length_map, Paired.len L.win]
    have hn := L.good.n4
    have hz : (v.pits.zip l).length = v.pits.length := by rw [List.length_zip]; omega
    refine ⟨_, rfl, _, _, _, _, _, rfl, L.obj, T.cl, T.nPits, lk_pits, _, rfl, q, pl, _, _, rfl, SqL.of L.lst, SqL.of hpl, fun D hD => lc_zip (K := K) (xs := RL ts) (ys := NL l) (by rw [hts, List.length_map, hl])
      (fun i H' => Same H H' ∧ H' D = some (.lst (((v.pits.zip l).take i).map fun x => V.bl (within p x.1 x.2)))) ⟨Same.new hD, upd_same⟩ (fun i H' hP => ⟨SqL.of (hP.1 _ _ L.lst), SqL.of (hP.1 _ _ hpl)⟩) ?_ ?_⟩
    · intro i x y t H' hx hy hP ht
      obtain ⟨tw, htw, rfl⟩ := map_at hx
      obtain ⟨st, hst, rfl⟩ := map_at hy
      obtain ⟨wd, hw, hW⟩ := Paired.getL L.win htw
      have s3 : Same H' (upd H' t (.tup [V.ref tw, N st])) := Same.new ht
      have hzi : (v.pits.zip l)[i]? = some (wd, st) := by
        rw [List.getElem?_zip_eq_some]
        exact ⟨hw, hst⟩
      refine ⟨t, _, rfl, SqT.of upd_same, rfl, _, _, rfl, _, _, rfl, rfl, rfl, yes_then ?_⟩
      refine ⟨_, rfl, _, rfl, _, rfl, tw, wd, st, p, rfl, s3 _ _ (hP.1 _ _ hW), _, s3 _ _ hP.2, ?_, Same.put (hP.1.trans s3) hD, ?_⟩
      · rw [List.length_map, List.length_take]
        exact small (by omega)
      · rw [upd_same, take_more hzi, List.map_append]
        rfl
    · rintro H1 ⟨s1, hD1⟩
      rw [hts, ← hz, List.take_length] at hD1
      refine ⟨D, (v.pits.zip l).map fun x => within p x.1 x.2, rfl, SqL.of (by rw [hD1, List.map_map]; rfl), _, rfl, ?_⟩
      have ea : (List.all ((v.pits.zip l).map fun x => within p x.1 x.2) id) = (v.pits.zip l).all fun x => within p x.1 x.2 := by rw [List.all_map]; rfl
      rw [ea]
      refine ifb (fun hb => ?_) (fun hb => ?_)
      · have hb' : ((v.pits.zip l).all fun x => within p x.1 x.2) = false := by simpa using hb
        have kk := k H1 s1
        rw [feasible_eq v p l hl, hb', Bool.false_and] at kk
        exact kk
      · have hb' : ((v.pits.zip l).all fun x => within p x.1 x.2) = true := by simpa using hb
        have L1 := L.same s1
        have hL1 : LineAt T.CL H1 a v := ⟨dx, q, ts, L1⟩
        refine ⟨_, rfl, _, rfl, a, v, p, rfl, hL1, _, rfl, ifb (fun hm => ?_) (fun hm => ?_)⟩
        · refine ⟨_, rfl, _, rfl, _, rfl, a, pl, v, p, l, rfl, hL1, s1 _ _ hpl, by omega, hp, fun H2 r rs s2 hr2 hrs => ?_⟩
          refine ⟨(by show 0 ≤ sizeLine; decide), fun e he => ?_⟩
          have s3 : Same H2 (upd H2 e (.lst [])) := Same.new he
          refine ⟨_, _, .lst (SqL.of (s3 _ _ hr2)) (pairs_data (Paired.sameX s3 hrs)), .lst (SqL.of upd_same) .nil, pairs_shaped _, rfl, ?_⟩
          rw [pairs_eqv]
          have kk := k _ ((s1.trans s2).trans s3)
          rw [feasible_eq v p l hl, hb', hm, Bool.true_and, Bool.true_and] at kk
          exact kk
        · have kk := k _ s1
          rw [feasible_eq v p l hl, hm, Bool.false_and, Bool.and_false] at kk
          exact kk
def sp_does_fit (C : Addr) : Sp := fun vs H Q _ => ∃ (a pl : Addr) (v : Kp396.Line) (p : Nat) (l : List Nat), vs = [.ref a, N p, .ref pl] ∧ LineAt C H a v ∧ PlanIn H pl l ∧ l.length ≤ 100 ∧ 0 < p ∧
  ∀ H' : Hp, Same H H' → Q (.bl (fits v p l)) H'
theorem ok_does_fit (T : Txt K mg) : FnOk P w K mg base CX0 4 T.d_does_fit.f T.d_does_fit.fd ["line", "period", "plan"] (sp_does_fit T.CL) := by
  refine T.d_does_fit.F.ok sc_does_fit (fun vs H Q E h => ?_) (fun cdv A outer s H vs Q E hr h => ?_)
  · obtain ⟨a, pl, v, p, l, rfl, _⟩ := h
    rfl
  · obtain ⟨a, pl, v, p, l, rfl, hL, hpl, hl, hp, k⟩ := h
    refine ⟨_, (pss_cons (ps_set (i := 3) sc_does_fit.nd rfl (Or.inr rfl) (by exact (pe_call (ok_starts_of T) (hr.mono (by decide)) (by rfl) T.d_starts_of.g T.d_starts_of.F.kp T.d_starts_of.b .nil pass0 (by exact (pa_cons (pv 0) (pa_cons (pv 2) pa_nil))))))
    (pss_cons (ps_set (i := 4) sc_does_fit.nd rfl (Or.inr rfl) (by exact (pe_callB call_len_seq (by rfl) T.n_len (by decide +kernel) (by exact (pa_cons (pv 2) pa_nil)))))
    (pss_one (ps_ret (pe_not (pe_callB (cr_any rfl) (by rfl) T.n_any (by decide +kernel) (by exact (pa_cons (pe_lc (own := [("move", 5)]) (g := (gName 5)) (tt := tYes) rfl sc_does_fit.nd (pi_range1 (by rfl) T.n_range (by exact (pa_cons (pv 4) pa_nil))) (blkOk_by (own := [("move", 5)]) (N := n_does_fit) (sc := defScope s_does_fit) (by decide +kernel)) (fun _ _ _ _ _ => (pg_name (i := 5) sc_does_fit.nd rfl (Or.inl rfl))) (fun _ _ _ _ _ => pts_nil) (fun _ _ _ _ _ => (pe_call (ok_do_conflict T) (hr.mono (by decide)) (by rfl) T.d_do_conflict.g T.d_do_conflict.F.kp T.d_do_conflict.b .nil pass0 (by exact (pa_cons (pv 0) (pa_cons (pv 1) (pa_cons (pv 3) (pa_cons (pv 5) (pa_cons (pv 4) pa_nil))))))))) pa_nil)))))))), ?_⟩
    refine ⟨_, rfl, _, rfl, a, pl, v, l, rfl, hL, hpl, by omega, fun H1 q s1 hq => ?_⟩
    refine ⟨_, rfl, pl, _, rfl, .inl (SqL.of (s1 _ _ hpl)), ?_⟩
    refine ⟨_, rfl, _, rfl, rng_lo _, rng_hi (by rw [List.length_map]; omega), fun D hD => lc_range (lo := 0) (n := (NL l).length)
      (fun i H' => Same H1 H' ∧ H' D = some (.lst ((List.range i).map fun k => V.bl (bad v p l (k, l.length))))) ⟨Same.new hD, upd_same⟩ ?_ ?_⟩
    · rintro i H' hi ⟨sm, hD'⟩
      rw [List.length_map] at hi
      rw [Int.zero_add]
      refine ⟨rfl, yes_then ?_⟩
      refine ⟨_, rfl, _, rfl, _, rfl, _, rfl, _, rfl, a, q, v, p, i, l.length, Kp396.startTimes v l, ?_, (hL.same s1).same sm, sm _ _ hq, hp, by rw [times_len]; omega, by rw [times_len]; omega, _, hD', ?_, Same.put sm hD, ?_⟩
      · rw [List.length_map]
        rfl
      · rw [List.length_map, List.length_range]
        exact small (by omega)
      · rw [upd_same, List.range_succ, List.map_append]
        rfl
    · rintro H2 ⟨sm, hD2⟩
      rw [List.length_map] at hD2
      refine ⟨D, (List.range l.length).map fun k => bad v p l (k, l.length), rfl, SqL.of (by rw [hD2, List.map_map]; rfl), _, rfl, ?_⟩
      have e : (List.any ((List.range l.length).map fun k => bad v p l (k, l.length)) id) = (List.range l.length).any fun k => bad v p l (k, l.length) := by rw [List.any_map]; rfl
      rw [e]
      exact k H2 (s1.trans sm)
/-! ### longer_plans -/
def sp_longer_plans (C : Addr) : Sp := fun vs H Q _ => ∃ (a pl : Addr) (v : Kp396.Line) (p : Nat) (l : List Nat), vs = [.ref a, N p, .ref pl] ∧ LineAt C H a v ∧ PlanIn H pl l ∧ l.length < v.pits.length ∧ good v p l ∧ 0 < p ∧
  ∀ (H' : Hp) (r : Addr) (qs : List Addr), Same H H' → H' r = some (.lst (RL qs)) → Paired (PlanIn H') qs (sext v p l) → Q (.ref r) H'
theorem ok_longer_plans (T : Txt K mg) : FnOk P w K mg base CX0 5 T.d_longer_plans.f T.d_longer_plans.fd ["line", "period", "plan"] (sp_longer_plans T.CL) := by
  refine T.d_longer_plans.F.ok sc_longer_plans (fun vs H Q E h => ?_) (fun cdv A outer s H vs Q E hr h => ?_)
  · obtain ⟨a, pl, v, p, l, rfl, _⟩ := h
    rfl
  · obtain ⟨a, pl, v, p, l, rfl, ⟨dx, q, ts, L⟩, hpl, hl, hg, hp, k⟩ := h
    refine ⟨_, (pss_cons (ps_set (i := 3) sc_longer_plans.nd rfl (Or.inl rfl) (by exact (pe_ix ix_list (pe_fld (pv 0) rfl) (pe_callB call_len_seq (by rfl) T.n_len (by decide +kernel) (by exact (pa_cons (pv 2) pa_nil))) (fun _ _ => rfl))))
    (pss_cons (ps_set (i := 4) sc_longer_plans.nd rfl (Or.inl rfl) (by exact (pe_lst (by exact pa_nil))))
    (pss_cons (ps_for PassesOwn.never rfl (pi_range2 (by rfl) T.n_range (by exact (pa_cons (pe_ix ix_tup (pv 3) pe_int (fun _ _ => rfl)) (pa_cons (pe_op op_add (pe_ix ix_tup (pv 3) pe_int (fun _ _ => rfl)) pe_int) pa_nil)))) (pg_name (i := 5) sc_longer_plans.nd rfl (Or.inl rfl)) (pss_cons (ps_set (i := 6) sc_longer_plans.nd rfl (Or.inl rfl) (by exact (pe_op op_cat (pv 2) (pe_lst (by exact (pa_cons (pv 5) pa_nil))))))
    (pss_one (ps_if (PW.pt (pw_and (pt_val (pe_call (ok_is_within T) (hr.mono (by decide)) (by rfl) T.d_is_within.g T.d_is_within.F.kp T.d_is_within.b .nil pass0 (by exact (pa_cons (pv 3) (pa_cons (pv 5) (pa_cons (pv 1) pa_nil)))))) (pw_and1 (pt_val (pe_call (ok_does_fit T) (hr.mono (by decide)) (by rfl) T.d_does_fit.g T.d_does_fit.F.kp T.d_does_fit.b .nil pass0 (by exact (pa_cons (pv 0) (pa_cons (pv 1) (pa_cons (pv 6) pa_nil))))))))) (pss_one (ps_expr (pe_bm PySem.F.plainAttrs_list PySem.F.slot_list_append PySem.F.type_list_append mt_append (pv 4) (by exact (pa_cons (pv 6) pa_nil))))) pss_nil))))
    (pss_one (ps_ret (pv 4)))))), ?_⟩
    have hn := L.good.n4
    have gw := L.good.win hl
    have hwin : v.pits[l.length]? = some (Kp396.windowAt v l.length) := by
      unfold Kp396.windowAt
      rw [List.getD_eq_getElem?_getD, List.getElem?_eq_getElem hl]
      rfl
    generalize hwd : Kp396.windowAt v l.length = wd at gw hwin
    obtain ⟨t, htl, hW⟩ := Paired.get L.win hwin
    have hL : LineAt T.CL H a v := ⟨dx, q, ts, L⟩
    refine ⟨_, rfl, _, _, _, _, _, rfl, L.obj, T.cl, T.nPits, lk_pits, _, rfl, pl, _, rfl, .inl (SqL.of hpl), q, _, _, V.ref t, rfl, rfl, SqL.of L.lst, atI_nat (by rw [List.length_map]; exact at_map htl), ?_⟩
    refine ⟨(by show 0 ≤ sizeLine; decide), fun f hf => ?_⟩
    have s1 : Same H (upd H f (.lst [])) := Same.new hf
    have hcnt : ((wd.most : Int) + 1 - (wd.least : Int)).toNat = wd.most - wd.least + 1 := by have := gw.2.1; omega
    have h30 := gw.2.2.1
    have h01 := gw.2.1
    refine ⟨_, rfl, t, _, _, _, rfl, rfl, SqT.of (s1 _ _ hW), rfl, _, rfl, t, _, _, _, rfl, rfl, SqT.of (s1 _ _ hW), rfl, _, _, rfl, rfl, _, _, rfl, ⟨rng_lo _, rng_hi (by omega), rng_lo (wd.most + 1), rng_hi (n := wd.most + 1) (by omega)⟩,
      for_range (lo := (wd.least : Int)) (n := ((wd.most : Int) + 1 - (wd.least : Int)).toNat) (fun i σ H' => Same H H' ∧ ∃ qs s5 s6, σ = [some (V.ref a), some (N p), some (V.ref pl), some (V.ref t), some (V.ref f), s5, s6] ∧
        H' f = some (.lst (RL qs)) ∧ Paired (PlanIn H') qs (pext v p l i)) ⟨s1, [], none, none, rfl, upd_same, .nil⟩ ?_ ?_⟩
    · rintro i σ H' hi ⟨sm, qs, s5, s6, rfl, hfl, hqs⟩
      rw [hcnt] at hi
      rw [show (wd.least : Int) + (i : Int) = ((wd.least + i : Nat) : Int) by omega]
      refine ⟨_, rfl, _, rfl, (by show 1 ≤ sizeLine; decide), fun q1 h1 => ?_⟩
      have s2 : Same H' (upd H' q1 (.lst [N (wd.least + i)])) := Same.new h1
      refine ⟨pl, q1, _, _, rfl, rfl, s2 _ _ (sm _ _ hpl), upd_same, smallE (by rw [List.length_map]; show _ + 1 ≤ _; omega), fun g hg' => ?_⟩
      have s3 : Same (upd H' q1 (.lst [N (wd.least + i)])) (upd (upd H' q1 (.lst [N (wd.least + i)])) g (.lst (NL l ++ [N (wd.least + i)]))) := Same.new hg'
      have s23 := s2.trans s3
      have hgp : PlanIn (upd (upd H' q1 (.lst [N (wd.least + i)])) g (.lst (NL l ++ [N (wd.least + i)]))) g (l ++ [wd.least + i]) := by
        show upd _ _ _ _ = _
        rw [upd_same, NL, NL, List.map_append]
        rfl
      generalize hH3 : upd (upd H' q1 (.lst [N (wd.least + i)])) g (.lst (NL l ++ [N (wd.least + i)])) = H3 at s3 s23 hgp
      have s4 := sm.trans s23
      dsimp only [gName]
      refine if_and (c1 := within p wd (wd.least + i)) (c2 := fits v p (l ++ [wd.least + i])) (fun R r => ?_) (fun R r => ?_) (fun H4 s34 => ?_)
      · exact ⟨_, rfl, _, rfl, _, rfl, t, wd, wd.least + i, p, rfl, s4 _ _ hW, _, rfl, r⟩
      · exact ⟨_, rfl, _, rfl, _, rfl, a, g, v, p, l ++ [wd.least + i], rfl, hL.same s4, hgp, by rw [List.length_append]; show _ + 1 ≤ _; omega, hp, fun H4 s34 => ⟨_, rfl, r H4 s34⟩⟩
      · have s5' := s4.trans s34
        have hfl4 : H4 f = some (.lst (RL qs)) := s34 _ _ (s23 _ _ hfl)
        have hqs4 : Paired (PlanIn H4) qs (pext v p l i) := Paired.sameP (s23.trans s34) hqs
        have ec : within p wd (wd.least + i) = decide (wd.least + i < p) := by
          unfold within
          rw [decide_eq_true (show wd.least ≤ wd.least + i by omega), decide_eq_true (show wd.least + i ≤ wd.most by omega)]
          rfl
        have hsucc := pext_succ v p l i
        rw [hwd] at hsucc
        rw [ec]
        refine ifb (fun hb => ?_) (fun hb => ?_)
        · rw [if_pos hb] at hsucc
          refine ⟨_, rfl, .inl ⟨rfl, _, SqL.of hfl4⟩, _, rfl, f, _, _, rfl, rfl, hfl4, ?_, Same.put s5' hf, qs ++ [g], some (N (wd.least + i)), some (V.ref g), rfl, ?_, ?_⟩
          · rw [List.length_map, Paired.len hqs]
            have := pext_len v p l i
            exact small (by omega)
          · show upd _ _ _ _ = _
            rw [upd_same, RL, RL, List.map_append]
            rfl
          · rw [hsucc]
            refine plans_put hfl4 (Paired.app hqs4 (Paired.one (s34 _ _ hgp))) fun r hr => ?_
            rcases List.mem_append.mp hr with z | z
            · exact pext_ne z
            · rw [List.mem_singleton.mp z]
              simp
        · rw [hb, if_neg Bool.false_ne_true, List.append_nil] at hsucc
          exact ⟨s5', qs, some (N (wd.least + i)), some (V.ref g), rfl, hfl4, by rw [hsucc]; exact hqs4⟩
    · rintro σ H' ⟨sm, qs, s5, s6, rfl, hfl, hqs⟩
      rw [hcnt] at hqs
      have e := pext_eq v p l hg
      rw [hwd] at e
      rw [e] at hqs
      exact ⟨_, rfl, k H' f qs sm hfl hqs⟩
end
end Hm

/-! Plans and periods. -/
namespace Hm
open PySem PySem.Spec PyProof.Rows L2
theorem asg_way {te : TE} {g : TG} {D : Ends} {σ : L2.St} {H : Hp} {R : V → Hp → Prop} (h1 : ∀ Q : VK, (∀ x H1, R x H1 → Q x H1) → te σ H Q) (h2 : ∀ x H1, R x H1 → g x σ H1 D.nx) : tAsg te g D σ H := h1 _ h2
def plansTo (v : Kp396.Line) (p i : Nat) : List (List Nat) := if Kp396.singleMoveFits v p = true then Kp396.partialPlans v p i else []
theorem plansTo_succ (v : Kp396.Line) (p i : Nat) : plansTo v p (i + 1) = (plansTo v p i).flatMap (sext v p) := by
  unfold plansTo
  by_cases h : Kp396.singleMoveFits v p = true
  · rw [if_pos h, if_pos h]
    rfl
  · rw [if_neg h, if_neg h]
    rfl
theorem plansTo_good {v : Kp396.Line} {p i : Nat} {l : List Nat} (h : l ∈ plansTo v p i) : good v p l ∧ l.length = i := by
  unfold plansTo at h
  by_cases c : Kp396.singleMoveFits v p = true
  · rw [if_pos c] at h
    exact partial_good v p i l h
  · rw [if_neg c] at h
    cases h
theorem plansTo_len {v : Kp396.Line} (g : GoodL v) (p : Nat) {i : Nat} (hi : i ≤ 4) : (plansTo v p i).length ≤ 6561 := by
  unfold plansTo
  by_cases c : Kp396.singleMoveFits v p = true
  · rw [if_pos c]
    have h := partial_len g.w8 p i
    have h2 : 9 ^ i ≤ 9 ^ 4 := Nat.pow_le_pow_right (by decide) hi
    have h3 : 9 ^ 4 = 6561 := by decide
    omega
  · rw [if_neg c]
    simp
theorem flat_len {v : Kp396.Line} (g : GoodL v) (p : Nat) {i : Nat} (hi : i ≤ 4) (j : Nat) : (((plansTo v p i).take j).flatMap (sext v p)).length ≤ 59049 := by
  have h1 := flatMap_len (sext v p) 9 ((plansTo v p i).take j) fun l _ => Nat.le_trans (sext_len v p l) (window_bound g.w8 _)
  have h2 := plansTo_len g p hi
  have h3 : ((plansTo v p i).take j).length ≤ 6561 := Nat.le_trans (by rw [List.length_take]; exact Nat.min_le_right _ _) h2
  omega
theorem findSome_at {α β : Type} {f : α → Option β} {l : List α} {i : Nat} {x : α} {r : β} (h : l[i]? = some x) (h0 : (l.take i).findSome? f = none) (hf : f x = some r) : l.findSome? f = some r := by
  have hi : i < l.length := by
    rcases Nat.lt_or_ge i l.length with q | q
    · exact q
    · rw [List.getElem?_eq_none q] at h
      cases h
  have e : l = l.take i ++ x :: l.drop (i + 1) := by
    have e1 : l.drop i = l[i] :: l.drop (i + 1) := List.drop_eq_getElem_cons hi
    have e2 : l[i] = x := by
      rw [List.getElem?_eq_getElem hi] at h
      exact Option.some.inj h
    rw [← e2, ← e1, List.take_append_drop]
  rw [e, List.findSome?_append, h0]
  simp [List.findSome?_cons, hf]
theorem findSome_more {α β : Type} {f : α → Option β} {l : List α} {i : Nat} {x : α} (h : l[i]? = some x) (h0 : (l.take i).findSome? f = none) (hf : f x = none) : (l.take (i + 1)).findSome? f = none := by
  rw [take_more h, List.findSome?_append, h0]
  simp [List.findSome?_cons, hf]
section
variable {P : Program} {w : World} {K : PySem.W.Frag} {mg : Str → Option Value} {base : Heap}
/-- raise Refused(c), behind its argument -/
theorem raise_ok {CF : Addr} {c : Int} {H : Hp} {E : XK} (t : Thr CF c H E) : [V.int c].length ≤ 1000 ∧ ∀ a, H a = none → sp_refused_init CF (.ref a :: ([V.int c] ++ [])) (upd H a (exo a CF none))
    (fun v H2 => v = .non ∧ ∃ (d : Addr) (fs : List (Str × V)), H2 a = some (exo a CF (some d)) ∧ H2 d = some (exd d fs) ∧ H d = none ∧ E (.ref CF) (some d) (upd (del H2 a) d (.xd fs))) (fun _ _ _ => False) := by
  refine ⟨(by show 1 ≤ 1000; decide), fun a ha => ⟨a, c, rfl, upd_same, fun d hd ne => ⟨rfl, d, _, upd_same, (upd_ne ne).trans upd_same, ?_, ?_⟩⟩⟩
  · rw [upd_ne ne] at hd
    exact hd
  · have hd' : H d = none := by
      rw [upd_ne ne] at hd
      exact hd
    refine t _ d (fun x o e => ?_) upd_same
    have hxd : x ≠ d := ne_of_none e hd'
    have hxa : x ≠ a := ne_of_none e ha
    rw [upd_ne hxd, del_ne hxa, upd_ne hxa, upd_ne hxd, upd_ne hxa]
    exact e
/-! ### feasible_plans -/
def sp_feasible_plans (C : Addr) : Sp := fun vs H Q _ => ∃ (a : Addr) (v : Kp396.Line) (p : Nat), vs = [.ref a, N p] ∧ LineAt C H a v ∧ 0 < p ∧
  ∀ (H' : Hp) (r : Addr) (qs : List Addr), Same H H' → H' r = some (.lst (RL qs)) → Paired (PlanIn H') qs (Kp396.feasiblePlans v p) → Q (.ref r) H'
theorem ok_feasible_plans (T : Txt K mg) : FnOk P w K mg base CX0 6 T.d_feasible_plans.f T.d_feasible_plans.fd ["line", "period"] (sp_feasible_plans T.CL) := by
  refine T.d_feasible_plans.F.ok sc_feasible_plans (fun vs H Q E h => ?_) (fun cdv A outer s H vs Q E hr h => ?_)
  · obtain ⟨a, v, p, rfl, _⟩ := h
    rfl
  · obtain ⟨a, v, p, rfl, ⟨dx, q, ts, L⟩, hp, k⟩ := h
    refine ⟨_, (pss_cons (ps_set (i := 2) sc_feasible_plans.nd rfl (Or.inl rfl) (by exact (pe_ifExp (pt_val (pe_call (ok_may_repeat T) (hr.mono (by decide)) (by rfl) T.d_may_repeat.g T.d_may_repeat.F.kp T.d_may_repeat.b .nil pass0 (by exact (pa_cons (pv 0) (pa_cons (pv 1) pa_nil))))) (pe_lst (by exact (pa_cons (pe_lst (by exact pa_nil)) pa_nil))) (pe_lst (by exact pa_nil)))))
    (pss_cons (ps_for PassesOwn.never rfl (pi_list (pe_fld (pv 0) rfl)) (pg_name (i := 3) sc_feasible_plans.nd rfl (Or.inl rfl)) (pss_cons (ps_set (i := 4) sc_feasible_plans.nd rfl (Or.inl rfl) (by exact (pe_lst (by exact pa_nil))))
    (pss_cons (ps_for PassesOwn.never rfl (pi_list (pv 2)) (pg_name (i := 5) sc_feasible_plans.nd rfl (Or.inl rfl)) (pss_one (ps_expr (pe_bm PySem.F.plainAttrs_list PySem.F.slot_list_extend PySem.F.type_list_extend mt_extend (pv 4) (by exact (pa_cons (pe_call (ok_longer_plans T) (hr.mono (by decide)) (by rfl) T.d_longer_plans.g T.d_longer_plans.F.kp T.d_longer_plans.b .nil pass0 (by exact (pa_cons (pv 0) (pa_cons (pv 1) (pa_cons (pv 5) pa_nil))))) pa_nil))))))
    (pss_one (ps_set (i := 2) sc_feasible_plans.nd rfl (Or.inl rfl) (by exact (pv 4)))))))
    (pss_one (ps_ret (pv 2))))), ?_⟩
    have hL : LineAt T.CL H a v := ⟨dx, q, ts, L⟩
    have hts : (RL ts).length = v.pits.length := by rw [List.length_map, Paired.len L.win]
    have hn := L.good.n4
    dsimp only [tSeq]
    refine asg_way (R := fun x H1 => ∃ r qs, x = V.ref r ∧ Same H H1 ∧ H1 r = some (.lst (RL qs)) ∧ Paired (PlanIn H1) qs (plansTo v p 0)) (fun R hR => ?_) ?_
    · refine ⟨_, rfl, _, rfl, a, v, p, rfl, hL, _, rfl, ifb (fun hm => ?_) (fun hm => ?_)⟩
      · refine ⟨(by show 0 ≤ sizeLine; decide), fun e he => ⟨(by show 1 ≤ sizeLine; decide), fun r hr => hR _ _ ⟨r, [e], rfl, (Same.new he).trans (Same.new hr), upd_same, ?_⟩⟩⟩
        unfold plansTo
        rw [if_pos hm]
        refine Paired.one ?_
        show upd _ r _ e = _
        rw [upd_ne (ne_of_none (H := upd H e (.lst [])) upd_same hr), upd_same]
        rfl
      · refine ⟨(by show 0 ≤ sizeLine; decide), fun r hr => hR _ _ ⟨r, [], rfl, Same.new hr, upd_same, ?_⟩⟩
        unfold plansTo
        rw [hm, if_neg Bool.false_ne_true]
        exact .nil
    · rintro _ H1 ⟨r, qs, rfl, s1, hr1, hqs⟩
      have L1 := L.same s1
      refine ⟨_, rfl, _, _, _, _, _, rfl, L1.obj, T.cl, T.nPits, lk_pits, q, rfl, ⟨_, SqL.of L1.lst⟩, for_list (K := K) (a := q) (xs := RL ts) (fun i σ H' => Same H H' ∧ ∃ r qs s3 s4 s5, σ = [some (V.ref a), some (N p), some (V.ref r), s3, s4, s5] ∧ H' r = some (.lst (RL qs)) ∧ Paired (PlanIn H') qs (plansTo v p i))
        ⟨s1, r, qs, none, none, none, rfl, hr1, hqs⟩ (fun i σ H' _ hP => SqL.of (hP.1 _ _ L.lst)) ?_ ?_⟩
      · rintro i x σ H' hi ⟨sm, r', qs', s3, s4, s5, rfl, hr', hqs'⟩
        obtain ⟨t, ht, rfl⟩ := map_at hi
        have hit : i < v.pits.length := by
          rw [← hts, List.length_map]
          rcases Nat.lt_or_ge i ts.length with z | z
          · exact z
          · rw [List.getElem?_eq_none z] at ht
            cases ht
        refine ⟨(by show 0 ≤ sizeLine; decide), fun f hf => ?_⟩
        have s2 : Same H' (upd H' f (.lst [])) := Same.new hf
        refine ⟨_, rfl, r', rfl, ⟨_, SqL.of (s2 _ _ hr')⟩, for_list (K := K) (a := r') (xs := RL qs') (fun j σ H'' => Same H' H'' ∧ ∃ fs s5, σ = [some (V.ref a), some (N p), some (V.ref r'), some (V.ref t), some (V.ref f), s5] ∧
          H'' f = some (.lst (RL fs)) ∧ Paired (PlanIn H'') fs (((plansTo v p i).take j).flatMap (sext v p)))
          ⟨s2, [], s5, rfl, upd_same, .nil⟩ (fun j σ H'' _ hP => SqL.of (hP.1 _ _ hr')) ?_ ?_⟩
        · rintro j x σ H2 hj ⟨sm2, fs, s5', rfl, hfl, hfs⟩
          obtain ⟨q', hq', rfl⟩ := map_at hj
          obtain ⟨l', hl', hP'⟩ := Paired.getL hqs' hq'
          obtain ⟨hg', hlen'⟩ := plansTo_good (List.mem_of_getElem? hl')
          refine ⟨_, rfl, .inl ⟨rfl, _, SqL.of hfl⟩, _, rfl, _, rfl, _, rfl, a, q', v, p, l', rfl, (hL.same sm).same sm2, sm2 _ _ hP', by omega, hg', hp, fun H3 b bs s3' hb hbs => ?_⟩
          have eT : ((plansTo v p i).take (j + 1)).flatMap (sext v p) = ((plansTo v p i).take j).flatMap (sext v p) ++ sext v p l' := by
            rw [take_more hl', List.flatMap_append]
            simp
          refine ⟨f, b, _, _, rfl, rfl, s3' _ _ hfl, hb, ?_, Same.put (sm2.trans s3') hf, fs ++ bs, some (V.ref q'), rfl, ?_, ?_⟩
          · have h1 := flat_len L.good p (show i ≤ 4 by omega) (j + 1)
            rw [eT, List.length_append] at h1
            rw [List.length_map, List.length_map, Paired.len hfs, Paired.len hbs]
            exact smallE (by omega)
          · show upd _ _ _ _ = _
            rw [upd_same, RL, RL, RL, List.map_append]
          · rw [eT]
            refine plans_put (s3' _ _ hfl) (Paired.app (Paired.sameP s3' hfs) hbs) fun z hz => ?_
            rcases List.mem_append.mp hz with y | y
            · obtain ⟨_, _, y2⟩ := List.mem_flatMap.mp y
              exact sext_ne y2
            · exact sext_ne y
        · rintro σ H2 ⟨sm2, fs, s5', rfl, hfl, hfs⟩
          have e : (RL qs').length = (plansTo v p i).length := by rw [List.length_map, Paired.len hqs']
          rw [e, List.take_length, ← plansTo_succ] at hfs
          exact ⟨_, rfl, sm.trans sm2, f, fs, some (V.ref t), some (V.ref f), s5', rfl, hfl, hfs⟩
      · rintro σ H' ⟨sm, r', qs', s3, s4, s5, rfl, hr', hqs'⟩
        rw [hts] at hqs'
        exact ⟨_, rfl, k H' r' qs' sm hr' hqs'⟩
/-! ### first_from -/
def sp_first_from (C : Addr) (d : Nat) : Sp := fun vs H Q _ => ∃ (a pl : Addr) (v : Kp396.Line) (p : Nat) (l : List Nat), vs = [.ref a, N p, .ref pl] ∧ LineAt C H a v ∧ PlanIn H pl l ∧ l.length + d = v.pits.length ∧ good v p l ∧ 0 < p ∧
  (Hm.first v p d l = none → ∀ H' : Hp, Same H H' → Q .non H') ∧ (∀ r, Hm.first v p d l = some r → ∀ (H' : Hp) (q : Addr), Same H H' → PlanIn H' q r → Q (.ref q) H')
theorem ok_first_from_d (T : Txt K mg) : ∀ d : Nat, FnOk P w K mg base CX0 (d + 6) T.d_first_from.f T.d_first_from.fd ["line", "period", "plan"] (sp_first_from T.CL d)
  | 0 => by
    refine T.d_first_from.F.ok sc_first_from (fun vs H Q E h => ?_) (fun cdv A outer s H vs Q E hr h => ?_)
    · obtain ⟨a, pl, v, p, l, rfl, _⟩ := h
      rfl
    · obtain ⟨a, pl, v, p, l, rfl, ⟨dx, q, ts, L⟩, hpl, hl, hg, hp, k1, k2⟩ := h
      refine ⟨_, (pss_cons (ps_if (pt_cmp (pc_eqI (pe_callB call_len_seq (by rfl) T.n_len (by decide +kernel) (by exact (pa_cons (pv 2) pa_nil))) (pe_callB call_len_seq (by rfl) T.n_len (by decide +kernel) (by exact (pa_cons (pe_fld (pv 0) rfl) pa_nil))))) (pss_one (ps_ret (pv 2))) pss_nil) pss_never), ?_⟩
      have hts : (RL ts).length = v.pits.length := by rw [List.length_map, Paired.len L.win]
      refine ⟨_, rfl, pl, _, rfl, .inl (SqL.of hpl), _, rfl, _, _, _, _, _, rfl, L.obj, T.cl, T.nPits, lk_pits, q, _, rfl, .inl (SqL.of L.lst), _, _, rfl, rfl, _, rfl, ifb (fun hb => ?_) (fun hb => ?_)⟩
      · exact ⟨_, rfl, k2 l rfl H pl (Same.refl H) hpl⟩
      · have hb' := of_decide_eq_false hb
        rw [hts, List.length_map] at hb'
        omega
  | d + 1 => by
    have G : FnOk P w K mg base CX0 (d + 6) T.d_first_from.f T.d_first_from.fd ["line", "period", "plan"] (sp_first_from T.CL d) := ok_first_from_d T d
    refine T.d_first_from.F.ok sc_first_from (fun vs H Q E h => ?_) (fun cdv A outer s H vs Q E hr h => ?_)
    · obtain ⟨a, pl, v, p, l, rfl, _⟩ := h
      rfl
    · obtain ⟨a, pl, v, p, l, rfl, ⟨dx, q, ts, L⟩, hpl, hl, hg, hp, k1, k2⟩ := h
      refine ⟨_, (pss_cons (ps_if (pt_cmp (pc_eqI (pe_callB call_len_seq (by rfl) T.n_len (by decide +kernel) (by exact (pa_cons (pv 2) pa_nil))) (pe_callB call_len_seq (by rfl) T.n_len (by decide +kernel) (by exact (pa_cons (pe_fld (pv 0) rfl) pa_nil))))) (pss_one (ps_ret (pv 2))) pss_nil)
    (pss_cons (ps_for PassesOwn.never rfl (pi_list (pe_call (ok_longer_plans T) (hr.mono (by omega)) (by rfl) T.d_longer_plans.g T.d_longer_plans.F.kp T.d_longer_plans.b .nil pass0 (by exact (pa_cons (pv 0) (pa_cons (pv 1) (pa_cons (pv 2) pa_nil)))))) (pg_name (i := 3) sc_first_from.nd rfl (Or.inl rfl)) (pss_cons (ps_set (i := 4) sc_first_from.nd rfl (Or.inl rfl) (by exact (pe_call G (hr.mono (by omega)) (by rfl) T.d_first_from.g T.d_first_from.F.kp T.d_first_from.b .nil pass0 (by exact (pa_cons (pv 0) (pa_cons (pv 1) (pa_cons (pv 3) pa_nil)))))))
    (pss_one (ps_if (pt_cmp (pc_notN (pv 4)) rfl) (pss_one (ps_ret (pv 4))) pss_nil))))
    (pss_one (ps_ret pe_non)))), ?_⟩
      have hL : LineAt T.CL H a v := ⟨dx, q, ts, L⟩
      have hts : (RL ts).length = v.pits.length := by rw [List.length_map, Paired.len L.win]
      refine ⟨_, rfl, pl, _, rfl, .inl (SqL.of hpl), _, rfl, _, _, _, _, _, rfl, L.obj, T.cl, T.nPits, lk_pits, q, _, rfl, .inl (SqL.of L.lst), _, _, rfl, rfl, _, rfl, ifb (fun hb => ?_) (fun hb => ?_)⟩
      · have hb' := of_decide_eq_true hb
        rw [hts, List.length_map] at hb'
        omega
      · refine ⟨_, rfl, _, rfl, _, rfl, a, pl, v, p, l, rfl, hL, hpl, by omega, hg, hp, fun H1 r qs s1 hr1 hqs => ?_⟩
        refine ⟨r, rfl, ⟨_, SqL.of hr1⟩, for_list (K := K) (a := r) (xs := RL qs) (fun i σ H' => Same H1 H' ∧ ((sext v p l).take i).findSome? (Hm.first v p d) = none ∧ ∃ s3 s4, σ = [some (V.ref a), some (N p), some (V.ref pl), s3, s4])
          ⟨Same.refl H1, rfl, none, none, rfl⟩ (fun i σ H' _ hP => SqL.of (hP.1 _ _ hr1)) ?_ ?_⟩
        · rintro i x σ H' hi ⟨sm, hno, s3, s4, rfl⟩
          obtain ⟨q', hq', rfl⟩ := map_at hi
          obtain ⟨l', hl', hP'⟩ := Paired.getL hqs hq'
          obtain ⟨hg', hlen'⟩ := sext_good (List.mem_of_getElem? hl')
          refine ⟨_, rfl, _, rfl, _, rfl, a, q', v, p, l', rfl, (hL.same s1).same sm, sm _ _ hP', by omega, hg', hp, fun hnone H2 s2 => ?_, fun r' hsome H2 q2 s2 hq2 => ?_⟩
          · refine ⟨_, rfl, _, rfl, ifb (fun z => by cases z) (fun _ => ?_)⟩
            exact ⟨sm.trans s2, findSome_more hl' hno hnone, some (V.ref q'), some V.non, rfl⟩
          · refine ⟨_, rfl, _, rfl, ifb (fun _ => ?_) (fun z => by cases z)⟩
            exact ⟨_, rfl, k2 r' (by rw [first_succ]; exact findSome_at hl' hno hsome) H2 q2 ((s1.trans sm).trans s2) hq2⟩
        · rintro σ H' ⟨sm, hno, s3, s4, rfl⟩
          have e : (RL qs).length = (sext v p l).length := by rw [List.length_map, Paired.len hqs]
          rw [e, List.take_length] at hno
          exact k1 (by rw [first_succ]; exact hno) H' (s1.trans sm)
def sp_first_any (C : Addr) : Sp := fun vs H Q E => ∃ d, d ≤ 4 ∧ sp_first_from C d vs H Q E
theorem ok_first_from (T : Txt K mg) : FnOk P w K mg base CX0 10 T.d_first_from.f T.d_first_from.fd ["line", "period", "plan"] (sp_first_any T.CL) := by
  refine ⟨fun vs H Q E h => ?_, fun A outer s H args us vs Q E hr he hb hv h => ?_⟩
  · obtain ⟨d, hd, h⟩ := h
    exact (ok_first_from_d (P := P) (w := w) (base := base) T d).len vs H Q E h
  · obtain ⟨d, hd, h⟩ := h
    exact (ok_first_from_d (P := P) (w := w) (base := base) T d).run A outer s H args us vs Q E (hr.mono (by omega)) he hb hv h
def sp_first_or_none (C : Addr) : Sp := fun vs H Q _ => ∃ (a : Addr) (v : Kp396.Line) (p : Nat), vs = [.ref a, N p] ∧ LineAt C H a v ∧ 0 < p ∧
  (Kp396.firstPlan v p = none → ∀ H' : Hp, Same H H' → Q .non H') ∧ (∀ r, Kp396.firstPlan v p = some r → ∀ (H' : Hp) (q : Addr), Same H H' → PlanIn H' q r → Q (.ref q) H')
theorem ok_first_or_none (T : Txt K mg) : FnOk P w K mg base CX0 11 T.d_first_or_none.f T.d_first_or_none.fd ["line", "period"] (sp_first_or_none T.CL) := by
  refine T.d_first_or_none.F.ok sc_first_or_none (fun vs H Q E h => ?_) (fun cdv A outer s H vs Q E hr h => ?_)
  · obtain ⟨a, v, p, rfl, _⟩ := h
    rfl
  · obtain ⟨a, v, p, rfl, hL, hp, k1, k2⟩ := h
    refine ⟨_, (pss_one (ps_ret (pe_ifExp (pt_val (pe_call (ok_may_repeat T) (hr.mono (by decide)) (by rfl) T.d_may_repeat.g T.d_may_repeat.F.kp T.d_may_repeat.b .nil pass0 (by exact (pa_cons (pv 0) (pa_cons (pv 1) pa_nil))))) (pe_call (ok_first_from T) (hr.mono (by decide)) (by rfl) T.d_first_from.g T.d_first_from.F.kp T.d_first_from.b .nil pass0 (by exact (pa_cons (pv 0) (pa_cons (pv 1) (pa_cons (pe_lst (by exact pa_nil)) pa_nil))))) pe_non))), ?_⟩
    rw [firstPlan_eq] at k1 k2
    refine ⟨_, rfl, _, rfl, a, v, p, rfl, hL, _, rfl, ifb (fun hm => ?_) (fun hm => ?_)⟩
    · rw [if_pos hm] at k1 k2
      refine ⟨_, rfl, _, rfl, (by show 0 ≤ sizeLine; decide), fun e he => ?_⟩
      have s1 : Same H (upd H e (.lst [])) := Same.new he
      exact ⟨v.pits.length, hL.good.n4, a, e, v, p, [], rfl, hL.same s1, upd_same, by simp, good_nil v p, hp, fun h0 H' s2 => k1 h0 H' (s1.trans s2), fun r h0 H' q s2 hq => k2 r h0 H' q (s1.trans s2) hq⟩
    · rw [hm, if_neg Bool.false_ne_true] at k1 k2
      exact k1 rfl H (Same.refl H)
def sp_first_plan (CF C : Addr) : Sp := fun vs H Q E => ∃ (a : Addr) (v : Kp396.Line) (p : Nat), vs = [.ref a, N p] ∧ LineAt C H a v ∧ 0 < p ∧
  (Kp396.firstPlan v p = none → Thr CF (-33) H E) ∧ (∀ r, Kp396.firstPlan v p = some r → ∀ (H' : Hp) (q : Addr), Same H H' → PlanIn H' q r → Q (.ref q) H')
theorem ok_first_plan (T : Txt K mg) : FnOk P w K mg base (L2.CX P w) 12 T.d_first_plan.f T.d_first_plan.fd ["line", "period"] (sp_first_plan T.CF T.CL) := by
  refine T.d_first_plan.F.okX sc_first_plan (fun vs H Q E h => ?_) (fun cdv A outer s H vs Q E hr h => ?_)
  · obtain ⟨a, v, p, rfl, _⟩ := h
    rfl
  · obtain ⟨a, v, p, rfl, hL, hp, k1, k2⟩ := h
    refine ⟨_, (pss_cons (ps_set (i := 2) sc_first_plan.nd rfl (Or.inl rfl) (by exact (pe_call (ok_first_or_none T) (hr.mono (by decide)) (by rfl) T.d_first_or_none.g T.d_first_or_none.F.kp T.d_first_or_none.b .nil pass0 (by exact (pa_cons (pv 0) (pa_cons (pv 1) pa_nil))))))
    (pss_cons (ps_expr (pe_call (ok_refuse T) (hr.mono (by decide)) (by rfl) T.d_refuse.g T.d_refuse.F.kp T.d_refuse.b .nil (passes_call (W := fun cls d _ H => E cls d H) (takes_of rfl rfl rfl rfl) fun _ _ _ _ h => h) (by exact (pa_cons (pe_cmp (pc_isN (pv 2)) rfl) (pa_cons (pe_num (by rfl) T.c_NOTHING) pa_nil)))))
    (pss_one (ps_ret (pv 2))))), ?_⟩
    refine ⟨_, rfl, _, rfl, a, v, p, rfl, hL, hp, fun h0 H' s1 => ?_, fun r h0 H' q s1 hq => ?_⟩
    · exact ⟨_, rfl, _, -33, rfl, (fun z => by cases z), fun _ => (k1 h0).later s1⟩
    · exact ⟨_, rfl, _, -33, rfl, fun _ => ⟨_, rfl, k2 r h0 H' q s1 hq⟩, (fun z => by cases z)⟩
def sp_has_plan (C : Addr) : Sp := fun vs H Q _ => ∃ (a : Addr) (v : Kp396.Line) (p : Nat), vs = [.ref a, N p] ∧ LineAt C H a v ∧ 0 < p ∧ ∀ H' : Hp, Same H H' → Q (.bl (has v p)) H'
theorem ok_has_plan (T : Txt K mg) : FnOk P w K mg base CX0 12 T.d_has_plan.f T.d_has_plan.fd ["line", "period"] (sp_has_plan T.CL) := by
  refine T.d_has_plan.F.ok sc_has_plan (fun vs H Q E h => ?_) (fun cdv A outer s H vs Q E hr h => ?_)
  · obtain ⟨a, v, p, rfl, _⟩ := h
    rfl
  · obtain ⟨a, v, p, rfl, hL, hp, k⟩ := h
    refine ⟨_, (pss_one (ps_ret (pe_cmp (pc_notN (pe_call (ok_first_or_none T) (hr.mono (by decide)) (by rfl) T.d_first_or_none.g T.d_first_or_none.F.kp T.d_first_or_none.b .nil pass0 (by exact (pa_cons (pv 0) (pa_cons (pv 1) pa_nil))))) rfl))), ?_⟩
    unfold has at k
    refine ⟨_, rfl, _, rfl, a, v, p, rfl, hL, hp, fun h0 H' s1 => ?_, fun r h0 H' q s1 hq => ?_⟩
    · rw [h0] at k
      exact k H' s1
    · rw [h0] at k
      exact k H' s1
/-! ### periods -/
def sp_feasible_periods (C : Addr) : Sp := fun vs H Q _ => ∃ (a : Addr) (v : Kp396.Line), vs = [.ref a] ∧ LineAt C H a v ∧
  ∀ (H' : Hp) (q : Addr), Same H H' → PlanIn H' q (Kp396.periods.filter fun t => (Kp396.firstPlan v t).isSome) → Q (.ref q) H'
theorem ok_feasible_periods (T : Txt K mg) : FnOk P w K mg base CX0 13 T.d_feasible_periods.f T.d_feasible_periods.fd ["line"] (sp_feasible_periods T.CL) := by
  refine T.d_feasible_periods.F.ok sc_feasible_periods (fun vs H Q E h => ?_) (fun cdv A outer s H vs Q E hr h => ?_)
  · obtain ⟨a, v, rfl, _⟩ := h
    rfl
  · obtain ⟨a, v, rfl, hL, k⟩ := h
    refine ⟨_, (pss_one (ps_ret (pe_lc (own := [("period", 1)]) (g := (gName 1)) rfl sc_feasible_periods.nd (pi_range2 (by rfl) T.n_range (by exact (pa_cons pe_int (pa_cons (pe_op op_add (pe_num (by rfl) T.c_LAST_PERIOD) pe_int) pa_nil)))) (blkOk_by (own := [("period", 1)]) (N := n_feasible_periods) (sc := defScope s_feasible_periods) (by decide +kernel)) (fun _ _ _ _ _ => (pg_name (i := 1) sc_feasible_periods.nd rfl (Or.inl rfl))) (fun _ _ _ _ _ => (pts_one (pt_val (pe_call (ok_has_plan T) (hr.mono (by decide)) (by rfl) T.d_has_plan.g T.d_has_plan.F.kp T.d_has_plan.b .nil pass0 (by exact (pa_cons (pv 0) (pa_cons (pv 1) pa_nil))))))) (fun _ _ _ _ _ => (pv 1))))), ?_⟩
    refine ⟨_, _, rfl, rfl, _, _, rfl, ⟨by decide, by decide, by decide, by decide⟩, fun D hD => lc_range (lo := 1) (n := 99) (fun i H' => Same H H' ∧ PlanIn H' D (periodsTo v i)) ⟨Same.new hD, upd_same⟩ ?_ ?_⟩
    · rintro i H' hi ⟨sm, hD'⟩
      rw [show (1 : Int) + (i : Int) = ((i + 1 : Nat) : Int) by omega]
      refine ⟨rfl, _, rfl, _, rfl, a, v, i + 1, rfl, hL.same sm, by omega, fun H2 s2 => ⟨_, rfl, ifb (fun hb => ?_) (fun hb => ?_)⟩⟩
      · refine ⟨_, rfl, _, s2 _ _ hD', ?_, Same.put (sm.trans s2) hD, ?_⟩
        · have := periodsTo_len v i
          rw [List.length_map]
          exact small (by omega)
        · show upd _ _ _ _ = _
          rw [upd_same, periodsTo_succ, if_pos hb, NL, NL, List.map_append]
          rfl
      · refine ⟨sm.trans s2, ?_⟩
        rw [periodsTo_succ, hb, if_neg Bool.false_ne_true, List.append_nil]
        exact s2 _ _ hD'
    · rintro H' ⟨sm, hD'⟩
      exact k H' D sm hD'
def sp_shortest_period (CF C : Addr) : Sp := fun vs H Q E => ∃ (a : Addr) (v : Kp396.Line), vs = [.ref a] ∧ LineAt C H a v ∧
  (Kp396.shortestPeriod v = none → Thr CF (-33) H E) ∧ (∀ t, Kp396.shortestPeriod v = some t → ∀ H' : Hp, Same H H' → Q (N t) H')
theorem ok_shortest_period (T : Txt K mg) : FnOk P w K mg base (L2.CX P w) 13 T.d_shortest_period.f T.d_shortest_period.fd ["line"] (sp_shortest_period T.CF T.CL) := by
  refine T.d_shortest_period.F.okX sc_shortest_period (fun vs H Q E h => ?_) (fun cdv A outer s H vs Q E hr h => ?_)
  · obtain ⟨a, v, rfl, _⟩ := h
    rfl
  · obtain ⟨a, v, rfl, hL, k1, k2⟩ := h
    refine ⟨_, (pss_cons (ps_for (passes_of rfl) rfl (pi_range2 (by rfl) T.n_range (by exact (pa_cons pe_int (pa_cons (pe_op op_add (pe_num (by rfl) T.c_LAST_PERIOD) pe_int) pa_nil)))) (pg_name (i := 1) sc_shortest_period.nd rfl (Or.inl rfl)) (pss_one (ps_if (pt_val (pe_call (ok_has_plan T) (hr.mono (by decide)) (by rfl) T.d_has_plan.g T.d_has_plan.F.kp T.d_has_plan.b .nil pass0 (by exact (pa_cons (pv 0) (pa_cons (pv 1) pa_nil))))) (pss_one (ps_ret (pv 1))) pss_nil)))
    (pss_one (ps_raise rfl (takes_of rfl rfl rfl rfl) (pmk_oex T.oex T.iF T.tI (ok_refused_init T) (hr.mono (by decide)) T.bI .nil pass0 (by rfl) T.gF (by exact (pa_cons (pe_num (by rfl) T.c_NOTHING) pa_nil)))))), ?_⟩
    refine ⟨_, _, rfl, rfl, _, _, rfl, ⟨by decide, by decide, by decide, by decide⟩, for_range (lo := 1) (n := 99) (fun i σ H' => Same H H' ∧ periodsTo v i = [] ∧ ∃ s1, σ = [some (V.ref a), s1]) ⟨Same.refl H, rfl, none, rfl⟩ ?_ ?_⟩
    · rintro i σ H' hi ⟨sm, hno, s1, rfl⟩
      rw [show (1 : Int) + (i : Int) = ((i + 1 : Nat) : Int) by omega]
      refine ⟨_, rfl, _, rfl, a, v, i + 1, rfl, hL.same sm, by omega, fun H2 s2 => ⟨_, rfl, ifb (fun hb => ?_) (fun hb => ?_)⟩⟩
      · exact ⟨_, rfl, k2 (i + 1) (shortest_at hi hno hb) H2 (sm.trans s2)⟩
      · refine ⟨sm.trans s2, ?_, some (N (i + 1)), rfl⟩
        rw [periodsTo_succ, hno, hb, if_neg Bool.false_ne_true]
        rfl
    · rintro σ H' ⟨sm, hno, s1, rfl⟩
      exact raise_ok ((k1 (shortest_none hno)).later sm)
end
end Hm

/-! Times and occupied pits. -/
namespace Hm
open PySem PySem.Spec PyProof.Rows L2
section
variable {P : Program} {w : World} {K : PySem.W.Frag} {mg : Str → Option Value} {base : Heap}
def sp_throughput_time (C : Addr) : Sp := fun vs H Q _ => ∃ (a pl : Addr) (v : Kp396.Line) (l : List Nat), vs = [.ref a, .ref pl] ∧ LineAt C H a v ∧ PlanIn H pl l ∧ l.length ≤ 100 ∧
  ∀ H' : Hp, Same H H' → Q (N (Kp396.throughputTime v l)) H'
theorem ok_throughput_time (T : Txt K mg) : FnOk P w K mg base CX0 2 T.d_throughput_time.f T.d_throughput_time.fd ["line", "plan"] (sp_throughput_time T.CL) := by
  refine T.d_throughput_time.F.ok sc_throughput_time (fun vs H Q E h => ?_) (fun cdv A outer s H vs Q E hr h => ?_)
  · obtain ⟨a, pl, v, l, rfl, _⟩ := h
    rfl
  · obtain ⟨a, pl, v, l, rfl, ⟨dx, p, ts, L⟩, hpl, hl, k⟩ := h
    refine ⟨_, (pss_one (ps_ret (pe_op op_add (pe_ix ix_list (pe_call (ok_starts_of T) (hr.mono (by decide)) (by rfl) T.d_starts_of.g T.d_starts_of.F.kp T.d_starts_of.b .nil pass0 (by exact (pa_cons (pv 0) (pa_cons (pv 1) pa_nil)))) (pe_un un_neg pe_int) (fun _ _ => rfl)) (pe_fld (pv 0) rfl)))), ?_⟩
    refine ⟨_, rfl, _, rfl, a, pl, v, l, rfl, ⟨dx, p, ts, L⟩, hpl, by omega, fun H1 q s1 hq => ?_⟩
    have L1 := L.same s1
    have hlast : (NL (Kp396.startTimes v l))[(NL (Kp396.startTimes v l)).length - 1]? = some (N (l.sum + l.length * v.moveTime)) := by
      rw [List.length_map]
      exact at_map (times_last v l)
    refine ⟨_, rfl, q, _, _, _, rfl, rfl, SqL.of hq, at_end hlast, _, rfl, _, _, _, _, _, rfl, L1.obj, T.cl, T.nMove, lk_move, _, _, rfl, rfl, ?_⟩
    refine int_eq ?_ (k H1 s1)
    rw [through_eq]
    rfl
def sp_completion_time (C : Addr) : Sp := fun vs H Q _ => ∃ (a pl : Addr) (v : Kp396.Line) (p n : Nat) (l : List Nat), vs = [.ref a, N p, .ref pl, N n] ∧ LineAt C H a v ∧ PlanIn H pl l ∧ l.length ≤ 100 ∧ 1 ≤ n ∧ n ≤ 99 ∧
  ∀ H' : Hp, Same H H' → Q (N ((n - 1) * p + Kp396.throughputTime v l)) H'
theorem ok_completion_time (T : Txt K mg) : FnOk P w K mg base CX0 3 T.d_completion_time.f T.d_completion_time.fd ["line", "period", "plan", "lots"] (sp_completion_time T.CL) := by
  refine T.d_completion_time.F.ok sc_completion_time (fun vs H Q E h => ?_) (fun cdv A outer s H vs Q E hr h => ?_)
  · obtain ⟨a, pl, v, p, n, l, rfl, _⟩ := h
    rfl
  · obtain ⟨a, pl, v, p, n, l, rfl, hL, hpl, hl, h1, h99, k⟩ := h
    refine ⟨_, (pss_one (ps_ret (pe_op op_add (pe_op op_mul (pe_op op_sub (pv 3) pe_int) (pv 1)) (pe_call (ok_throughput_time T) (hr.mono (by decide)) (by rfl) T.d_throughput_time.g T.d_throughput_time.F.kp T.d_throughput_time.b .nil pass0 (by exact (pa_cons (pv 0) (pa_cons (pv 2) pa_nil))))))), ?_⟩
    refine ⟨_, rfl, _, _, rfl, rfl, _, rfl, _, _, rfl, rfl, .inl ⟨by omega, by omega⟩, _, rfl, _, rfl, a, pl, v, l, rfl, hL, hpl, hl, fun H1 s1 => ⟨_, _, rfl, rfl, ?_⟩⟩
    refine int_eq ?_ (k H1 s1)
    rw [Int.natCast_add, Int.natCast_mul, Int.ofNat_sub h1]
    rfl
def sp_is_occupied (C : Addr) : Sp := fun vs H Q _ => ∃ (a pl : Addr) (v : Kp396.Line) (p i x : Nat) (l : List Nat), vs = [.ref a, N p, .ref pl, N i, N x] ∧ LineAt C H a v ∧ PlanIn H pl l ∧ l.length ≤ 100 ∧ i < l.length ∧ 0 < p ∧
  ∀ H' : Hp, Same H H' → Q (.bl (Kp396.isOccupied v p l i x)) H'
theorem ok_is_occupied (T : Txt K mg) : FnOk P w K mg base CX0 2 T.d_is_occupied.f T.d_is_occupied.fd ["line", "period", "plan", "pit", "minute"] (sp_is_occupied T.CL) := by
  refine T.d_is_occupied.F.ok sc_is_occupied (fun vs H Q E h => ?_) (fun cdv A outer s H vs Q E hr h => ?_)
  · obtain ⟨a, pl, v, p, i, x, l, rfl, _⟩ := h
    rfl
  · obtain ⟨a, pl, v, p, i, x, l, rfl, ⟨dx, q, ts, L⟩, hpl, hl, hi, hp, k⟩ := h
    refine ⟨_, (pss_cons (ps_set (i := 5) sc_is_occupied.nd rfl (Or.inl rfl) (by exact (pe_op op_add (pe_ix ix_list (pe_call (ok_starts_of T) (hr.mono (by decide)) (by rfl) T.d_starts_of.g T.d_starts_of.F.kp T.d_starts_of.b .nil pass0 (by exact (pa_cons (pv 0) (pa_cons (pv 2) pa_nil)))) (pv 3) (fun _ _ => rfl)) (pe_fld (pv 0) rfl))))
    (pss_one (ps_ret (pe_cmpR op_lt (pe_op op_mod (pe_op op_sub (pv 4) (pv 5)) (pv 1)) (pe_ix ix_list (pv 2) (pv 3) (fun _ _ => rfl)) (nomark _))))), ?_⟩
    refine ⟨_, rfl, _, rfl, a, pl, v, l, rfl, ⟨dx, q, ts, L⟩, hpl, by omega, fun H1 r s1 hr1 => ?_⟩
    have L1 := L.same s1
    refine ⟨_, rfl, r, _, _, _, rfl, rfl, SqL.of hr1, atI_nat (nl_at (by rw [times_len]; omega)), _, rfl, _, _, _, _, _, rfl, L1.obj, T.cl, T.nMove, lk_move, _, _, rfl, rfl, ?_⟩
    refine ⟨_, rfl, _, rfl, _, _, rfl, rfl, _, rfl, _, _, rfl, rfl, (by show (0 : Int) < (p : Int); omega), _, rfl, _, rfl, pl, _, _, _, rfl, rfl, SqL.of (s1 _ _ hpl), atI_nat (nl_at hi), _, _, rfl, rfl, ?_⟩
    refine bl_eq ?_ (k H1 s1)
    rw [occupied_eq v p l i x (l.getD i 0) hp (by rw [List.getD_eq_getElem?_getD, List.getElem?_eq_getElem hi]; rfl)]
    rfl
def sp_occupied_pits (C : Addr) : Sp := fun vs H Q _ => ∃ (a pl : Addr) (v : Kp396.Line) (p x : Nat) (l : List Nat), vs = [.ref a, N p, .ref pl, N x] ∧ LineAt C H a v ∧ PlanIn H pl l ∧ l.length ≤ 100 ∧ 0 < p ∧
  ∀ H' : Hp, Same H H' → Q (N (occ v p l x)) H'
theorem ok_occupied_pits (T : Txt K mg) : FnOk P w K mg base CX0 3 T.d_occupied_pits.f T.d_occupied_pits.fd ["line", "period", "plan", "minute"] (sp_occupied_pits T.CL) := by
  refine T.d_occupied_pits.F.ok sc_occupied_pits (fun vs H Q E h => ?_) (fun cdv A outer s H vs Q E hr h => ?_)
  · obtain ⟨a, pl, v, p, x, l, rfl, _⟩ := h
    rfl
  · obtain ⟨a, pl, v, p, x, l, rfl, hL, hpl, hl, hp, k⟩ := h
    refine ⟨_, (pss_one (ps_ret (pe_callB call_len_seq (by rfl) T.n_len (by decide +kernel) (by exact (pa_cons (pe_lc (own := [("pit", 4)]) (g := (gName 4)) rfl sc_occupied_pits.nd (pi_range1 (by rfl) T.n_range (by exact (pa_cons (pe_callB call_len_seq (by rfl) T.n_len (by decide +kernel) (by exact (pa_cons (pv 2) pa_nil))) pa_nil))) (blkOk_by (own := [("pit", 4)]) (N := n_occupied_pits) (sc := defScope s_occupied_pits) (by decide +kernel)) (fun _ _ _ _ _ => (pg_name (i := 4) sc_occupied_pits.nd rfl (Or.inl rfl))) (fun _ _ _ _ _ => (pts_one (pt_val (pe_call (ok_is_occupied T) (hr.mono (by decide)) (by rfl) T.d_is_occupied.g T.d_is_occupied.F.kp T.d_is_occupied.b .nil pass0 (by exact (pa_cons (pv 0) (pa_cons (pv 1) (pa_cons (pv 2) (pa_cons (pv 4) (pa_cons (pv 3) pa_nil)))))))))) (fun _ _ _ _ _ => (pv 4))) pa_nil))))), ?_⟩
    refine ⟨_, rfl, pl, _, rfl, .inl (SqL.of hpl), _, rfl, rng_lo _, rng_hi (by rw [List.length_map]; omega), fun D hD => lc_range (lo := 0) (n := (NL l).length)
      (fun i H' => Same H H' ∧ PlanIn H' D ((List.range i).filter fun i => Kp396.isOccupied v p l i x)) ⟨Same.new hD, upd_same⟩ ?_ ?_⟩
    · rintro i H' hi ⟨sm, hD'⟩
      rw [List.length_map] at hi
      rw [Int.zero_add]
      have eS : (List.range (i + 1)).filter (fun i => Kp396.isOccupied v p l i x) = (List.range i).filter (fun i => Kp396.isOccupied v p l i x) ++ (if Kp396.isOccupied v p l i x = true then [i] else []) := by
        rw [List.range_succ, List.filter_append]
        congr 1
        cases e : Kp396.isOccupied v p l i x <;> simp [e]
      refine ⟨rfl, _, rfl, _, rfl, _, rfl, _, rfl, _, rfl, a, pl, v, p, i, x, l, rfl, hL.same sm, sm _ _ hpl, hl, hi, hp, fun H2 s2 => ⟨_, rfl, ifb (fun hb => ?_) (fun hb => ?_)⟩⟩
      · refine ⟨_, rfl, _, s2 _ _ hD', ?_, Same.put (sm.trans s2) hD, ?_⟩
        · have h1 := List.length_filter_le (fun i => Kp396.isOccupied v p l i x) (List.range i)
          rw [List.length_range] at h1
          rw [List.length_map]
          exact small (by omega)
        · show upd _ _ _ _ = _
          rw [upd_same, eS, if_pos hb, NL, NL, List.map_append]
          rfl
      · refine ⟨sm.trans s2, ?_⟩
        rw [eS, hb, if_neg Bool.false_ne_true, List.append_nil]
        exact s2 _ _ hD'
    · rintro H' ⟨sm, hD'⟩
      rw [List.length_map] at hD'
      refine ⟨D, _, rfl, .inl (SqL.of hD'), ?_⟩
      rw [List.length_map]
      exact k H' sm
def sp_most_occupied (C : Addr) : Sp := fun vs H Q _ => ∃ (a pl : Addr) (v : Kp396.Line) (p : Nat) (l : List Nat), vs = [.ref a, N p, .ref pl] ∧ LineAt C H a v ∧ PlanIn H pl l ∧ l.length ≤ 100 ∧ 0 < p ∧ p ≤ 99 ∧
  ∀ H' : Hp, Same H H' → Q (N (Kp396.maxOccupied v p l)) H'
theorem ok_most_occupied (T : Txt K mg) : FnOk P w K mg base CX0 4 T.d_most_occupied.f T.d_most_occupied.fd ["line", "period", "plan"] (sp_most_occupied T.CL) := by
  refine T.d_most_occupied.F.ok sc_most_occupied (fun vs H Q E h => ?_) (fun cdv A outer s H vs Q E hr h => ?_)
  · obtain ⟨a, pl, v, p, l, rfl, _⟩ := h
    rfl
  · obtain ⟨a, pl, v, p, l, rfl, hL, hpl, hl, hp, h99, k⟩ := h
    refine ⟨_, (pss_one (ps_ret (pe_callB (cr_max rfl) (by rfl) T.n_max (by decide +kernel) (by exact (pa_cons (pe_lc (own := [("minute", 3)]) (g := (gName 3)) (tt := tYes) rfl sc_most_occupied.nd (pi_range1 (by rfl) T.n_range (by exact (pa_cons (pv 1) pa_nil))) (blkOk_by (own := [("minute", 3)]) (N := n_most_occupied) (sc := defScope s_most_occupied) (by decide +kernel)) (fun _ _ _ _ _ => (pg_name (i := 3) sc_most_occupied.nd rfl (Or.inl rfl))) (fun _ _ _ _ _ => pts_nil) (fun _ _ _ _ _ => (pe_call (ok_occupied_pits T) (hr.mono (by decide)) (by rfl) T.d_occupied_pits.g T.d_occupied_pits.F.kp T.d_occupied_pits.b .nil pass0 (by exact (pa_cons (pv 0) (pa_cons (pv 1) (pa_cons (pv 2) (pa_cons (pv 3) pa_nil)))))))) pa_nil))))), ?_⟩
    refine ⟨_, rfl, _, rfl, rng_lo _, rng_hi (by omega), fun D hD => lc_range (lo := 0) (n := p)
      (fun i H' => Same H H' ∧ PlanIn H' D ((List.range i).map (occ v p l))) ⟨Same.new hD, upd_same⟩ ?_ ?_⟩
    · rintro i H' hi ⟨sm, hD'⟩
      rw [Int.zero_add]
      refine ⟨rfl, yes_then ?_⟩
      refine ⟨_, rfl, _, rfl, _, rfl, _, rfl, a, pl, v, p, i, l, rfl, hL.same sm, sm _ _ hpl, hl, hp, fun H2 s2 => ⟨_, s2 _ _ hD', ?_, Same.put (sm.trans s2) hD, ?_⟩⟩
      · rw [List.length_map, List.length_map, List.length_range]
        exact small (by omega)
      · show upd _ _ _ _ = _
        rw [upd_same, List.range_succ, List.map_append, NL, NL, List.map_append]
        rfl
    · rintro H' ⟨sm, hD'⟩
      refine ⟨D, intsOf ((List.range p).map (occ v p l)), rfl, SqL.of (by rw [hD', List.map_map]; rfl), by rw [List.length_map, List.length_map, List.length_range]; exact hp, fun m hm hy => ?_⟩
      obtain ⟨n, hn, rfl⟩ := List.mem_map.mp hm
      have e : Kp396.maxOccupied v p l = n := maxOcc_of hn fun y hy' => by
        have := hy (y : Int) (List.mem_map.mpr ⟨y, hy', rfl⟩)
        omega
      rw [← e]
      exact k H' sm
end
end Hm

/-! The operations that change the line. -/
namespace Hm
open PySem PySem.Spec PyProof.Rows L2
/-- the state's line has its pits in another list than f -/
def Off (CS C : Addr) (H : Hp) (st f : Addr) : Prop := ∀ (dx a dy q : Addr) (fs : List (Str × V)), H st = some (.ins CS dx [(("line" : Str), .ref a)]) → H a = some (.ins C dy ((("pits" : Str), .ref q) :: fs)) → q ≠ f
/-- what an answered call leaves -/
def Post (CS C st : Addr) (s : Kp396.State) (x : Kp396.Call) (H : Hp) (Q : VK) : Prop := ∀ (H' : Hp) (p : Addr), But st H H' → StAt CS C H' st (Kp396.step s x).1 → (s = none → ∀ f o, H f = some o → Off CS C H' st f) → H p = none → H' p = some (.lst ((ansOf (Kp396.step s x).2).map V.int)) → Q (.ref p) H'
theorem Post.read {CS C st : Addr} {s : Kp396.State} {x : Kp396.Call} {H H' : Hp} {Q : VK} {p : Addr} {a : Kp396.Ans} (k : Post CS C st s x H Q) (hS : StAt CS C H st s) (e : Kp396.step s x = (s, a)) (s1 : Same H H') (hn : H p = none) (hp : H' p = some (.lst ((ansOf a).map V.int))) : Q (.ref p) H' := by
  refine k H' p (Same.but s1 st) ?_ (fun z => ?_) hn ?_
  · rw [e]
    exact hS.same s1
  · subst z
    obtain ⟨dx, h⟩ := hS
    intro f o _ dy a dz q fs h1 _
    rw [s1 _ _ h] at h1
    injection h1 with h1
    injection h1 with _ _ h1
    injection h1 with h1 _
    injection h1 with _ h1
    cases h1
  · rw [e]
    exact hp
/-- the state's object behind the store of a line -/
theorem st_put {CS dx st z : Addr} {y : V} {H : Hp} : (upd H st (.ins CS dx (putF "line" (.ref z) [(("line" : Str), y)]))) st = some (.ins CS dx [(("line" : Str), .ref z)]) := by
  rw [upd_same, put_line]
theorem Post.wrote {CS C st dx z r : Addr} {s : Kp396.State} {x : Kp396.Call} {H H1 H3 : Hp} {Q : VK} {v : Kp396.Line} {y : V} {a : Kp396.Ans} (k : Post CS C st s x H Q) (ho : s = none → ∀ f o, H f = some o → Off CS C H3 st f) (e : Kp396.step s x = (some v, a)) (s1 : Same H H1) (h1 : H1 st = some (.ins CS dx [(("line" : Str), y)]))
    (hL : LineAt C H1 z v) (s3 : Same (upd H1 st (.ins CS dx (putF "line" (.ref z) [(("line" : Str), y)]))) H3) (hn : (upd H1 st (.ins CS dx (putF "line" (.ref z) [(("line" : Str), y)]))) r = none) (hp : H3 r = some (.lst ((ansOf a).map V.int))) : Q (.ref r) H3 := by
  refine k H3 r (fun b o q hb => s3 _ _ ?_) ?_ ho (Same.free s1 ?_) ?_
  · rw [upd_ne hb]
    exact s1 _ _ q
  · rw [e]
    exact StAt.same s3 ⟨dx, z, st_put, hL.put h1⟩
  · rw [← hn, upd_ne fun q => by rw [q, upd_same] at hn; cases hn]
  · rw [e]
    exact hp
/-- the promise of an operation: the call's words are those of x -/
def spOp (CF CS C : Addr) (i : Nat) : Sp := fun vs H Q E => ∃ (st l : Addr) (s : Kp396.State) (x : Kp396.Call), (wordOf x).1 = i ∧ vs = [.ref st, .ref l] ∧ StAt CS C H st s ∧ H l = some (.lst (NL (wordOf x).2)) ∧ (wordOf x).2.length ≤ 7 ∧ (i ≠ 0 → s ≠ none) ∧
  (∀ c : Int, Kp396.step s x = (s, Kp396.single c) → Thr CF c H E) ∧ Post CS C st s x H Q
theorem spOp.len {CF CS C : Addr} {i : Nat} {vs : List V} {H : Hp} {Q : VK} {E : XK} (h : spOp CF CS C i vs H Q E) : vs.length = (["state", "numbers"] : List Str).length := by
  obtain ⟨st, l, s, x, _, rfl, _⟩ := h
  rfl
theorem spOp.go {CF CS C : Addr} {i : Nat} {vs : List V} {H : Hp} {Q : VK} {E : XK} (h : spOp CF CS C i vs H Q E) (hi : i ≠ 0) : ∃ (st l dx a : Addr) (v : Kp396.Line) (x : Kp396.Call), (wordOf x).1 = i ∧ vs = [.ref st, .ref l] ∧
    H st = some (.ins CS dx [(("line" : Str), .ref a)]) ∧ LineAt C H a v ∧ H l = some (.lst (NL (wordOf x).2)) ∧ (wordOf x).2.length ≤ 7 ∧ (∀ c : Int, Kp396.step (some v) x = (some v, Kp396.single c) → Thr CF c H E) ∧ Post CS C st (some v) x H Q := by
  obtain ⟨st, l, s, x, hx, rfl, hS, hl, hn, h0, k1, k2⟩ := h
  cases s with
  | none => exact absurd rfl (h0 hi)
  | some v =>
    obtain ⟨dx, a, h1, h2⟩ := hS
    exact ⟨st, l, dx, a, v, x, hx, rfl, h1, h2, hl, hn, k1, k2⟩
theorem nl_ans (n : Nat) (l : List Nat) : NL (n :: l) = (ansOf (Kp396.natResult n l)).map V.int := by
  simp [ansOf, Kp396.natResult]
section
variable {P : Program} {w : World} {K : PySem.W.Frag} {mg : Str → Option Value} {base : Heap}
def sp_state_init (C : Addr) : Sp := fun vs H Q _ => ∃ (x dx : Addr), vs = [.ref x] ∧ H x = some (.ins C dx []) ∧ ∀ H' : Hp, H' x = some (.ins C dx [(("line" : Str), .non)]) → (∀ b o, H b = some o → b ≠ x → H' b = some o) → Q .non H'
theorem ok_state_init (T : Txt K mg) : FnOk P w K mg base CX0 1 T.fS T.fdS ["self"] (sp_state_init T.CS) := by
  refine T.FS.ok sc_state_init (fun vs H Q E h => ?_) (fun cdv A outer s H vs Q E hr h => ?_)
  · obtain ⟨x, dx, rfl, _⟩ := h
    rfl
  · obtain ⟨x, dx, rfl, hx, k⟩ := h
    refine ⟨_, (pss_one (ps_fld (pv 0) pe_non rfl)), ?_⟩
    refine ⟨_, rfl, x, T.CS, dx, _, rfl, hx, T.cs, T.nLine, (by show 0 < 1000; decide), ?_⟩
    refine k _ ?_ fun b o e hb => ?_
    · rw [upd_same]
      rfl
    · rw [upd_ne hb]
      exact e
theorem ok_create (T : Txt K mg) : FnOk P w K mg base (L2.CX P w) 20 T.d_create.f T.d_create.fd ["state", "numbers"] (spOp T.CF T.CS T.CL 0) := by
  refine T.d_create.F.okX sc_create (fun vs H Q E h => h.len) (fun cdv A outer s H vs Q E hr h => ?_)
  obtain ⟨st, l, sx, x, hx, rfl, hS, hl, hn, _, k1, k2⟩ := h
  obtain ⟨m, e, rfl⟩ := word0 hx
  obtain ⟨dx, y, hst⟩ : ∃ dx y, H st = some (.ins T.CS dx [(("line" : Str), y)]) := by
    cases sx with
    | none => exact ⟨_, _, hS.choose_spec⟩
    | some v =>
      obtain ⟨dx, a, h1, _⟩ := hS
      exact ⟨_, _, h1⟩
  refine ⟨_, (pss_cons (ps_asg (pv 1) (pg_lst rfl (pgs_cons (pg_name (i := 2) sc_create.nd rfl (Or.inl rfl)) (pgs_cons (pg_name (i := 3) sc_create.nd rfl (Or.inl rfl)) pgs_nil))))
    (pss_cons (ps_expr (pe_call (ok_check_speed T) (hr.mono (by decide)) (by rfl) T.d_check_speed.g T.d_check_speed.F.kp T.d_check_speed.b .nil (passes_call (W := fun cls d _ H => E cls d H) (takes_of rfl rfl rfl rfl) fun _ _ _ _ h => h) (by exact (pa_cons (pv 2) (pa_cons (pv 3) pa_nil)))))
    (pss_cons (ps_fld (pv 0) (pe_make T.mkL (ok_line_init T) (hr.mono (by decide)) (by rfl) T.gL T.bL .nil pass0 (by exact (pa_cons (pe_lst (by exact pa_nil)) (pa_cons (pv 2) (pa_cons (pv 3) pa_nil))))) rfl)
    (pss_one (ps_ret (pe_lst (by exact (pa_cons pe_int pa_nil)))))))), ?_⟩
  refine ⟨_, rfl, l, _, rfl, SqL.of hl, rfl, _, _, rfl, _, _, rfl, rfl, ?_⟩
  refine ⟨_, rfl, _, rfl, m, e, rfl, fun hv => ?_, fun hv => k1 _ (st_create_no hv)⟩
  refine ⟨(by show 0 ≤ sizeLine; decide), fun p hp => ⟨_, rfl, _, rfl, fun z dz nz nd ne => ⟨z, p, dz, ⟨[], m, e⟩, rfl, upd_same, fun H1 e1 kk => ⟨rfl, ?_⟩⟩⟩⟩
  have s1 : Same H (upd H p (.lst [])) := Same.new hp
  have mm := made (ts := []) (v := ⟨[], m, e⟩) nz nd upd_same .nil (GoodL.new hv) e1 kk
  have s2 := s1.trans mm.1
  refine ⟨_, rfl, st, T.CS, dx, _, rfl, s2 _ _ hst, T.cs, T.nLine, (by show 1 < 1000; decide), ?_⟩
  refine ⟨(by show 1 ≤ sizeLine; decide), fun r hr' => ?_⟩
  refine k2.wrote (fun _ f o hfo dx' a' dy' q' fs' h1 h2 => ?_) (st_create_ok hv) s2 (s2 _ _ hst) mm.2 (Same.new hr') hr' upd_same
  have hzs : z ≠ st := ne_of e1 (s2 _ _ hst) (ins_ne (by simp [lineF]))
  have s3 := Same.new (o := .lst [V.int 0]) hr'
  have h1' := (s3 _ _ (st_put (CS := T.CS) (dx := dx) (st := st) (z := z) (y := y) (H := H1))).symm.trans h1
  injection h1' with h1'
  injection h1' with _ _ h1'
  injection h1' with h1' _
  injection h1' with _ h1'
  injection h1' with h1'
  subst h1'
  have h2' := (s3 _ _ ((upd_ne hzs).trans e1)).symm.trans h2
  injection h2' with h2'
  injection h2' with _ _ h2'
  injection h2' with h2' _
  injection h2' with _ h2'
  injection h2' with h2'
  subst h2'
  exact Ne.symm (ne_of_none hfo hp)
theorem ok_add_pit (T : Txt K mg) : FnOk P w K mg base (L2.CX P w) 20 T.d_add_pit.f T.d_add_pit.fd ["state", "numbers"] (spOp T.CF T.CS T.CL 1) := by
  refine T.d_add_pit.F.okX sc_add_pit (fun vs H Q E h => h.len) (fun cdv A outer s H vs Q E hr h => ?_)
  obtain ⟨st, l, dx, a, v, x, hx, rfl, hst, hL, hl, hn, k1, k2⟩ := h.go (by decide)
  obtain ⟨m, e, rfl⟩ := word1 hx
  refine ⟨_, (pss_cons (ps_asg (pv 1) (pg_lst rfl (pgs_cons (pg_name (i := 2) sc_add_pit.nd rfl (Or.inl rfl)) (pgs_cons (pg_name (i := 3) sc_add_pit.nd rfl (Or.inl rfl)) pgs_nil))))
    (pss_cons (ps_expr (pe_call (ok_check_window T) (hr.mono (by decide)) (by rfl) T.d_check_window.g T.d_check_window.F.kp T.d_check_window.b .nil (passes_call (W := fun cls d _ H => E cls d H) (takes_of rfl rfl rfl rfl) fun _ _ _ _ h => h) (by exact (pa_cons (pv 2) (pa_cons (pv 3) pa_nil)))))
    (pss_cons (ps_fld (pv 0) (pe_call (ok_with_pit T) (hr.mono (by decide)) (by rfl) T.d_with_pit.g T.d_with_pit.F.kp T.d_with_pit.b .nil (passes_call (W := fun cls d _ H => E cls d H) (takes_of rfl rfl rfl rfl) fun _ _ _ _ h => h) (by exact (pa_cons (pe_fld (pv 0) rfl) (pa_cons (pv 2) (pa_cons (pv 3) pa_nil))))) rfl)
    (pss_one (ps_ret (pe_lst (by exact (pa_cons (pe_op op_sub (pe_callB call_len_seq (by rfl) T.n_len (by decide +kernel) (by exact (pa_cons (pe_fld (pe_fld (pv 0) rfl) rfl) pa_nil))) pe_int) pa_nil)))))))), ?_⟩
  refine ⟨_, rfl, l, _, rfl, SqL.of hl, rfl, _, _, rfl, _, _, rfl, rfl, ?_⟩
  refine ⟨_, rfl, _, rfl, m, e, rfl, fun hv => ?_, fun hv => k1 _ (st_add_no hv)⟩
  refine ⟨_, rfl, _, _, _, _, _, rfl, hst, T.cs, T.nLine, lk1, _, rfl, _, rfl, a, v, m, e, rfl, hL, hv, fun h4 => k1 _ (st_add_full hv h4), fun h4 H1 z s1 hz => ?_⟩
  have hz' := hz.put (s1 _ _ hst) (o := .ins T.CS dx (putF "line" (.ref z) [(("line" : Str), .ref a)]))
  obtain ⟨dy, q, ts, Lz⟩ := hz'
  have hs' := st_put (CS := T.CS) (dx := dx) (st := st) (z := z) (y := .ref a) (H := H1)
  refine ⟨_, rfl, st, T.CS, dx, _, rfl, s1 _ _ hst, T.cs, T.nLine, (by show 1 < 1000; decide), ?_⟩
  refine ⟨_, rfl, _, _, _, _, _, rfl, hs', T.cs, T.nLine, lk1, _, _, _, _, _, rfl, Lz.obj, T.cl, T.nPits, lk_pits, q, _, rfl, .inl (SqL.of Lz.lst), _, _, rfl, rfl, (by show 1 ≤ sizeLine; decide), fun r hr' => ?_⟩
  refine k2.wrote (fun z => by cases z) (st_add_ok hv h4) s1 (s1 _ _ hst) hz (Same.new hr') hr' ?_
  rw [upd_same]
  have ec : (RL ts).length = v.pits.length + 1 := by
    rw [List.length_map, Paired.len Lz.win]
    show (v.pits ++ [Kp396.Window.mk m e]).length = _
    rw [List.length_append]
    rfl
  rw [ec]
  show some (HO.lst [V.int (((v.pits.length + 1 : Nat) : Int) - 1)]) = some (HO.lst [V.int ((v.pits.length : Nat) : Int)])
  rw [show ((v.pits.length + 1 : Nat) : Int) - 1 = ((v.pits.length : Nat) : Int) by omega]
theorem ok_remove_pit (T : Txt K mg) : FnOk P w K mg base (L2.CX P w) 20 T.d_remove_pit.f T.d_remove_pit.fd ["state", "numbers"] (spOp T.CF T.CS T.CL 2) := by
  refine T.d_remove_pit.F.okX sc_remove_pit (fun vs H Q E h => h.len) (fun cdv A outer s H vs Q E hr h => ?_)
  obtain ⟨st, l, dx, a, v, x, hx, rfl, hst, hL, hl, hn, k1, k2⟩ := h.go (by decide)
  obtain ⟨i, rfl⟩ := word2 hx
  refine ⟨_, (pss_cons (ps_expr (pe_call (ok_check_pit T) (hr.mono (by decide)) (by rfl) T.d_check_pit.g T.d_check_pit.F.kp T.d_check_pit.b .nil (passes_call (W := fun cls d _ H => E cls d H) (takes_of rfl rfl rfl rfl) fun _ _ _ _ h => h) (by exact (pa_cons (pe_fld (pv 0) rfl) (pa_cons (pe_ix ix_list (pv 1) pe_int (fun _ _ => rfl)) pa_nil)))))
    (pss_cons (ps_fld (pv 0) (pe_call (ok_without_pit T) (hr.mono (by decide)) (by rfl) T.d_without_pit.g T.d_without_pit.F.kp T.d_without_pit.b .nil pass0 (by exact (pa_cons (pe_fld (pv 0) rfl) (pa_cons (pe_ix ix_list (pv 1) pe_int (fun _ _ => rfl)) pa_nil)))) rfl)
    (pss_one (ps_ret (pe_lst (by exact (pa_cons (pe_callB call_len_seq (by rfl) T.n_len (by decide +kernel) (by exact (pa_cons (pe_fld (pe_fld (pv 0) rfl) rfl) pa_nil))) pa_nil))))))), ?_⟩
  refine ⟨_, rfl, _, _, _, _, _, rfl, hst, T.cs, T.nLine, lk1, _, rfl, l, _, _, _, rfl, rfl, SqL.of hl, atI_nat (j := 0) rfl, a, v, i, rfl, hL, fun hv => ?_, fun hv => k1 _ (st_rem_no hv)⟩
  refine ⟨_, rfl, _, _, _, _, _, rfl, hst, T.cs, T.nLine, lk1, _, rfl, l, _, _, _, rfl, rfl, SqL.of hl, atI_nat (j := 0) rfl, a, v, i, rfl, hL, fun H1 z s1 hz => ?_⟩
  have hz' := hz.put (s1 _ _ hst) (o := .ins T.CS dx (putF "line" (.ref z) [(("line" : Str), .ref a)]))
  obtain ⟨dy, q, ts, Lz⟩ := hz'
  have hs' := st_put (CS := T.CS) (dx := dx) (st := st) (z := z) (y := .ref a) (H := H1)
  refine ⟨_, rfl, st, T.CS, dx, _, rfl, s1 _ _ hst, T.cs, T.nLine, (by show 1 < 1000; decide), ?_⟩
  refine ⟨_, rfl, _, _, _, _, _, rfl, hs', T.cs, T.nLine, lk1, _, _, _, _, _, rfl, Lz.obj, T.cl, T.nPits, lk_pits, q, _, rfl, .inl (SqL.of Lz.lst), (by show 1 ≤ sizeLine; decide), fun r hr' => ?_⟩
  refine k2.wrote (fun z => by cases z) (st_rem_ok hv) s1 (s1 _ _ hst) hz (Same.new hr') hr' ?_
  rw [upd_same]
  have ec : (RL ts).length = v.pits.length - 1 := by
    rw [List.length_map, Paired.len Lz.win]
    show (v.pits.eraseIdx i).length = _
    rw [List.length_eraseIdx_of_lt (of_decide_eq_true hv)]
  rw [ec]
  rfl
theorem ok_set_window (T : Txt K mg) : FnOk P w K mg base (L2.CX P w) 20 T.d_set_window.f T.d_set_window.fd ["state", "numbers"] (spOp T.CF T.CS T.CL 3) := by
  refine T.d_set_window.F.okX sc_set_window (fun vs H Q E h => h.len) (fun cdv A outer s H vs Q E hr h => ?_)
  obtain ⟨st, l, dx, a, v, x, hx, rfl, hst, hL, hl, hn, k1, k2⟩ := h.go (by decide)
  obtain ⟨i, m, e, rfl⟩ := word3 hx
  refine ⟨_, (pss_cons (ps_asg (pv 1) (pg_lst rfl (pgs_cons (pg_name (i := 2) sc_set_window.nd rfl (Or.inl rfl)) (pgs_cons (pg_name (i := 3) sc_set_window.nd rfl (Or.inl rfl)) (pgs_cons (pg_name (i := 4) sc_set_window.nd rfl (Or.inl rfl)) pgs_nil)))))
    (pss_cons (ps_expr (pe_call (ok_check_pit T) (hr.mono (by decide)) (by rfl) T.d_check_pit.g T.d_check_pit.F.kp T.d_check_pit.b .nil (passes_call (W := fun cls d _ H => E cls d H) (takes_of rfl rfl rfl rfl) fun _ _ _ _ h => h) (by exact (pa_cons (pe_fld (pv 0) rfl) (pa_cons (pv 2) pa_nil)))))
    (pss_cons (ps_expr (pe_call (ok_check_window T) (hr.mono (by decide)) (by rfl) T.d_check_window.g T.d_check_window.F.kp T.d_check_window.b .nil (passes_call (W := fun cls d _ H => E cls d H) (takes_of rfl rfl rfl rfl) fun _ _ _ _ h => h) (by exact (pa_cons (pv 3) (pa_cons (pv 4) pa_nil)))))
    (pss_cons (ps_set (i := 5) sc_set_window.nd rfl (Or.inl rfl) (by exact (pe_ix ix_list (pe_fld (pe_fld (pv 0) rfl) rfl) (pv 2) (fun _ _ => rfl))))
    (pss_cons (ps_fld (pv 0) (pe_call (ok_with_window T) (hr.mono (by decide)) (by rfl) T.d_with_window.g T.d_with_window.F.kp T.d_with_window.b .nil pass0 (by exact (pa_cons (pe_fld (pv 0) rfl) (pa_cons (pv 2) (pa_cons (pv 3) (pa_cons (pv 4) pa_nil)))))) rfl)
    (pss_one (ps_ret (pe_lst (by exact (pa_cons pe_int (pa_cons (pe_ix ix_tup (pv 5) pe_int (fun _ _ => rfl)) (pa_cons (pe_ix ix_tup (pv 5) pe_int (fun _ _ => rfl)) pa_nil)))))))))))), ?_⟩
  refine ⟨_, rfl, l, _, rfl, SqL.of hl, rfl, _, _, rfl, _, _, rfl, _, _, rfl, rfl, ?_⟩
  refine ⟨_, rfl, _, _, _, _, _, rfl, hst, T.cs, T.nLine, lk1, _, rfl, a, v, i, rfl, hL, fun hi => ?_, fun hv => k1 _ (st_set_no hv)⟩
  refine ⟨_, rfl, _, rfl, m, e, rfl, fun hv => ?_, fun hv => k1 _ (st_set_bad hi hv)⟩
  have hi' : i < v.pits.length := of_decide_eq_true hi
  have hwin : v.pits[i]? = some (Kp396.windowAt v i) := by
    unfold Kp396.windowAt
    rw [List.getD_eq_getElem?_getD, List.getElem?_eq_getElem hi']
    rfl
  obtain ⟨dw, p, ts0, L⟩ := hL
  obtain ⟨t, htl, hW⟩ := Paired.get L.win hwin
  refine ⟨_, rfl, _, _, _, _, _, rfl, hst, T.cs, T.nLine, lk1, _, _, _, _, _, rfl, L.obj, T.cl, T.nPits, lk_pits, _, rfl, p, _, _, V.ref t, rfl, rfl, SqL.of L.lst, atI_nat (at_map htl), ?_⟩
  refine ⟨_, rfl, _, _, _, _, _, rfl, hst, T.cs, T.nLine, lk1, _, rfl, _, rfl, _, rfl, a, v, i, m, e, rfl, ⟨dw, p, ts0, L⟩, hi, hv, fun H1 z s1 hz => ?_⟩
  refine ⟨_, rfl, st, T.CS, dx, _, rfl, s1 _ _ hst, T.cs, T.nLine, (by show 1 < 1000; decide), ?_⟩
  have hW2 : (upd H1 st (.ins T.CS dx (putF "line" (.ref z) [(("line" : Str), .ref a)]))) t = some (.tup [N (Kp396.windowAt v i).least, N (Kp396.windowAt v i).most]) := by
    rw [upd_ne (ne_of hW hst (by intro z; cases z))]
    exact s1 _ _ hW
  refine ⟨_, rfl, t, _, _, _, rfl, rfl, SqT.of hW2, rfl, _, rfl, t, _, _, _, rfl, rfl, SqT.of hW2, rfl, (by show 3 ≤ sizeLine; decide), fun r hr' => ?_⟩
  refine k2.wrote (fun z => by cases z) (st_set_ok hi hv) s1 (s1 _ _ hst) hz (Same.new hr') hr' ?_
  rw [upd_same]
  rfl
theorem ok_set_speed (T : Txt K mg) : FnOk P w K mg base (L2.CX P w) 20 T.d_set_speed.f T.d_set_speed.fd ["state", "numbers"] (spOp T.CF T.CS T.CL 4) := by
  refine T.d_set_speed.F.okX sc_set_speed (fun vs H Q E h => h.len) (fun cdv A outer s H vs Q E hr h => ?_)
  obtain ⟨st, l, dx, a, v, x, hx, rfl, hst, hL, hl, hn, k1, k2⟩ := h.go (by decide)
  obtain ⟨m, e, rfl⟩ := word4 hx
  refine ⟨_, (pss_cons (ps_asg (pv 1) (pg_lst rfl (pgs_cons (pg_name (i := 2) sc_set_speed.nd rfl (Or.inl rfl)) (pgs_cons (pg_name (i := 3) sc_set_speed.nd rfl (Or.inl rfl)) pgs_nil))))
    (pss_cons (ps_expr (pe_call (ok_check_speed T) (hr.mono (by decide)) (by rfl) T.d_check_speed.g T.d_check_speed.F.kp T.d_check_speed.b .nil (passes_call (W := fun cls d _ H => E cls d H) (takes_of rfl rfl rfl rfl) fun _ _ _ _ h => h) (by exact (pa_cons (pv 2) (pa_cons (pv 3) pa_nil)))))
    (pss_cons (ps_set (i := 4) sc_set_speed.nd rfl (Or.inl rfl) (by exact (pe_fld (pv 0) rfl)))
    (pss_cons (ps_fld (pv 0) (pe_call (ok_with_speed T) (hr.mono (by decide)) (by rfl) T.d_with_speed.g T.d_with_speed.F.kp T.d_with_speed.b .nil pass0 (by exact (pa_cons (pv 4) (pa_cons (pv 2) (pa_cons (pv 3) pa_nil))))) rfl)
    (pss_one (ps_ret (pe_lst (by exact (pa_cons pe_int (pa_cons (pe_fld (pv 4) rfl) (pa_cons (pe_fld (pv 4) rfl) pa_nil))))))))))), ?_⟩
  refine ⟨_, rfl, l, _, rfl, SqL.of hl, rfl, _, _, rfl, _, _, rfl, rfl, ?_⟩
  refine ⟨_, rfl, _, rfl, m, e, rfl, fun hv => ?_, fun hv => k1 _ (st_speed_no hv)⟩
  refine ⟨_, rfl, _, _, _, _, _, rfl, hst, T.cs, T.nLine, lk1, ?_⟩
  refine ⟨_, rfl, _, rfl, _, rfl, a, v, m, e, rfl, hL, hv, fun H1 z s1 hz => ?_⟩
  refine ⟨_, rfl, st, T.CS, dx, _, rfl, s1 _ _ hst, T.cs, T.nLine, (by show 1 < 1000; decide), ?_⟩
  obtain ⟨dw, p, ts0, L⟩ := (hL.same s1).put (s1 _ _ hst) (o := .ins T.CS dx (putF "line" (.ref z) [(("line" : Str), .ref a)]))
  refine ⟨_, rfl, _, _, _, _, _, rfl, L.obj, T.cl, T.nMove, lk_move, _, rfl, _, _, _, _, _, rfl, L.obj, T.cl, T.nEmpty, lk_empty, (by show 3 ≤ sizeLine; decide), fun r hr' => ?_⟩
  refine k2.wrote (fun z => by cases z) (st_speed_ok hv) s1 (s1 _ _ hst) hz (Same.new hr') hr' ?_
  rw [upd_same]
  rfl
theorem ok_get_pit (T : Txt K mg) : FnOk P w K mg base (L2.CX P w) 20 T.d_get_pit.f T.d_get_pit.fd ["state", "numbers"] (spOp T.CF T.CS T.CL 5) := by
  refine T.d_get_pit.F.okX sc_get_pit (fun vs H Q E h => h.len) (fun cdv A outer s H vs Q E hr h => ?_)
  obtain ⟨st, l, dx, a, v, x, hx, rfl, hst, hL, hl, hn, k1, k2⟩ := h.go (by decide)
  obtain ⟨i, rfl⟩ := word5 hx
  refine ⟨_, (pss_cons (ps_expr (pe_call (ok_check_pit T) (hr.mono (by decide)) (by rfl) T.d_check_pit.g T.d_check_pit.F.kp T.d_check_pit.b .nil (passes_call (W := fun cls d _ H => E cls d H) (takes_of rfl rfl rfl rfl) fun _ _ _ _ h => h) (by exact (pa_cons (pe_fld (pv 0) rfl) (pa_cons (pe_ix ix_list (pv 1) pe_int (fun _ _ => rfl)) pa_nil)))))
    (pss_one (ps_ret (pe_callTy call_list_of (by rfl) T.n_list (by decide +kernel) (by exact (pa_cons (pe_ix ix_list (pe_fld (pe_fld (pv 0) rfl) rfl) (pe_ix ix_list (pv 1) pe_int (fun _ _ => rfl)) (fun _ _ => rfl)) pa_nil)))))), ?_⟩
  refine ⟨_, rfl, _, _, _, _, _, rfl, hst, T.cs, T.nLine, lk1, _, rfl, l, _, _, _, rfl, rfl, SqL.of hl, atI_nat (j := 0) rfl, a, v, i, rfl, hL, fun hv => ?_, fun hv => k1 _ (st_get_no hv)⟩
  have hi' : i < v.pits.length := of_decide_eq_true hv
  have hwin : v.pits[i]? = some (Kp396.windowAt v i) := by
    unfold Kp396.windowAt
    rw [List.getD_eq_getElem?_getD, List.getElem?_eq_getElem hi']
    rfl
  have hS : StAt T.CS T.CL H st (some v) := ⟨dx, a, hst, hL⟩
  obtain ⟨dw, p, ts0, L⟩ := hL
  obtain ⟨t, htl, hW⟩ := Paired.get L.win hwin
  refine ⟨_, rfl, _, _, _, _, _, rfl, hst, T.cs, T.nLine, lk1, _, _, _, _, _, rfl, L.obj, T.cl, T.nPits, lk_pits, _, rfl, l, _, _, _, rfl, rfl, SqL.of hl, atI_nat (j := 0) rfl, p, _, _, V.ref t, rfl, rfl, SqL.of L.lst, atI_nat (at_map htl), t, _, rfl, .inr (SqT.of hW), fun r hr' => ?_⟩
  exact k2.read hS (st_get_ok hv) (Same.new hr') hr' upd_same
end
end Hm

/-! The operations that tell. -/
namespace Hm
open PySem PySem.Spec PyProof.Rows L2
theorem plan_le {v : Kp396.Line} (g : GoodL v) {t : Nat} {r : List Nat} (h : Kp396.firstPlan v t = some r) : r.length ≤ 4 := by
  rw [(firstPlan_some h).1]
  exact g.n4
section
variable {P : Program} {w : World} {K : PySem.W.Frag} {mg : Str → Option Value} {base : Heap}
theorem ok_tell_shortest (T : Txt K mg) : FnOk P w K mg base (L2.CX P w) 20 T.d_tell_shortest.f T.d_tell_shortest.fd ["state", "numbers"] (spOp T.CF T.CS T.CL 6) := by
  refine T.d_tell_shortest.F.okX sc_tell_shortest (fun vs H Q E h => h.len) (fun cdv A outer s H vs Q E hr h => ?_)
  obtain ⟨st, l, dx, a, v, x, hx, rfl, hst, hL, hl, hn, k1, k2⟩ := h.go (by decide)
  obtain rfl := word6 hx
  refine ⟨_, (pss_one (ps_ret (pe_lst (by exact (pa_cons (pe_call (ok_shortest_period T) (hr.mono (by decide)) (by rfl) T.d_shortest_period.g T.d_shortest_period.F.kp T.d_shortest_period.b .nil (passes_call (W := fun cls d _ H => E cls d H) (takes_of rfl rfl rfl rfl) fun _ _ _ _ h => h) (by exact (pa_cons (pe_fld (pv 0) rfl) pa_nil))) pa_nil))))), ?_⟩
  have hS : StAt T.CS T.CL H st (some v) := ⟨dx, a, hst, hL⟩
  refine ⟨_, rfl, _, _, _, _, _, rfl, hst, T.cs, T.nLine, lk1, a, v, rfl, hL, fun h0 => k1 _ (by rw [st_short, pr_none h0]), fun t h0 H1 s1 => ⟨(by show 1 ≤ sizeLine; decide), fun r hr' => ?_⟩⟩
  exact k2.read hS (by rw [st_short, pr_some h0]) (s1.trans (Same.new hr')) (Same.free s1 hr') upd_same
def sp_checked_plan (CF CS C : Addr) : Sp := fun vs H Q E => ∃ (st dx a : Addr) (v : Kp396.Line) (t : Nat), vs = [.ref st, N t] ∧ H st = some (.ins CS dx [(("line" : Str), .ref a)]) ∧ LineAt C H a v ∧
  (Kp396.validPeriod t = false → Thr CF (-22) H E) ∧ (Kp396.validPeriod t = true → Kp396.firstPlan v t = none → Thr CF (-33) H E) ∧
  (Kp396.validPeriod t = true → ∀ r, Kp396.firstPlan v t = some r → ∀ (H' : Hp) (q : Addr), Same H H' → PlanIn H' q r → Q (.ref q) H')
theorem ok_checked_plan (T : Txt K mg) : FnOk P w K mg base (L2.CX P w) 13 T.d_checked_plan.f T.d_checked_plan.fd ["state", "period"] (sp_checked_plan T.CF T.CS T.CL) := by
  refine T.d_checked_plan.F.okX sc_checked_plan (fun vs H Q E h => ?_) (fun cdv A outer s H vs Q E hr h => ?_)
  · obtain ⟨st, dx, a, v, t, rfl, _⟩ := h
    rfl
  · obtain ⟨st, dx, a, v, t, rfl, hst, hL, k1, k2, k3⟩ := h
    refine ⟨_, (pss_cons (ps_expr (pe_call (ok_check_period T) (hr.mono (by decide)) (by rfl) T.d_check_period.g T.d_check_period.F.kp T.d_check_period.b .nil (passes_call (W := fun cls d _ H => E cls d H) (takes_of rfl rfl rfl rfl) fun _ _ _ _ h => h) (by exact (pa_cons (pv 1) pa_nil))))
    (pss_one (ps_ret (pe_call (ok_first_plan T) (hr.mono (by decide)) (by rfl) T.d_first_plan.g T.d_first_plan.F.kp T.d_first_plan.b .nil (passes_call (W := fun cls d _ H => E cls d H) (takes_of rfl rfl rfl rfl) fun _ _ _ _ h => h) (by exact (pa_cons (pe_fld (pv 0) rfl) (pa_cons (pv 1) pa_nil))))))), ?_⟩
    refine ⟨_, rfl, t, rfl, fun hv => ?_, fun hv => k1 hv⟩
    exact ⟨_, rfl, _, _, _, _, _, rfl, hst, T.cs, T.nLine, lk1, _, rfl, a, v, t, rfl, hL, (period_valid hv).1, fun h0 => k2 hv h0, fun r h0 => k3 hv r h0⟩
theorem ok_tell_plan (T : Txt K mg) : FnOk P w K mg base (L2.CX P w) 20 T.d_tell_plan.f T.d_tell_plan.fd ["state", "numbers"] (spOp T.CF T.CS T.CL 7) := by
  refine T.d_tell_plan.F.okX sc_tell_plan (fun vs H Q E h => h.len) (fun cdv A outer s H vs Q E hr h => ?_)
  obtain ⟨st, l, dx, a, v, x, hx, rfl, hst, hL, hl, hn, k1, k2⟩ := h.go (by decide)
  obtain ⟨t, rfl⟩ := word7 hx
  refine ⟨_, (pss_cons (ps_set (i := 2) sc_tell_plan.nd rfl (Or.inl rfl) (by exact (pe_call (ok_checked_plan T) (hr.mono (by decide)) (by rfl) T.d_checked_plan.g T.d_checked_plan.F.kp T.d_checked_plan.b .nil (passes_call (W := fun cls d _ H => E cls d H) (takes_of rfl rfl rfl rfl) fun _ _ _ _ h => h) (by exact (pa_cons (pv 0) (pa_cons (pe_ix ix_list (pv 1) pe_int (fun _ _ => rfl)) pa_nil))))))
    (pss_one (ps_ret (pe_op op_cat (pe_lst (by exact (pa_cons (pe_callB call_len_seq (by rfl) T.n_len (by decide +kernel) (by exact (pa_cons (pv 2) pa_nil))) pa_nil))) (pv 2))))), ?_⟩
  have hS : StAt T.CS T.CL H st (some v) := ⟨dx, a, hst, hL⟩
  refine ⟨_, rfl, _, rfl, l, _, _, _, rfl, rfl, SqL.of hl, atI_nat (j := 0) rfl, st, dx, a, v, t, rfl, hst, hL, fun hv => k1 _ (by rw [st_plan, q_bad hv]), fun hv h0 => k1 _ (by rw [st_plan, q_none hv h0]), fun hv r h0 H1 q s1 hq => ?_⟩
  refine ⟨_, rfl, q, _, rfl, .inl (SqL.of hq), (by show 1 ≤ sizeLine; decide), fun c hc => ?_⟩
  have s2 := Same.new (o := .lst [V.int ((NL r).length : Int)]) hc
  refine ⟨_, rfl, c, q, _, _, rfl, rfl, upd_same, s2 _ _ hq, ?_, fun z hz => ?_⟩
  · have := plan_le hL.good h0
    rw [List.length_map]
    exact smallE (by show 1 + _ ≤ _; omega)
  · refine k2.read hS (by rw [st_plan, q_some hv h0]) ((s1.trans s2).trans (Same.new hz)) (Same.free (s1.trans s2) hz) ?_
    rw [upd_same, List.length_map]
    show some (HO.lst (NL (r.length :: r))) = _
    rw [nl_ans]
    rfl
theorem ok_tell_starts (T : Txt K mg) : FnOk P w K mg base (L2.CX P w) 20 T.d_tell_starts.f T.d_tell_starts.fd ["state", "numbers"] (spOp T.CF T.CS T.CL 8) := by
  refine T.d_tell_starts.F.okX sc_tell_starts (fun vs H Q E h => h.len) (fun cdv A outer s H vs Q E hr h => ?_)
  obtain ⟨st, l, dx, a, v, x, hx, rfl, hst, hL, hl, hn, k1, k2⟩ := h.go (by decide)
  obtain ⟨t, rfl⟩ := word8 hx
  refine ⟨_, (pss_cons (ps_set (i := 2) sc_tell_starts.nd rfl (Or.inl rfl) (by exact (pe_call (ok_starts_of T) (hr.mono (by decide)) (by rfl) T.d_starts_of.g T.d_starts_of.F.kp T.d_starts_of.b .nil pass0 (by exact (pa_cons (pe_fld (pv 0) rfl) (pa_cons (pe_call (ok_checked_plan T) (hr.mono (by decide)) (by rfl) T.d_checked_plan.g T.d_checked_plan.F.kp T.d_checked_plan.b .nil (passes_call (W := fun cls d _ H => E cls d H) (takes_of rfl rfl rfl rfl) fun _ _ _ _ h => h) (by exact (pa_cons (pv 0) (pa_cons (pe_ix ix_list (pv 1) pe_int (fun _ _ => rfl)) pa_nil)))) pa_nil))))))
    (pss_one (ps_ret (pe_op op_cat (pe_lst (by exact (pa_cons (pe_callB call_len_seq (by rfl) T.n_len (by decide +kernel) (by exact (pa_cons (pv 2) pa_nil))) pa_nil))) (pv 2))))), ?_⟩
  have hS : StAt T.CS T.CL H st (some v) := ⟨dx, a, hst, hL⟩
  refine ⟨_, rfl, _, _, _, _, _, rfl, hst, T.cs, T.nLine, lk1, _, rfl, _, rfl, l, _, _, _, rfl, rfl, SqL.of hl, atI_nat (j := 0) rfl, st, dx, a, v, t, rfl, hst, hL, fun hv => k1 _ (by rw [st_starts, q_bad hv]), fun hv h0 => k1 _ (by rw [st_starts, q_none hv h0]), fun hv r h0 H1 q s1 hq => ?_⟩
  have hr4 := plan_le hL.good h0
  refine ⟨a, q, v, r, rfl, hL.same s1, hq, by omega, fun H2 y s2 hy => ?_⟩
  refine ⟨_, rfl, y, _, rfl, .inl (SqL.of hy), (by show 1 ≤ sizeLine; decide), fun c hc => ?_⟩
  have s3 := Same.new (o := .lst [V.int ((NL (Kp396.startTimes v r)).length : Int)]) hc
  refine ⟨_, rfl, c, y, _, _, rfl, rfl, upd_same, s3 _ _ hy, ?_, fun z hz => ?_⟩
  · rw [List.length_map, times_len]
    exact smallE (by show 1 + _ ≤ _; omega)
  · refine k2.read hS (by rw [st_starts, q_some hv h0]) (((s1.trans s2).trans s3).trans (Same.new hz)) (Same.free ((s1.trans s2).trans s3) hz) ?_
    rw [upd_same, List.length_map]
    show some (HO.lst (NL ((Kp396.startTimes v r).length :: Kp396.startTimes v r))) = _
    rw [nl_ans]
    rfl
/-! ### a plan handed in -/
theorem cut_one (t : Nat) (pl : List Nat) : cutV (NL (t :: pl)) (some 1) none = NL pl := cut_drop (NL (t :: pl)) 0
theorem any_test (pl : List Nat) : (pl.map fun x : Nat => decide ((99 : Int) < (x : Int))).any id = !(pl.all fun x => decide (x ≤ Kp396.maxPeriod)) := by
  induction pl with
  | nil => rfl
  | cons x r ih =>
    rw [List.map_cons, List.any_cons, ih, List.all_cons, Bool.not_and]
    congr 1
    unfold Kp396.maxPeriod
    rw [Bool.eq_iff_iff]
    simp only [id, decide_eq_true_eq, Bool.not_eq_true', decide_eq_false_iff_not]
    omega
def sp_check_plan (CF CS C : Addr) : Sp := fun vs H Q E => ∃ (st l dx a : Addr) (v : Kp396.Line) (t : Nat) (pl : List Nat), vs = [.ref st, .ref l] ∧ H st = some (.ins CS dx [(("line" : Str), .ref a)]) ∧ LineAt C H a v ∧ H l = some (.lst (NL (t :: pl))) ∧ pl.length ≤ 7 ∧
  ((Kp396.validPeriod t && Kp396.validPlan v pl) = false → Thr CF (-22) H E) ∧ ((Kp396.validPeriod t && Kp396.validPlan v pl) = true → ∀ H' : Hp, Same H H' → Q .non H')
theorem ok_check_plan (T : Txt K mg) : FnOk P w K mg base (L2.CX P w) 13 T.d_check_plan.f T.d_check_plan.fd ["state", "numbers"] (sp_check_plan T.CF T.CS T.CL) := by
  refine T.d_check_plan.F.okX sc_check_plan (fun vs H Q E h => ?_) (fun cdv A outer s H vs Q E hr h => ?_)
  · obtain ⟨st, l, dx, a, v, t, pl, rfl, _⟩ := h
    rfl
  · obtain ⟨st, l, dx, a, v, t, pl, rfl, hst, ⟨dw, p, ts, L⟩, hl, hn, k1, k2⟩ := h
    refine ⟨_, (pss_cons (ps_expr (pe_call (ok_check_period T) (hr.mono (by decide)) (by rfl) T.d_check_period.g T.d_check_period.F.kp T.d_check_period.b .nil (passes_call (W := fun cls d _ H => E cls d H) (takes_of rfl rfl rfl rfl) fun _ _ _ _ h => h) (by exact (pa_cons (pe_ix ix_list (pv 1) pe_int (fun _ _ => rfl)) pa_nil))))
    (pss_cons (ps_expr (pe_call (ok_refuse T) (hr.mono (by decide)) (by rfl) T.d_refuse.g T.d_refuse.F.kp T.d_refuse.b .nil (passes_call (W := fun cls d _ H => E cls d H) (takes_of rfl rfl rfl rfl) fun _ _ _ _ h => h) (by exact (pa_cons (pe_cmp (pc_neI (pe_op op_sub (pe_callB call_len_seq (by rfl) T.n_len (by decide +kernel) (by exact (pa_cons (pv 1) pa_nil))) pe_int) (pe_callB call_len_seq (by rfl) T.n_len (by decide +kernel) (by exact (pa_cons (pe_fld (pe_fld (pv 0) rfl) rfl) pa_nil))))) (pa_cons (pe_num (by rfl) T.c_BAD_ARGUMENT) pa_nil)))))
    (pss_one (ps_expr (pe_call (ok_refuse T) (hr.mono (by decide)) (by rfl) T.d_refuse.g T.d_refuse.F.kp T.d_refuse.b .nil (passes_call (W := fun cls d _ H => E cls d H) (takes_of rfl rfl rfl rfl) fun _ _ _ _ h => h) (by exact (pa_cons (pe_callB (cr_any rfl) (by rfl) T.n_any (by decide +kernel) (by exact (pa_cons (pe_lc (own := [("stay", 2)]) (g := (gName 2)) (tt := tYes) rfl sc_check_plan.nd (pi_list (pe_slice sl_list (pv 1) (po_some pe_int) po_none)) (blkOk_by (own := [("stay", 2)]) (N := n_check_plan) (sc := defScope s_check_plan) (by decide +kernel)) (fun _ _ _ _ _ => (pg_name (i := 2) sc_check_plan.nd rfl (Or.inl rfl))) (fun _ _ _ _ _ => pts_nil) (fun _ _ _ _ _ => (pe_cmpR op_gt (pv 2) (pe_num (by rfl) T.c_LAST_PERIOD) (nomark _)))) pa_nil))) (pa_cons (pe_num (by rfl) T.c_BAD_ARGUMENT) pa_nil)))))))), ?_⟩
    refine ⟨_, rfl, l, _, _, _, rfl, rfl, SqL.of hl, atI_nat (j := 0) rfl, t, rfl, fun hv => ?_, fun hv => k1 (by rw [hv, Bool.false_and])⟩
    rw [hv, Bool.true_and] at k1 k2
    unfold Kp396.validPlan at k1 k2
    have ec : (!decide (((NL (t :: pl)).length : Int) - 1 = ((RL ts).length : Int))) = !decide (pl.length = v.pits.length) := by
      rw [L.count, List.length_map, List.length_cons]
      congr 1
      rw [Bool.eq_iff_iff, decide_eq_true_eq, decide_eq_true_eq]
      omega
    refine ⟨_, rfl, l, _, rfl, .inl (SqL.of hl), _, _, rfl, rfl, _, rfl, _, _, _, _, _, rfl, hst, T.cs, T.nLine, lk1, _, _, _, _, _, rfl, L.obj, T.cl, T.nPits, lk_pits, p, _, rfl, .inl (SqL.of L.lst), _, _, rfl, rfl, _, -22, rfl, fun hb => ?_, fun hb => ?_⟩
    · have hb0 := ec.symm.trans hb
      have hb' : decide (pl.length = v.pits.length) = true := by simpa using hb0
      rw [hb', Bool.true_and] at k1 k2
      refine ⟨_, rfl, _, rfl, l, _, rfl, SqL.of hl, fun c hc => ?_⟩
      have s1 := Same.new (o := .lst (cutV (NL (t :: pl)) (some 1) none)) hc
      refine ⟨c, rfl, ⟨_, SqL.of upd_same⟩, fun D hD => lc_list (K := K) (a := c) (xs := NL pl) (fun i H' => Same (upd H c (.lst (cutV (NL (t :: pl)) (some 1) none))) H' ∧ H' D = some (.lst ((pl.take i).map fun x : Nat => V.bl (decide ((99 : Int) < (x : Int))))))
        ⟨Same.new hD, upd_same⟩ (fun i H' _ hP => SqL.of (hP.1 _ _ (by rw [upd_same, cut_one]))) ?_ ?_⟩
      · rintro i x H' hi ⟨sm, hD'⟩
        obtain ⟨y, hy, rfl⟩ := map_at hi
        refine ⟨rfl, yes_then ?_⟩
        refine ⟨_, rfl, _, _, rfl, rfl, _, hD', ?_, Same.put sm hD, ?_⟩
        · have := List.length_take_le' i pl
          rw [List.length_map]
          exact small (by omega)
        · rw [upd_same, take_more hy, List.map_append]
          rfl
      · rintro H2 ⟨sm, hD2⟩
        rw [List.length_map, List.take_length] at hD2
        refine ⟨D, pl.map fun x : Nat => decide ((99 : Int) < (x : Int)), rfl, SqL.of (by rw [hD2, List.map_map]; rfl), _, -22, rfl, fun hb2 => ?_, fun hb2 => ?_⟩
        · rw [any_test] at hb2
          exact k2 (by simpa using hb2) H2 (s1.trans sm)
        · rw [any_test] at hb2
          exact (k1 (by simpa using hb2)).later (s1.trans sm)
    · have hb0 := ec.symm.trans hb
      have hb' : decide (pl.length = v.pits.length) = false := by simpa using hb0
      exact k1 (by rw [hb', Bool.false_and])
theorem ok_tell_feasible (T : Txt K mg) : FnOk P w K mg base (L2.CX P w) 20 T.d_tell_feasible.f T.d_tell_feasible.fd ["state", "numbers"] (spOp T.CF T.CS T.CL 9) := by
  refine T.d_tell_feasible.F.okX sc_tell_feasible (fun vs H Q E h => h.len) (fun cdv A outer s H vs Q E hr h => ?_)
  obtain ⟨st, l, dx, a, v, x, hx, rfl, hst, hL, hl, hn, k1, k2⟩ := h.go (by decide)
  obtain ⟨t, pl, rfl⟩ := word9 hx
  refine ⟨_, (pss_cons (ps_expr (pe_call (ok_check_plan T) (hr.mono (by decide)) (by rfl) T.d_check_plan.g T.d_check_plan.F.kp T.d_check_plan.b .nil (passes_call (W := fun cls d _ H => E cls d H) (takes_of rfl rfl rfl rfl) fun _ _ _ _ h => h) (by exact (pa_cons (pv 0) (pa_cons (pv 1) pa_nil)))))
    (pss_one (ps_ret (pe_lst (by exact (pa_cons (pe_callTy call_int1 (by rfl) T.n_int (by decide +kernel) (by exact (pa_cons (pe_call (ok_is_feasible T) (hr.mono (by decide)) (by rfl) T.d_is_feasible.g T.d_is_feasible.F.kp T.d_is_feasible.b .nil pass0 (by exact (pa_cons (pe_fld (pv 0) rfl) (pa_cons (pe_ix ix_list (pv 1) pe_int (fun _ _ => rfl)) (pa_cons (pe_slice sl_list (pv 1) (po_some pe_int) po_none) pa_nil))))) pa_nil))) pa_nil)))))), ?_⟩
  have hS : StAt T.CS T.CL H st (some v) := ⟨dx, a, hst, hL⟩
  have hl' : H l = some (.lst (NL (t :: pl))) := hl
  have hn' : pl.length ≤ 7 := Nat.le_of_succ_le (show pl.length + 1 ≤ 7 from hn)
  refine ⟨_, rfl, _, rfl, st, l, dx, a, v, t, pl, rfl, hst, hL, hl', hn', fun hv => k1 _ (st_feas_no hv), fun hv H1 s1 => ?_⟩
  have hst1 := s1 _ _ hst
  have hl1 := s1 _ _ hl'
  have hv' := hv
  unfold Kp396.validPlan at hv'
  rw [Bool.and_eq_true, Bool.and_eq_true, decide_eq_true_eq] at hv'
  refine ⟨_, rfl, _, _, _, _, _, rfl, hst1, T.cs, T.nLine, lk1, _, rfl, l, _, _, _, rfl, rfl, SqL.of hl1, atI_nat (j := 0) rfl, _, rfl, _, rfl, l, _, rfl, SqL.of hl1, fun c hc => ?_⟩
  have s2 := Same.new (o := .lst (cutV (NL (t :: pl)) (some 1) none)) hc
  have hpl : PlanIn (upd H1 c (.lst (cutV (NL (t :: pl)) (some 1) none))) c pl := by
    show upd _ _ _ _ = _
    rw [upd_same, cut_one]
  refine ⟨a, c, v, t, pl, rfl, (hL.same s1).same s2, hpl, hv'.2.1, (period_valid hv'.1).1, fun H2 s3 => .inr ⟨_, rfl, (by show 1 ≤ sizeLine; decide), fun r hr' => ?_⟩⟩
  exact k2.read hS (st_feas hv) (((s1.trans s2).trans s3).trans (Same.new hr')) (Same.free ((s1.trans s2).trans s3) hr') upd_same
theorem ok_tell_conflict (T : Txt K mg) : FnOk P w K mg base (L2.CX P w) 20 T.d_tell_conflict.f T.d_tell_conflict.fd ["state", "numbers"] (spOp T.CF T.CS T.CL 10) := by
  refine T.d_tell_conflict.F.okX sc_tell_conflict (fun vs H Q E h => h.len) (fun cdv A outer s H vs Q E hr h => ?_)
  obtain ⟨st, l, dx, a, v, x, hx, rfl, hst, hL, hl, hn, k1, k2⟩ := h.go (by decide)
  obtain ⟨t, pl, rfl⟩ := word10 hx
  refine ⟨_, (pss_cons (ps_expr (pe_call (ok_check_plan T) (hr.mono (by decide)) (by rfl) T.d_check_plan.g T.d_check_plan.F.kp T.d_check_plan.b .nil (passes_call (W := fun cls d _ H => E cls d H) (takes_of rfl rfl rfl rfl) fun _ _ _ _ h => h) (by exact (pa_cons (pv 0) (pa_cons (pv 1) pa_nil)))))
    (pss_cons (ps_set (i := 2) sc_tell_conflict.nd rfl (Or.inl rfl) (by exact (pe_call (ok_conflicts T) (hr.mono (by decide)) (by rfl) T.d_conflicts.g T.d_conflicts.F.kp T.d_conflicts.b .nil pass0 (by exact (pa_cons (pe_fld (pv 0) rfl) (pa_cons (pe_ix ix_list (pv 1) pe_int (fun _ _ => rfl)) (pa_cons (pe_slice sl_list (pv 1) (po_some pe_int) po_none) pa_nil)))))))
    (pss_cons (ps_expr (pe_call (ok_refuse T) (hr.mono (by decide)) (by rfl) T.d_refuse.g T.d_refuse.F.kp T.d_refuse.b .nil (passes_call (W := fun cls d _ H => E cls d H) (takes_of rfl rfl rfl rfl) fun _ _ _ _ h => h) (by exact (pa_cons (pe_cmpR (op_eqD hr.units) (pv 2) (pe_lst (by exact pa_nil)) (nomark _)) (pa_cons (pe_num (by rfl) T.c_NOTHING) pa_nil)))))
    (pss_one (ps_ret (pe_callTy call_list_of (by rfl) T.n_list (by decide +kernel) (by exact (pa_cons (pe_ix ix_list (pv 2) pe_int (fun _ _ => rfl)) pa_nil)))))))), ?_⟩
  have hS : StAt T.CS T.CL H st (some v) := ⟨dx, a, hst, hL⟩
  have hl' : H l = some (.lst (NL (t :: pl))) := hl
  have hn' : pl.length ≤ 7 := Nat.le_of_succ_le (show pl.length + 1 ≤ 7 from hn)
  refine ⟨_, rfl, _, rfl, st, l, dx, a, v, t, pl, rfl, hst, hL, hl', hn', fun hv => k1 _ (st_conf_no hv), fun hv H1 s1 => ?_⟩
  have hst1 := s1 _ _ hst
  have hl1 := s1 _ _ hl'
  have hv' := hv
  rw [Bool.and_eq_true] at hv'
  refine ⟨_, rfl, _, _, _, _, _, rfl, hst1, T.cs, T.nLine, lk1, _, rfl, l, _, _, _, rfl, rfl, SqL.of hl1, atI_nat (j := 0) rfl, _, rfl, _, rfl, l, _, rfl, SqL.of hl1, fun c hc => ?_⟩
  have s2 := Same.new (o := .lst (cutV (NL (t :: pl)) (some 1) none)) hc
  have hpl : PlanIn (upd H1 c (.lst (cutV (NL (t :: pl)) (some 1) none))) c pl := by
    show upd _ _ _ _ = _
    rw [upd_same, cut_one]
  refine ⟨a, c, v, t, pl, rfl, (hL.same s1).same s2, hpl, by omega, (period_valid hv'.1).1, fun H2 f ts s3 hf hts => ?_⟩
  refine ⟨_, rfl, (by show 0 ≤ sizeLine; decide), fun e he => ?_⟩
  have s4 : Same H2 (upd H2 e (.lst [])) := Same.new he
  refine ⟨_, _, .lst (SqL.of (s4 _ _ hf)) (pairs_data (Paired.sameX s4 hts)), .lst (SqL.of upd_same) .nil, pairs_shaped _, rfl, _, -33, rfl, fun hb => ?_, fun hb => ?_⟩
  · rw [pairs_eqv] at hb
    have hne := of_decide_eq_false hb
    cases hc2 : confs v t pl with
    | nil => exact absurd hc2 hne
    | cons y r =>
      rw [hc2] at hts
      cases hts with
      | @cons t0 _ ts' _ h0 _ =>
        refine ⟨_, rfl, f, _, _, V.ref t0, rfl, rfl, SqL.of (s4 _ _ hf), atI_nat (j := 0) rfl, t0, _, rfl, .inr (SqT.of (s4 _ _ h0)), fun z hz => ?_⟩
        exact k2.read hS (st_conf_some hv hc2) ((((s1.trans s2).trans s3).trans s4).trans (Same.new hz)) (Same.free (((s1.trans s2).trans s3).trans s4) hz) upd_same
  · rw [pairs_eqv] at hb
    exact (k1 _ (st_conf_none hv (of_decide_eq_true hb))).later (((s1.trans s2).trans s3).trans s4)
theorem ok_tell_count (T : Txt K mg) : FnOk P w K mg base (L2.CX P w) 20 T.d_tell_count.f T.d_tell_count.fd ["state", "numbers"] (spOp T.CF T.CS T.CL 11) := by
  refine T.d_tell_count.F.okX sc_tell_count (fun vs H Q E h => h.len) (fun cdv A outer s H vs Q E hr h => ?_)
  obtain ⟨st, l, dx, a, v, x, hx, rfl, hst, hL, hl, hn, k1, k2⟩ := h.go (by decide)
  obtain ⟨t, rfl⟩ := word11 hx
  refine ⟨_, (pss_cons (ps_expr (pe_call (ok_check_period T) (hr.mono (by decide)) (by rfl) T.d_check_period.g T.d_check_period.F.kp T.d_check_period.b .nil (passes_call (W := fun cls d _ H => E cls d H) (takes_of rfl rfl rfl rfl) fun _ _ _ _ h => h) (by exact (pa_cons (pe_ix ix_list (pv 1) pe_int (fun _ _ => rfl)) pa_nil))))
    (pss_one (ps_ret (pe_lst (by exact (pa_cons (pe_callB call_len_seq (by rfl) T.n_len (by decide +kernel) (by exact (pa_cons (pe_call (ok_feasible_plans T) (hr.mono (by decide)) (by rfl) T.d_feasible_plans.g T.d_feasible_plans.F.kp T.d_feasible_plans.b .nil pass0 (by exact (pa_cons (pe_fld (pv 0) rfl) (pa_cons (pe_ix ix_list (pv 1) pe_int (fun _ _ => rfl)) pa_nil)))) pa_nil))) pa_nil)))))), ?_⟩
  have hS : StAt T.CS T.CL H st (some v) := ⟨dx, a, hst, hL⟩
  refine ⟨_, rfl, l, _, _, _, rfl, rfl, SqL.of hl, atI_nat (j := 0) rfl, t, rfl, fun hv => ?_, fun hv => k1 _ (st_count_no hv)⟩
  refine ⟨_, rfl, _, _, _, _, _, rfl, hst, T.cs, T.nLine, lk1, _, rfl, l, _, _, _, rfl, rfl, SqL.of hl, atI_nat (j := 0) rfl, a, v, t, rfl, hL, (period_valid hv).1, fun H1 r qs s1 hr1 hqs => ?_⟩
  refine ⟨r, _, rfl, .inl (SqL.of hr1), (by show 1 ≤ sizeLine; decide), fun z hz => ?_⟩
  refine k2.read hS (st_count hv) (s1.trans (Same.new hz)) (Same.free s1 hz) ?_
  rw [upd_same, List.length_map, Paired.len hqs]
  rfl
theorem ok_tell_throughput (T : Txt K mg) : FnOk P w K mg base (L2.CX P w) 20 T.d_tell_throughput.f T.d_tell_throughput.fd ["state", "numbers"] (spOp T.CF T.CS T.CL 12) := by
  refine T.d_tell_throughput.F.okX sc_tell_throughput (fun vs H Q E h => h.len) (fun cdv A outer s H vs Q E hr h => ?_)
  obtain ⟨st, l, dx, a, v, x, hx, rfl, hst, hL, hl, hn, k1, k2⟩ := h.go (by decide)
  obtain ⟨t, rfl⟩ := word12 hx
  refine ⟨_, (pss_one (ps_ret (pe_lst (by exact (pa_cons (pe_call (ok_throughput_time T) (hr.mono (by decide)) (by rfl) T.d_throughput_time.g T.d_throughput_time.F.kp T.d_throughput_time.b .nil pass0 (by exact (pa_cons (pe_fld (pv 0) rfl) (pa_cons (pe_call (ok_checked_plan T) (hr.mono (by decide)) (by rfl) T.d_checked_plan.g T.d_checked_plan.F.kp T.d_checked_plan.b .nil (passes_call (W := fun cls d _ H => E cls d H) (takes_of rfl rfl rfl rfl) fun _ _ _ _ h => h) (by exact (pa_cons (pv 0) (pa_cons (pe_ix ix_list (pv 1) pe_int (fun _ _ => rfl)) pa_nil)))) pa_nil)))) pa_nil))))), ?_⟩
  have hS : StAt T.CS T.CL H st (some v) := ⟨dx, a, hst, hL⟩
  refine ⟨_, rfl, _, _, _, _, _, rfl, hst, T.cs, T.nLine, lk1, _, rfl, _, rfl, l, _, _, _, rfl, rfl, SqL.of hl, atI_nat (j := 0) rfl, st, dx, a, v, t, rfl, hst, hL, fun hv => k1 _ (by rw [st_through, q_bad hv]), fun hv h0 => k1 _ (by rw [st_through, q_none hv h0]), fun hv r h0 H1 q s1 hq => ?_⟩
  have hr4 := plan_le hL.good h0
  refine ⟨a, q, v, r, rfl, hL.same s1, hq, by omega, fun H2 s2 => ⟨(by show 1 ≤ sizeLine; decide), fun z hz => ?_⟩⟩
  exact k2.read hS (by rw [st_through, q_some hv h0]) ((s1.trans s2).trans (Same.new hz)) (Same.free (s1.trans s2) hz) upd_same
theorem ok_tell_occupied (T : Txt K mg) : FnOk P w K mg base (L2.CX P w) 20 T.d_tell_occupied.f T.d_tell_occupied.fd ["state", "numbers"] (spOp T.CF T.CS T.CL 13) := by
  refine T.d_tell_occupied.F.okX sc_tell_occupied (fun vs H Q E h => h.len) (fun cdv A outer s H vs Q E hr h => ?_)
  obtain ⟨st, l, dx, a, v, x, hx, rfl, hst, hL, hl, hn, k1, k2⟩ := h.go (by decide)
  obtain ⟨t, rfl⟩ := word13 hx
  refine ⟨_, (pss_one (ps_ret (pe_lst (by exact (pa_cons (pe_call (ok_most_occupied T) (hr.mono (by decide)) (by rfl) T.d_most_occupied.g T.d_most_occupied.F.kp T.d_most_occupied.b .nil pass0 (by exact (pa_cons (pe_fld (pv 0) rfl) (pa_cons (pe_ix ix_list (pv 1) pe_int (fun _ _ => rfl)) (pa_cons (pe_call (ok_checked_plan T) (hr.mono (by decide)) (by rfl) T.d_checked_plan.g T.d_checked_plan.F.kp T.d_checked_plan.b .nil (passes_call (W := fun cls d _ H => E cls d H) (takes_of rfl rfl rfl rfl) fun _ _ _ _ h => h) (by exact (pa_cons (pv 0) (pa_cons (pe_ix ix_list (pv 1) pe_int (fun _ _ => rfl)) pa_nil)))) pa_nil))))) pa_nil))))), ?_⟩
  have hS : StAt T.CS T.CL H st (some v) := ⟨dx, a, hst, hL⟩
  refine ⟨_, rfl, _, _, _, _, _, rfl, hst, T.cs, T.nLine, lk1, _, rfl, l, _, _, _, rfl, rfl, SqL.of hl, atI_nat (j := 0) rfl, _, rfl, _, rfl, l, _, _, _, rfl, rfl, SqL.of hl, atI_nat (j := 0) rfl, st, dx, a, v, t, rfl, hst, hL,
    fun hv => k1 _ (by rw [st_occ, q_bad hv]), fun hv h0 => k1 _ (by rw [st_occ, q_none hv h0]), fun hv r h0 H1 q s1 hq => ?_⟩
  have hr4 := plan_le hL.good h0
  have hp := period_valid hv
  refine ⟨a, q, v, t, r, rfl, hL.same s1, hq, by omega, hp.1, hp.2, fun H2 s2 => ⟨(by show 1 ≤ sizeLine; decide), fun z hz => ?_⟩⟩
  exact k2.read hS (by rw [st_occ, q_some hv h0]) ((s1.trans s2).trans (Same.new hz)) (Same.free (s1.trans s2) hz) upd_same
theorem ok_tell_completion (T : Txt K mg) : FnOk P w K mg base (L2.CX P w) 20 T.d_tell_completion.f T.d_tell_completion.fd ["state", "numbers"] (spOp T.CF T.CS T.CL 14) := by
  refine T.d_tell_completion.F.okX sc_tell_completion (fun vs H Q E h => h.len) (fun cdv A outer s H vs Q E hr h => ?_)
  obtain ⟨st, l, dx, a, v, x, hx, rfl, hst, hL, hl, hn, k1, k2⟩ := h.go (by decide)
  obtain ⟨t, n, rfl⟩ := word14 hx
  refine ⟨_, (pss_cons (ps_asg (pv 1) (pg_lst rfl (pgs_cons (pg_name (i := 2) sc_tell_completion.nd rfl (Or.inl rfl)) (pgs_cons (pg_name (i := 3) sc_tell_completion.nd rfl (Or.inl rfl)) pgs_nil))))
    (pss_cons (ps_expr (pe_call (ok_check_period T) (hr.mono (by decide)) (by rfl) T.d_check_period.g T.d_check_period.F.kp T.d_check_period.b .nil (passes_call (W := fun cls d _ H => E cls d H) (takes_of rfl rfl rfl rfl) fun _ _ _ _ h => h) (by exact (pa_cons (pv 3) pa_nil))))
    (pss_one (ps_ret (pe_lst (by exact (pa_cons (pe_call (ok_completion_time T) (hr.mono (by decide)) (by rfl) T.d_completion_time.g T.d_completion_time.F.kp T.d_completion_time.b .nil pass0 (by exact (pa_cons (pe_fld (pv 0) rfl) (pa_cons (pv 2) (pa_cons (pe_call (ok_checked_plan T) (hr.mono (by decide)) (by rfl) T.d_checked_plan.g T.d_checked_plan.F.kp T.d_checked_plan.b .nil (passes_call (W := fun cls d _ H => E cls d H) (takes_of rfl rfl rfl rfl) fun _ _ _ _ h => h) (by exact (pa_cons (pv 0) (pa_cons (pv 2) pa_nil)))) (pa_cons (pv 3) pa_nil)))))) pa_nil))))))), ?_⟩
  have hS : StAt T.CS T.CL H st (some v) := ⟨dx, a, hst, hL⟩
  refine ⟨_, rfl, l, _, rfl, SqL.of hl, rfl, _, _, rfl, _, _, rfl, rfl, ?_⟩
  refine ⟨_, rfl, n, rfl, fun hn2 => ?_, fun hv => k1 _ (st_comp_no hv)⟩
  refine ⟨_, rfl, _, _, _, _, _, rfl, hst, T.cs, T.nLine, lk1, _, rfl, _, rfl, _, rfl, st, dx, a, v, t, rfl, hst, hL, fun hv => k1 _ (by rw [st_comp hn2, q_bad hv]), fun hv h0 => k1 _ (by rw [st_comp hn2, q_none hv h0]), fun hv r h0 H1 q s1 hq => ?_⟩
  have hr4 := plan_le hL.good h0
  have hp := period_valid hn2
  refine ⟨_, rfl, a, q, v, t, n, r, rfl, hL.same s1, hq, by omega, hp.1, hp.2, fun H2 s2 => ⟨(by show 1 ≤ sizeLine; decide), fun z hz => ?_⟩⟩
  exact k2.read hS (by rw [st_comp hn2, q_some hv h0]) ((s1.trans s2).trans (Same.new hz)) (Same.free (s1.trans s2) hz) upd_same
theorem ok_shortest_with_window (T : Txt K mg) : FnOk P w K mg base (L2.CX P w) 20 T.d_shortest_with_window.f T.d_shortest_with_window.fd ["state", "numbers"] (spOp T.CF T.CS T.CL 15) := by
  refine T.d_shortest_with_window.F.okX sc_shortest_with_window (fun vs H Q E h => h.len) (fun cdv A outer s H vs Q E hr h => ?_)
  obtain ⟨st, l, dx, a, v, x, hx, rfl, hst, hL, hl, hn, k1, k2⟩ := h.go (by decide)
  obtain ⟨i, m, e, rfl⟩ := word15 hx
  refine ⟨_, (pss_cons (ps_asg (pv 1) (pg_lst rfl (pgs_cons (pg_name (i := 2) sc_shortest_with_window.nd rfl (Or.inl rfl)) (pgs_cons (pg_name (i := 3) sc_shortest_with_window.nd rfl (Or.inl rfl)) (pgs_cons (pg_name (i := 4) sc_shortest_with_window.nd rfl (Or.inl rfl)) pgs_nil)))))
    (pss_cons (ps_expr (pe_call (ok_check_pit T) (hr.mono (by decide)) (by rfl) T.d_check_pit.g T.d_check_pit.F.kp T.d_check_pit.b .nil (passes_call (W := fun cls d _ H => E cls d H) (takes_of rfl rfl rfl rfl) fun _ _ _ _ h => h) (by exact (pa_cons (pe_fld (pv 0) rfl) (pa_cons (pv 2) pa_nil)))))
    (pss_cons (ps_expr (pe_call (ok_check_window T) (hr.mono (by decide)) (by rfl) T.d_check_window.g T.d_check_window.F.kp T.d_check_window.b .nil (passes_call (W := fun cls d _ H => E cls d H) (takes_of rfl rfl rfl rfl) fun _ _ _ _ h => h) (by exact (pa_cons (pv 3) (pa_cons (pv 4) pa_nil)))))
    (pss_one (ps_ret (pe_lst (by exact (pa_cons (pe_call (ok_shortest_period T) (hr.mono (by decide)) (by rfl) T.d_shortest_period.g T.d_shortest_period.F.kp T.d_shortest_period.b .nil (passes_call (W := fun cls d _ H => E cls d H) (takes_of rfl rfl rfl rfl) fun _ _ _ _ h => h) (by exact (pa_cons (pe_call (ok_with_window T) (hr.mono (by decide)) (by rfl) T.d_with_window.g T.d_with_window.F.kp T.d_with_window.b .nil pass0 (by exact (pa_cons (pe_fld (pv 0) rfl) (pa_cons (pv 2) (pa_cons (pv 3) (pa_cons (pv 4) pa_nil)))))) pa_nil))) pa_nil)))))))), ?_⟩
  have hS : StAt T.CS T.CL H st (some v) := ⟨dx, a, hst, hL⟩
  refine ⟨_, rfl, l, _, rfl, SqL.of hl, rfl, _, _, rfl, _, _, rfl, _, _, rfl, rfl, ?_⟩
  refine ⟨_, rfl, _, _, _, _, _, rfl, hst, T.cs, T.nLine, lk1, _, rfl, a, v, i, rfl, hL, fun hi => ?_, fun hv => k1 _ (st_sww_no hv)⟩
  refine ⟨_, rfl, _, rfl, m, e, rfl, fun hv => ?_, fun hv => k1 _ (st_sww_bad hi hv)⟩
  refine ⟨_, rfl, _, _, _, _, _, rfl, hst, T.cs, T.nLine, lk1, _, rfl, _, rfl, _, rfl, a, v, i, m, e, rfl, hL, hi, hv, fun H1 z s1 hz => ?_⟩
  refine ⟨z, _, rfl, hz, fun h0 => (k1 _ (by rw [st_sww hi hv, pr_none h0])).later s1, fun t h0 H2 s2 => ⟨(by show 1 ≤ sizeLine; decide), fun r hr' => ?_⟩⟩
  exact k2.read hS (by rw [st_sww hi hv, pr_some h0]) ((s1.trans s2).trans (Same.new hr')) (Same.free (s1.trans s2) hr') upd_same
theorem ok_shortest_with_speed (T : Txt K mg) : FnOk P w K mg base (L2.CX P w) 20 T.d_shortest_with_speed.f T.d_shortest_with_speed.fd ["state", "numbers"] (spOp T.CF T.CS T.CL 16) := by
  refine T.d_shortest_with_speed.F.okX sc_shortest_with_speed (fun vs H Q E h => h.len) (fun cdv A outer s H vs Q E hr h => ?_)
  obtain ⟨st, l, dx, a, v, x, hx, rfl, hst, hL, hl, hn, k1, k2⟩ := h.go (by decide)
  obtain ⟨m, e, rfl⟩ := word16 hx
  refine ⟨_, (pss_cons (ps_asg (pv 1) (pg_lst rfl (pgs_cons (pg_name (i := 2) sc_shortest_with_speed.nd rfl (Or.inl rfl)) (pgs_cons (pg_name (i := 3) sc_shortest_with_speed.nd rfl (Or.inl rfl)) pgs_nil))))
    (pss_cons (ps_expr (pe_call (ok_check_speed T) (hr.mono (by decide)) (by rfl) T.d_check_speed.g T.d_check_speed.F.kp T.d_check_speed.b .nil (passes_call (W := fun cls d _ H => E cls d H) (takes_of rfl rfl rfl rfl) fun _ _ _ _ h => h) (by exact (pa_cons (pv 2) (pa_cons (pv 3) pa_nil)))))
    (pss_one (ps_ret (pe_lst (by exact (pa_cons (pe_call (ok_shortest_period T) (hr.mono (by decide)) (by rfl) T.d_shortest_period.g T.d_shortest_period.F.kp T.d_shortest_period.b .nil (passes_call (W := fun cls d _ H => E cls d H) (takes_of rfl rfl rfl rfl) fun _ _ _ _ h => h) (by exact (pa_cons (pe_call (ok_with_speed T) (hr.mono (by decide)) (by rfl) T.d_with_speed.g T.d_with_speed.F.kp T.d_with_speed.b .nil pass0 (by exact (pa_cons (pe_fld (pv 0) rfl) (pa_cons (pv 2) (pa_cons (pv 3) pa_nil))))) pa_nil))) pa_nil))))))), ?_⟩
  have hS : StAt T.CS T.CL H st (some v) := ⟨dx, a, hst, hL⟩
  refine ⟨_, rfl, l, _, rfl, SqL.of hl, rfl, _, _, rfl, _, _, rfl, rfl, ?_⟩
  refine ⟨_, rfl, _, rfl, m, e, rfl, fun hv => ?_, fun hv => k1 _ (st_sws_no hv)⟩
  refine ⟨_, rfl, _, _, _, _, _, rfl, hst, T.cs, T.nLine, lk1, _, rfl, _, rfl, a, v, m, e, rfl, hL, hv, fun H1 z s1 hz => ?_⟩
  refine ⟨z, _, rfl, hz, fun h0 => (k1 _ (by rw [st_sws hv, pr_none h0])).later s1, fun t h0 H2 s2 => ⟨(by show 1 ≤ sizeLine; decide), fun r hr' => ?_⟩⟩
  exact k2.read hS (by rw [st_sws hv, pr_some h0]) ((s1.trans s2).trans (Same.new hr')) (Same.free (s1.trans s2) hr') upd_same
theorem ok_tell_periods (T : Txt K mg) : FnOk P w K mg base (L2.CX P w) 20 T.d_tell_periods.f T.d_tell_periods.fd ["state", "numbers"] (spOp T.CF T.CS T.CL 17) := by
  refine T.d_tell_periods.F.okX sc_tell_periods (fun vs H Q E h => h.len) (fun cdv A outer s H vs Q E hr h => ?_)
  obtain ⟨st, l, dx, a, v, x, hx, rfl, hst, hL, hl, hn, k1, k2⟩ := h.go (by decide)
  obtain rfl := word17 hx
  refine ⟨_, (pss_cons (ps_set (i := 2) sc_tell_periods.nd rfl (Or.inl rfl) (by exact (pe_call (ok_feasible_periods T) (hr.mono (by decide)) (by rfl) T.d_feasible_periods.g T.d_feasible_periods.F.kp T.d_feasible_periods.b .nil pass0 (by exact (pa_cons (pe_fld (pv 0) rfl) pa_nil)))))
    (pss_one (ps_ret (pe_op op_cat (pe_lst (by exact (pa_cons (pe_callB call_len_seq (by rfl) T.n_len (by decide +kernel) (by exact (pa_cons (pv 2) pa_nil))) pa_nil))) (pv 2))))), ?_⟩
  have hS : StAt T.CS T.CL H st (some v) := ⟨dx, a, hst, hL⟩
  refine ⟨_, rfl, _, _, _, _, _, rfl, hst, T.cs, T.nLine, lk1, a, v, rfl, hL, fun H1 q s1 hq => ?_⟩
  rw [← periods_end] at hq
  have hlen := periodsTo_len v 99
  refine ⟨_, rfl, q, _, rfl, .inl (SqL.of hq), (by show 1 ≤ sizeLine; decide), fun c hc => ?_⟩
  have s2 := Same.new (o := .lst [V.int ((NL (periodsTo v 99)).length : Int)]) hc
  refine ⟨_, rfl, c, q, _, _, rfl, rfl, upd_same, s2 _ _ hq, ?_, fun z hz => ?_⟩
  · rw [List.length_map]
    exact smallE (by show 1 + _ ≤ _; omega)
  · refine k2.read hS st_periods ((s1.trans s2).trans (Same.new hz)) (Same.free (s1.trans s2) hz) ?_
    rw [upd_same, List.length_map]
    show some (HO.lst (NL ((periodsTo v 99).length :: periodsTo v 99))) = _
    rw [nl_ans]
    rfl
theorem ok_tell_status (T : Txt K mg) : FnOk P w K mg base (L2.CX P w) 20 T.d_tell_status.f T.d_tell_status.fd ["state", "numbers"] (spOp T.CF T.CS T.CL 18) := by
  refine T.d_tell_status.F.okX sc_tell_status (fun vs H Q E h => h.len) (fun cdv A outer s H vs Q E hr h => ?_)
  obtain ⟨st, l, dx, a, v, x, hx, rfl, hst, hL, hl, hn, k1, k2⟩ := h.go (by decide)
  obtain rfl := word18 hx
  refine ⟨_, (pss_cons (ps_set (i := 2) sc_tell_status.nd rfl (Or.inl rfl) (by exact (pe_fld (pv 0) rfl)))
    (pss_one (ps_ret (pe_lst (by exact (pa_cons (pe_callB call_len_seq (by rfl) T.n_len (by decide +kernel) (by exact (pa_cons (pe_fld (pv 2) rfl) pa_nil))) (pa_cons (pe_fld (pv 2) rfl) (pa_cons (pe_fld (pv 2) rfl) (pa_cons (pe_call (ok_bound_of T) (hr.mono (by decide)) (by rfl) T.d_bound_of.g T.d_bound_of.F.kp T.d_bound_of.b .nil pass0 (by exact (pa_cons (pv 2) pa_nil))) pa_nil))))))))), ?_⟩
  have hS : StAt T.CS T.CL H st (some v) := ⟨dx, a, hst, hL⟩
  obtain ⟨dw, p, ts, L⟩ := hL
  refine ⟨_, rfl, _, _, _, _, _, rfl, hst, T.cs, T.nLine, lk1, ?_⟩
  refine ⟨_, rfl, _, _, _, _, _, rfl, L.obj, T.cl, T.nPits, lk_pits, p, _, rfl, .inl (SqL.of L.lst), _, rfl, _, _, _, _, _, rfl, L.obj, T.cl, T.nMove, lk_move, _, rfl, _, _, _, _, _, rfl, L.obj, T.cl, T.nEmpty, lk_empty, _, rfl, a, v, rfl, ⟨dw, p, ts, L⟩, (by show 4 ≤ sizeLine; decide), fun z hz => ?_⟩
  refine k2.read hS st_status (Same.new hz) hz ?_
  rw [upd_same, L.count]
  rfl
end
end Hm

/-! A call answered; the list of calls. -/
namespace Hm
open PySem PySem.Spec PyProof.Rows L2
/-! ### a local name that holds one of the operations, called within a try -/
def tAny (j : Nat) (fs : List Addr) (F : Nat → Sp) (E : L2.St → XK) (t : TA) : TE := fun σ H Q => ∃ (i : Nat) (f : Addr), σ[j]? = some (some (.ref f)) ∧ fs[i]? = some f ∧ t σ H fun vs H1 => F i vs H1 Q (E σ)
theorem pe_any {X : Cx} {k j : Nat} {fs : List Addr} {F : Nat → Sp} {E : L2.St → XK} {x : Str} {p pos : Pos} {e : Expr} {es : List Expr} {t : TA}
    (A : ∀ i f, fs[i]? = some f → ∃ fd ps, FnOk X.prog X.w X.K X.mg X.base (L2.CX X.prog X.w) k f fd ps (F i) ∧ PySem.W.keepIn X.K (.ref f) = true ∧ Binds X.K fd ps [])
    (hr : Room k X.A) (hN : X.N[j]? = some x) (hv : Vis X.env.scope x) (hx : ∀ σ, PassesAt (L2.CX X.prog X.w) X σ (E σ)) (ha : PA X (e :: es) t)
    (hdb : (x == ("__debug__" : Str)) = false := by decide) (hcd : (x == ("__classdict__" : Str)) = false := by decide)
    (he : starEach (e :: es) X.env = (false, eval e X.env) :: starEach es X.env := by rfl) (hpl : (backTo pos (starEach es X.env)).any (·.1) = false := by rfl) :
    PE X (.Call (.Name x p) (e :: es) [] pos) (tAny j fs F E t) := by
  constructor
  intro pins s σ H Q I ⟨i, f, hs, hf, ht⟩
  obtain ⟨fd, ps, G, hk, hb⟩ := A i f hf
  have first := (pe_var (pos := p) hN hv hdb hcd).run pins s σ H (fun v H1 => v = .ref f ∧ H1 = H) I ⟨.ref f, hs, rfl, rfl⟩
  refine wpAny_Call_Name_kw (thn first fun u s1 hu => ?_)
  obtain ⟨v, H1, I1, r1, hv1, hH1⟩ := hu
  subst hv1
  subst hH1
  cases r1
  have args := ha.run pos pins s1 σ _ _ I1 ht
  refine PySem.W.callWith_K (h₀ := X.base) I.ok.mod.kin hk (thn args fun us s2 hu2 => ?_) he hpl
  obtain ⟨vs, H2, I2, r2, q2⟩ := hu2
  exact ⟨I2.kIn, run_fnS G hr hb (hx σ) I2 r2 q2⟩
section
variable {P : Program} {w : World} {K : PySem.W.Frag} {mg : Str → Option Value} {base : Heap}
abbrev opF (T : Txt K mg) : List Addr := [T.d_create.f, T.d_add_pit.f, T.d_remove_pit.f, T.d_set_window.f, T.d_set_speed.f, T.d_get_pit.f, T.d_tell_shortest.f, T.d_tell_plan.f, T.d_tell_starts.f, T.d_tell_feasible.f,
    T.d_tell_conflict.f, T.d_tell_count.f, T.d_tell_throughput.f, T.d_tell_occupied.f, T.d_tell_completion.f, T.d_shortest_with_window.f, T.d_shortest_with_speed.f, T.d_tell_periods.f, T.d_tell_status.f]
theorem op_all (T : Txt K mg) : ∀ (i : Nat) (f : Addr), (opF T)[i]? = some f → ∃ fd ps, FnOk P w K mg base (L2.CX P w) 20 f fd ps (spOp T.CF T.CS T.CL i) ∧ PySem.W.keepIn K (.ref f) = true ∧ Binds K fd ps []
  | 0, _, h => by cases h; exact ⟨_, _, ok_create T, T.d_create.F.kp, T.d_create.b⟩
  | 1, _, h => by cases h; exact ⟨_, _, ok_add_pit T, T.d_add_pit.F.kp, T.d_add_pit.b⟩
  | 2, _, h => by cases h; exact ⟨_, _, ok_remove_pit T, T.d_remove_pit.F.kp, T.d_remove_pit.b⟩
  | 3, _, h => by cases h; exact ⟨_, _, ok_set_window T, T.d_set_window.F.kp, T.d_set_window.b⟩
  | 4, _, h => by cases h; exact ⟨_, _, ok_set_speed T, T.d_set_speed.F.kp, T.d_set_speed.b⟩
  | 5, _, h => by cases h; exact ⟨_, _, ok_get_pit T, T.d_get_pit.F.kp, T.d_get_pit.b⟩
  | 6, _, h => by cases h; exact ⟨_, _, ok_tell_shortest T, T.d_tell_shortest.F.kp, T.d_tell_shortest.b⟩
  | 7, _, h => by cases h; exact ⟨_, _, ok_tell_plan T, T.d_tell_plan.F.kp, T.d_tell_plan.b⟩
  | 8, _, h => by cases h; exact ⟨_, _, ok_tell_starts T, T.d_tell_starts.F.kp, T.d_tell_starts.b⟩
  | 9, _, h => by cases h; exact ⟨_, _, ok_tell_feasible T, T.d_tell_feasible.F.kp, T.d_tell_feasible.b⟩
  | 10, _, h => by cases h; exact ⟨_, _, ok_tell_conflict T, T.d_tell_conflict.F.kp, T.d_tell_conflict.b⟩
  | 11, _, h => by cases h; exact ⟨_, _, ok_tell_count T, T.d_tell_count.F.kp, T.d_tell_count.b⟩
  | 12, _, h => by cases h; exact ⟨_, _, ok_tell_throughput T, T.d_tell_throughput.F.kp, T.d_tell_throughput.b⟩
  | 13, _, h => by cases h; exact ⟨_, _, ok_tell_occupied T, T.d_tell_occupied.F.kp, T.d_tell_occupied.b⟩
  | 14, _, h => by cases h; exact ⟨_, _, ok_tell_completion T, T.d_tell_completion.F.kp, T.d_tell_completion.b⟩
  | 15, _, h => by cases h; exact ⟨_, _, ok_shortest_with_window T, T.d_shortest_with_window.F.kp, T.d_shortest_with_window.b⟩
  | 16, _, h => by cases h; exact ⟨_, _, ok_shortest_with_speed T, T.d_shortest_with_speed.F.kp, T.d_shortest_with_speed.b⟩
  | 17, _, h => by cases h; exact ⟨_, _, ok_tell_periods T, T.d_tell_periods.F.kp, T.d_tell_periods.b⟩
  | 18, _, h => by cases h; exact ⟨_, _, ok_tell_status T, T.d_tell_status.F.kp, T.d_tell_status.b⟩
  | n + 19, _, h => by simp [opF] at h
/-! ### answer -/
def sp_answer (CS C : Addr) : Sp := fun vs H Q _ => ∃ (st l : Addr) (s : Kp396.State) (x : Kp396.Call), vs = [.ref st, N (wordOf x).1, .ref l] ∧ StAt CS C H st s ∧ H l = some (.lst (NL (wordOf x).2)) ∧ (wordOf x).2.length ≤ 7 ∧ Post CS C st s x H Q
theorem ok_answer (T : Txt K mg) : FnOk P w K mg base CX0 21 T.d_answer.f T.d_answer.fd ["state", "word", "numbers"] (sp_answer T.CS T.CL) := by
  refine T.d_answer.F.ok sc_answer (fun vs H Q E h => ?_) (fun cdv A outer s H vs Q E hr h => ?_)
  · obtain ⟨st, l, sx, x, rfl, _⟩ := h
    rfl
  · obtain ⟨st, l, sx, x, rfl, hS, hl, hn, k⟩ := h
    refine ⟨_, (pss_one (ps_try_as (i := 4) (tb := fun W => tSeq (tDrop (tCallS (sp_refuse T.CF) (WE W) (tCons (tAndV (tIsN (tFld K (tVar 0) "line")) (tNeI (tVar 1) (tC (.int 0)))) (tCons (tC (.int (-11))) tNil)))) (tSeq (tAsg (tOp (rIxT K) (tC (.ref T.ops)) (tVar 1)) (gName 3)) (tRet (tAny 3 (opF T) (spOp T.CF T.CS T.CL) (WE W) (tCons (tVar 0) (tCons (tVar 2) tNil))))))
      (ts := fun a cls d => tRet (tLst (tCons (tXf a cls d T.CF "code" (tVar 4)) tNil))) (Wout := fun _ _ _ _ => False) rfl rfl sc_answer.nd rfl rfl ⟨rfl, by decide, Or.inl T.gF⟩ takes0
    (fun W pn xe tk _ => (pss_cons (ps_expr (pe_callS (ok_refuse T) (hr.mono (by decide)) (by rfl) T.d_refuse.g T.d_refuse.F.kp T.d_refuse.b (fun σ => passAt tk σ) (by exact (pa_cons (pe_and (pe_cmp (pc_isN (pe_fld (pv 0) rfl)) rfl) (pe_one (pe_cmp (pc_neI (pv 1) (pe_num (by rfl) T.c_CREATE))))) (pa_cons (pe_num (by rfl) T.c_NO_LINE) pa_nil)))))
    (pss_cons (ps_set (i := 3) sc_answer.nd rfl (Or.inl rfl) (by exact (pe_ix ix_tup (pe_glob (v := .ref T.ops) (by rfl) T.gOps rfl) (pv 1) (fun _ _ => rfl))))
    (pss_one (ps_ret (pe_any (j := 3) (op_all T) (hr.mono (by decide)) rfl (Or.inl rfl) (fun σ => passAt tk σ) (by exact (pa_cons (pv 0) (pa_cons (pv 2) pa_nil)))))))))
    (fun a oe cls d pn hz hf => (pss_one (ps_ret (pe_lst (by exact (pa_cons (pe_xf T.xf T.noCode hz hf (pv 4)) pa_nil)))))))), ?_⟩
    obtain ⟨dx, y, hst, hy⟩ : ∃ dx y, H st = some (.ins T.CS dx [(("line" : Str), y)]) ∧ decide (y = V.non) = sx.isNone := by
      cases sx with
      | none => exact ⟨_, _, hS.choose_spec, rfl⟩
      | some v =>
        obtain ⟨dx, a, h1, _⟩ := hS
        exact ⟨_, _, h1, rfl⟩
    have handler : ∀ (σ : L2.St) (c : Int), σ.length = 5 → Kp396.step sx x = (sx, Kp396.single c) → Thr T.CF c H (WE (wAs K (.ref T.CF) 4 (fun a cls d => tRet (tLst (tCons (tXf a cls d T.CF "code" (tVar 4)) tNil))) (fun _ _ _ _ => False) { nx := fun _ H' => Q .non H', rt := Q }) σ) := by
      intro σ c hσ e H' d s1 hd
      refine ⟨true, T.te, fun _ a0 ha0 => ?_, fun z => by cases z⟩
      refine ⟨.ref a0, by rw [List.getElem?_set_self (by omega)], rfl, rfl, d, _, _, rfl, hd, lk1, (by show 1 ≤ sizeLine; decide), fun r hr' => ?_⟩
      exact k.read hS e (s1.trans (Same.new hr')) (Same.free s1 hr') upd_same
    refine q_and (c1 := sx.isNone) (c2 := !decide (((wordOf x).1 : Int) = 0)) (fun R r => ⟨_, rfl, _, _, _, _, _, rfl, hst, T.cs, T.nLine, lk1, bl_eq hy r⟩) (fun R r => ⟨_, rfl, _, _, rfl, rfl, r⟩) ?_
    refine ⟨_, -11, rfl, fun hb => ?_, fun hb => ?_⟩
    · have hlt := word_lt x
      obtain ⟨f, hf⟩ : ∃ f, (opF T)[(wordOf x).1]? = some f := by
        have hlen : (opF T).length = 19 := rfl
        exact ⟨_, List.getElem?_eq_getElem (by rw [hlen]; exact hlt)⟩
      refine ⟨_, rfl, T.ops, _, _, V.ref f, rfl, rfl, T.tOps H, atI_nat (at_map hf), ?_⟩
      refine ⟨(wordOf x).1, f, rfl, hf, _, rfl, _, rfl, st, l, sx, x, rfl, rfl, hS, hl, hn, fun h0 z => ?_, fun c e => handler _ c rfl e, k⟩
      rw [z] at hb
      have h1 : decide (((wordOf x).1 : Int) = 0) = false := decide_eq_false (by omega)
      rw [h1] at hb
      cases hb
    · rw [Bool.and_eq_true] at hb
      have h0 : sx = none := Option.isNone_iff_eq_none.mp hb.1
      have h1 : (wordOf x).1 ≠ 0 := by
        intro z
        have := hb.2
        rw [z] at this
        cases this
      refine handler _ (-11) rfl ?_
      rw [h0]
      exact step_none h1
/-! ### answers -/
/-- the state stands when another list is written -/
theorem st_list {CS C f x : Addr} {H : Hp} {xs ys : List V} {s : Kp396.State} (hf : H f = some (.lst xs)) (h : StAt CS C H x s) (ho : (∃ i r, xs = V.int i :: r) ∨ Off CS C H x f) : StAt CS C (upd H f (.lst ys)) x s := by
  cases s with
  | none =>
    obtain ⟨dx, h⟩ := h
    exact ⟨dx, (upd_ne (ne_of h hf (by intro z; cases z))).trans h⟩
  | some v =>
    obtain ⟨dx, a, h, dy, p, ts, L⟩ := h
    have hp : p ≠ f := by
      rcases ho with ⟨i, r, e⟩ | ho
      · refine ne_of L.lst hf fun z => ?_
        injection z with z
        rw [e] at z
        cases ts with
        | nil => cases z
        | cons t r' =>
          injection z with z1 _
          cases z1
      · exact ho dx a dy p _ h L.obj
    refine ⟨dx, a, (upd_ne (ne_of h hf (by intro z; cases z))).trans h, dy, p, ts, (upd_ne (ne_of L.obj hf (by intro z; cases z))).trans L.obj, (upd_ne hp).trans L.lst, ?_, L.good⟩
    exact Paired.mapP L.win fun t w q => (upd_ne (ne_of q hf (by intro z; cases z))).trans q
theorem flat_len3 (x : Kp396.Call) : (flat x).length = (wordOf x).2.length + 3 := by
  simp [flat]
theorem flat_word (A : List Int) (x : Kp396.Call) (R : List Int) : (A ++ (flat x ++ R))[A.length]? = some ((wordOf x).1 : Int) := by
  rw [List.getElem?_append_right (Nat.le_refl _), Nat.sub_self]
  rfl
theorem flat_count (A : List Int) (x : Kp396.Call) (R : List Int) : (A ++ (flat x ++ R))[A.length + 1]? = some ((wordOf x).2.length : Int) := by
  rw [List.getElem?_append_right (by omega), show A.length + 1 - A.length = 1 by omega]
  rfl
theorem flat_cut (A : List Int) (x : Kp396.Call) (R : List Int) : cutV ((A ++ (flat x ++ R)).map V.int) (some ((A.length + 2 : Nat) : Int)) (some ((A.length + 2 + (wordOf x).2.length : Nat) : Int)) = NL (wordOf x).2 := by
  have hl : ((A ++ (flat x ++ R)).map V.int).length = A.length + ((wordOf x).2.length + 3 + R.length) := by
    rw [List.length_map, List.length_append, List.length_append, flat_len3]
  unfold cutV
  rw [HT.sIx_nat, HT.sIx_nat, hl, Nat.min_eq_left (by omega), Nat.min_eq_left (by omega), ← List.map_drop, ← List.map_take]
  rw [show A.length + 2 + (wordOf x).2.length - (A.length + 2) = (wordOf x).2.length by omega]
  have e1 : (A ++ (flat x ++ R)).drop (A.length + 2) = intsOf (wordOf x).2 ++ ([0] ++ R) := by
    rw [List.drop_append, List.drop_of_length_le (by omega), show A.length + 2 - A.length = 2 by omega]
    simp [flat]
  rw [e1, List.take_append_of_le_length (by rw [List.length_map]; omega), List.take_of_length_le (by rw [List.length_map]; omega), List.map_map]
  rfl
def spAns (K : PySem.W.Frag) : Sp := fun vs H Q _ => ∃ (a : Addr) (ns : List Int), vs = [.ref a] ∧ SqL K H a (ns.map V.int) ∧ PyKp396.answers_asked ns = true ∧
  ∀ (H' : Hp) (p : Addr), H' p = some (.lst ((PyKp396.answers ns).map V.int)) → Q (.ref p) H'
theorem ok_answers (T : Txt K mg) : FnOk P w K mg base CX0 22 T.d_answers.f T.d_answers.fd ["calls"] (spAns K) := by
  refine T.d_answers.F.ok sc_answers (fun vs H Q E h => ?_) (fun cdv A outer s H vs Q E hr h => ?_)
  · obtain ⟨a, ns, rfl, _⟩ := h
    rfl
  · obtain ⟨a, ns, rfl, hC, hask, k⟩ := h
    obtain ⟨xs, hns, hx7, hans, hbig⟩ := asked_words hask
    rw [hans] at k
    refine ⟨_, (pss_cons (ps_set (i := 1) sc_answers.nd rfl (Or.inl rfl) (by exact (pe_make0 T.mkS (ok_state_init T) (hr.mono (by decide)) (by rfl) T.gS T.bS .nil pass0)))
    (pss_cons (ps_set (i := 2) sc_answers.nd rfl (Or.inl rfl) (by exact (pe_lst (by exact pa_nil))))
    (pss_cons (ps_set (i := 3) sc_answers.nd rfl (Or.inl rfl) (by exact pe_int))
    (pss_cons (ps_while PassesOwn.never (pt_cmpR op_lt (pv 3) (pe_callB call_len_seq (by rfl) T.n_len (by decide +kernel) (by exact (pa_cons (pv 0) pa_nil))) (nomark _)) (pss_cons (ps_set (i := 4) sc_answers.nd rfl (Or.inl rfl) (by exact (pe_op op_add (pe_op op_add (pv 3) pe_int) (pe_ix ix_list (pv 0) (pe_op op_add (pv 3) pe_int) (fun _ _ => rfl)))))
    (pss_cons (ps_set (i := 5) sc_answers.nd rfl (Or.inl rfl) (by exact (pe_call (ok_answer T) (hr.mono (by decide)) (by rfl) T.d_answer.g T.d_answer.F.kp T.d_answer.b .nil pass0 (by exact (pa_cons (pv 1) (pa_cons (pe_ix ix_list (pv 0) (pv 3) (fun _ _ => rfl)) (pa_cons (pe_slice sl_list (pv 0) (po_some (pe_op op_add (pv 3) pe_int)) (po_some (pv 4))) pa_nil)))))))
    (pss_cons (ps_expr (pe_bm PySem.F.plainAttrs_list PySem.F.slot_list_append PySem.F.type_list_append mt_append (pv 2) (by exact (pa_cons (pe_callB call_len_seq (by rfl) T.n_len (by decide +kernel) (by exact (pa_cons (pv 5) pa_nil))) pa_nil))))
    (pss_cons (ps_expr (pe_bm PySem.F.plainAttrs_list PySem.F.slot_list_extend PySem.F.type_list_extend mt_extend (pv 2) (by exact (pa_cons (pv 5) pa_nil))))
    (pss_one (ps_set (i := 3) sc_answers.nd rfl (Or.inl rfl) (by exact (pe_op op_add (pv 4) pe_int)))))))))
    (pss_one (ps_ret (pv 2))))))), ?_⟩
    intro x dx nx nd ne
    refine ⟨x, dx, rfl, upd_same, fun H1 e1 k1 => ⟨rfl, ?_⟩⟩
    have s1 : Same H H1 := Same.made nx nd k1
    refine ⟨(by show 0 ≤ sizeLine; decide), fun f hf => ?_⟩
    have hfH : H f = none := Same.free s1 hf
    have hxf : x ≠ f := ne_of_none e1 hf
    refine ⟨fun m σ H' => ∃ (done todo : List Kp396.Call) (sx : Kp396.State) (F : List Int) (s4 s5 : Option V), m = todo.length ∧ (F = [] → sx = none) ∧ xs = done ++ todo ∧ PyFlat.told (plays Kp396.start xs) = F ++ PyFlat.told (plays sx todo) ∧
      σ = [some (V.ref a), some (V.ref x), some (V.ref f), some (N (done.flatMap flat).length), s4, s5] ∧ Same H H' ∧ StAt T.CS T.CL H' x sx ∧ H' f = some (.lst (F.map V.int)), ?_, ?_⟩
    · refine ⟨xs.length, [], xs, none, [], none, none, rfl, fun _ => rfl, rfl, rfl, rfl, s1.trans (Same.new hf), ⟨dx, ?_⟩, upd_same⟩
      rw [upd_ne hxf]
      exact e1
    · rintro m σ H2 ⟨done, todo, sx, F, s4, s5, rfl, hF0, hxs, htold, rfl, s2, hS, hF⟩
      have hC2 := s2.seq hC
      refine ⟨_, rfl, _, rfl, a, _, rfl, .inl hC2, _, _, rfl, rfl, _, rfl, ifb (fun hb => ?_) (fun hb => ?_)⟩
      · have hb' := of_decide_eq_true hb
        rw [List.length_map] at hb'
        cases todo with
        | nil =>
          rw [hns, hxs, List.append_nil] at hb'
          omega
        | cons c todo =>
          refine ⟨fun σ' H' => ∃ m', m' < todo.length + 1 ∧ ∃ (done todo : List Kp396.Call) (sx : Kp396.State) (F : List Int) (s4 s5 : Option V), m' = todo.length ∧ (F = [] → sx = none) ∧ xs = done ++ todo ∧ PyFlat.told (plays Kp396.start xs) = F ++ PyFlat.told (plays sx todo) ∧
            σ' = [some (V.ref a), some (V.ref x), some (V.ref f), some (N (done.flatMap flat).length), s4, s5] ∧ Same H H' ∧ StAt T.CS T.CL H' x sx ∧ H' f = some (.lst (F.map V.int)), fun σ' H' z => z, ?_⟩
          have ens : ns = done.flatMap flat ++ (flat c ++ todo.flatMap flat) := by
            rw [hns, hxs, List.flatMap_append, List.flatMap_cons]
          have hw := flat_word (done.flatMap flat) c (todo.flatMap flat)
          have hk := flat_count (done.flatMap flat) c (todo.flatMap flat)
          have hcut := flat_cut (done.flatMap flat) c (todo.flatMap flat)
          rw [← ens] at hw hk hcut
          have hc7 := hx7 c (by rw [hxs]; simp)
          generalize hn : (done.flatMap flat).length = n at hw hk hcut
          refine ⟨_, rfl, _, _, rfl, rfl, _, rfl, _, rfl, _, _, rfl, rfl, a, _, _, _, rfl, rfl, hC2, atI_nat (j := n + 1) (at_map hk), _, _, rfl, rfl, ?_⟩
          refine ⟨_, rfl, _, rfl, _, rfl, a, _, _, _, rfl, rfl, hC2, atI_nat (j := n) (at_map hw), _, rfl, _, rfl, _, _, rfl, rfl, _, rfl, _, rfl, _, rfl, a, _, rfl, hC2, fun q hq => ?_⟩
          have s3 := Same.new (o := .lst (cutV (ns.map V.int) (some ((n : Int) + 2)) (some ((n : Int) + 2 + ((wordOf c).2.length : Int))))) hq
          refine ⟨x, q, sx, c, rfl, hS.same s3, (upd_same.trans (congrArg (fun z => some (HO.lst z)) hcut)), hc7, fun H4 r b4 hS4 hoff hr0 hr4 => ?_⟩
          have hf3 := s3 _ _ hF
          have hf4 : H4 f = some (.lst (F.map V.int)) := b4 _ _ hf3 (Ne.symm hxf)
          have s4' : Same H H4 := fun b o e => b4 _ _ (s3 _ _ (s2 _ _ e)) (ne_of_none e nx)
          have hrf : r ≠ f := fun z => by rw [z, hf3] at hr0; cases hr0
          have hxr : x ≠ f := hxf
          have htl : PyFlat.told (plays sx (c :: todo)) = ((ansOf (Kp396.step sx c).2).length : Int) :: (ansOf (Kp396.step sx c).2 ++ PyFlat.told (plays (Kp396.step sx c).1 todo)) := rfl
          generalize hans2 : ansOf (Kp396.step sx c).2 = ans at hr4 htl
          have hbig2 : F.length + (1 + (ans.length + (PyFlat.told (plays (Kp396.step sx c).1 todo)).length)) ≤ 10000000 := by
            have z := hbig
            rw [htold, htl, List.length_append, List.length_cons, List.length_append] at z
            omega
          refine ⟨_, rfl, .inl ⟨rfl, _, SqL.of hf4⟩, _, rfl, r, _, rfl, .inl (SqL.of hr4), f, _, _, rfl, rfl, hf4, ?_, ?_⟩
          · rw [List.length_map]
            exact small (by omega)
          refine ⟨_, rfl, .inl ⟨rfl, _, SqL.of upd_same⟩, _, rfl, f, r, _, _, rfl, rfl, upd_same, (upd_ne hrf).trans hr4, ?_, ?_⟩
          · rw [List.length_append, List.length_map, List.length_map]
            exact smallE (by show F.length + 1 + ans.length ≤ _; omega)
          refine ⟨_, rfl, _, _, rfl, rfl, todo.length, by omega, done ++ [c], todo, (Kp396.step sx c).1, F ++ ((ans.length : Int) :: ans), some (N (n + 2 + (wordOf c).2.length)), some (V.ref r), rfl, fun z => by simp at z, ?_, ?_, ?_, ?_, ?_, ?_⟩
          · rw [hxs, List.append_assoc]
            rfl
          · rw [htold, htl, List.append_assoc]
            rfl
          · have en : (((done ++ [c]).flatMap flat).length : Int) = (n : Int) + 2 + ((wordOf c).2.length : Int) + 1 := by
              rw [List.flatMap_append, List.length_append, hn]
              simp only [List.flatMap_cons, List.flatMap_nil, List.append_nil, flat_len3]
              omega
            have eN : N ((done ++ [c]).flatMap flat).length = V.int ((n : Int) + 2 + ((wordOf c).2.length : Int) + 1) := congrArg V.int en
            rw [eN]
            rfl
          · exact Same.put (Same.put s4' hfH) hfH
          · have q0 : (∃ i r, F.map V.int = V.int i :: r) ∨ Off T.CS T.CL H4 x f := by
              cases F with
              | nil => exact .inr (hoff (hF0 rfl) f _ hf3)
              | cons i r => exact .inl ⟨i, _, rfl⟩
            have q1 := st_list (ys := F.map V.int ++ [V.int (((ans.map V.int).length : Nat) : Int)]) hf4 hS4 q0
            refine st_list upd_same q1 (.inl ?_)
            cases F with
            | nil => exact ⟨_, _, rfl⟩
            | cons i r => exact ⟨_, _, rfl⟩
          · rw [upd_same, List.map_append, List.map_cons, List.append_assoc, List.length_map]
            rfl
      · have hb' := of_decide_eq_false hb
        rw [List.length_map] at hb'
        cases todo with
        | nil =>
          have e0 : PyFlat.told (plays Kp396.start xs) = F := by
            rw [htold]
            show F ++ [] = F
            rw [List.append_nil]
          rw [e0] at k
          exact ⟨_, rfl, k H2 f hF⟩
        | cons c todo =>
          have e2 := flat_len3 c
          rw [hns, hxs, List.flatMap_append, List.flatMap_cons, List.length_append, List.length_append] at hb'
          omega
end
end Hm

/-! The end: what the top has left. -/
namespace Hm
open PySem PySem.Spec PyProof.Rows L2
open PySem.W (Codec)
/-- an exception of the class at S is met by a clause that names S -/
theorem met {K : PySem.W.Frag} {S : Addr} (h1 : PySem.W.subIn K (.ref S) (.type "BaseException") = some true) (h2 : PySem.W.isClsIn K S = true) (h3 : PySem.W.typeIn K (.ref S) = some (.type "type")) (h4 : PySem.W.subIn K (.ref S) (.ref S) = some true) :
    PySem.W.exmOne K (.ref S) (.ref S) = some true := by
  have g1 : (PySem.W.subIn K (.ref S) (.type "BaseException") == some true) = true := by rw [h1]; rfl
  have g2 : ((PySem.W.clsIn K S).isSome && PySem.W.typeIn K (.ref S) == some (.type "type")) = true := by
    have z : (PySem.W.clsIn K S).isSome = true := h2
    rw [z, h3]; rfl
  show (if (PySem.W.subIn K (.ref S) (.type "BaseException") == some true) = true then (if ((PySem.W.clsIn K S).isSome && PySem.W.typeIn K (.ref S) == some (.type "type")) = true then PySem.W.subIn K (.ref S) (.ref S) else none) else none) = some true
  rw [if_pos g1, if_pos g2]
  exact h4
/-- a def of the top -/
def dMk {K : PySem.W.Frag} {h : Heap} {mg : Str → Option Value} {x : Str} {st : Stmt} {ps : List Str} (X : K.In h) (G : h.Ns mainGlobals mg) {f : Addr} {od an : Option Addr} {sl : Array (Option Value)} {oc kV dc pm cd ct : Value}
    (a : PySem.W.nsIn K mainGlobals x = some (some (.ref f))) (l : K.lookup f = some ⟨oc, od, .func (PySem.W.fnOf x x (defArgs st) (defBody st) (defScope st) .none kV dc pm an cd ct), sl⟩) (c : PySem.W.codeIn K cd x = true) (k : PySem.W.keepIn K (.ref f) = true)
    (hb : ∀ (kV doc pm : Value) (an : Option Addr) (cdv ct : Value) (us : List Value), us.length = ps.length → bindArgs (PySem.W.fnOf x x (defArgs st) (defBody st) (defScope st) .none kV doc pm an cdv ct) ⟨us, []⟩ = pure (ps.zip us)) : D K mg x st ps :=
  ⟨f, _, PySem.W.mg_of X G a, fun_mk l c k, (fun_mk l c k).binds hb⟩

theorem allMk {P : Program} {w : World} {K : PySem.W.Frag} {h : Heap} {mg : Str → Option Value} {fa CF CL CS ops : Addr} (X : K.In h) (G : h.Ns mainGlobals mg) (hfa : mg "answers" = some (.ref fa))
    {nmF qF : Str} {nF : Addr} {bsF : List Value} {snF : List Str} {subF : List Value} {abF : Bool} {colF : Option Bool} {ddF : Option Addr} {m0 m1 m2 m3 m5 : Option Value} {odO : Option Addr} {nO : Nat} {slO : Array (Option Value)}
    {f_refused_init : Addr} {od_refused_init an_refused_init : Option Addr} {sl_refused_init : Array (Option Value)} {oc_refused_init kV_refused_init dc_refused_init pm_refused_init cd_refused_init ct_refused_init : Value}
    {f_line_init : Addr} {od_line_init an_line_init : Option Addr} {sl_line_init : Array (Option Value)} {oc_line_init kV_line_init dc_line_init pm_line_init cd_line_init ct_line_init : Value}
    {f_state_init : Addr} {od_state_init an_state_init : Option Addr} {sl_state_init : Array (Option Value)} {oc_state_init kV_state_init dc_state_init pm_state_init cd_state_init ct_state_init : Value}
    {t_NO_LINE : Tok}
    {t_NO_PIT : Tok}
    {t_BAD_ARGUMENT : Tok}
    {t_FULL : Tok}
    {t_NOTHING : Tok}
    {t_MOST_PITS : Tok}
    {t_LONGEST_STAY : Tok}
    {t_WIDEST : Tok}
    {t_LONGEST_MOVE : Tok}
    {t_LONGEST_EMPTY : Tok}
    {t_LAST_PERIOD : Tok}
    {t_CREATE : Tok}
    {f_refuse : Addr} {od_refuse an_refuse : Option Addr} {sl_refuse : Array (Option Value)} {oc_refuse kV_refuse dc_refuse pm_refuse cd_refuse ct_refuse : Value}
    {f_check_speed : Addr} {od_check_speed an_check_speed : Option Addr} {sl_check_speed : Array (Option Value)} {oc_check_speed kV_check_speed dc_check_speed pm_check_speed cd_check_speed ct_check_speed : Value}
    {f_check_window : Addr} {od_check_window an_check_window : Option Addr} {sl_check_window : Array (Option Value)} {oc_check_window kV_check_window dc_check_window pm_check_window cd_check_window ct_check_window : Value}
    {f_check_pit : Addr} {od_check_pit an_check_pit : Option Addr} {sl_check_pit : Array (Option Value)} {oc_check_pit kV_check_pit dc_check_pit pm_check_pit cd_check_pit ct_check_pit : Value}
    {f_check_period : Addr} {od_check_period an_check_period : Option Addr} {sl_check_period : Array (Option Value)} {oc_check_period kV_check_period dc_check_period pm_check_period cd_check_period ct_check_period : Value}
    {f_with_pit : Addr} {od_with_pit an_with_pit : Option Addr} {sl_with_pit : Array (Option Value)} {oc_with_pit kV_with_pit dc_with_pit pm_with_pit cd_with_pit ct_with_pit : Value}
    {f_without_pit : Addr} {od_without_pit an_without_pit : Option Addr} {sl_without_pit : Array (Option Value)} {oc_without_pit kV_without_pit dc_without_pit pm_without_pit cd_without_pit ct_without_pit : Value}
    {f_with_window : Addr} {od_with_window an_with_window : Option Addr} {sl_with_window : Array (Option Value)} {oc_with_window kV_with_window dc_with_window pm_with_window cd_with_window ct_with_window : Value}
    {f_with_speed : Addr} {od_with_speed an_with_speed : Option Addr} {sl_with_speed : Array (Option Value)} {oc_with_speed kV_with_speed dc_with_speed pm_with_speed cd_with_speed ct_with_speed : Value}
    {f_bound_of : Addr} {od_bound_of an_bound_of : Option Addr} {sl_bound_of : Array (Option Value)} {oc_bound_of kV_bound_of dc_bound_of pm_bound_of cd_bound_of ct_bound_of : Value}
    {f_starts_of : Addr} {od_starts_of an_starts_of : Option Addr} {sl_starts_of : Array (Option Value)} {oc_starts_of kV_starts_of dc_starts_of pm_starts_of cd_starts_of ct_starts_of : Value}
    {f_needed_time : Addr} {od_needed_time an_needed_time : Option Addr} {sl_needed_time : Array (Option Value)} {oc_needed_time kV_needed_time dc_needed_time pm_needed_time cd_needed_time ct_needed_time : Value}
    {f_is_too_early : Addr} {od_is_too_early an_is_too_early : Option Addr} {sl_is_too_early : Array (Option Value)} {oc_is_too_early kV_is_too_early dc_is_too_early pm_is_too_early cd_is_too_early ct_is_too_early : Value}
    {f_do_conflict : Addr} {od_do_conflict an_do_conflict : Option Addr} {sl_do_conflict : Array (Option Value)} {oc_do_conflict kV_do_conflict dc_do_conflict pm_do_conflict cd_do_conflict ct_do_conflict : Value}
    {f_conflicts : Addr} {od_conflicts an_conflicts : Option Addr} {sl_conflicts : Array (Option Value)} {oc_conflicts kV_conflicts dc_conflicts pm_conflicts cd_conflicts ct_conflicts : Value}
    {f_is_within : Addr} {od_is_within an_is_within : Option Addr} {sl_is_within : Array (Option Value)} {oc_is_within kV_is_within dc_is_within pm_is_within cd_is_within ct_is_within : Value}
    {f_may_repeat : Addr} {od_may_repeat an_may_repeat : Option Addr} {sl_may_repeat : Array (Option Value)} {oc_may_repeat kV_may_repeat dc_may_repeat pm_may_repeat cd_may_repeat ct_may_repeat : Value}
    {f_is_feasible : Addr} {od_is_feasible an_is_feasible : Option Addr} {sl_is_feasible : Array (Option Value)} {oc_is_feasible kV_is_feasible dc_is_feasible pm_is_feasible cd_is_feasible ct_is_feasible : Value}
    {f_does_fit : Addr} {od_does_fit an_does_fit : Option Addr} {sl_does_fit : Array (Option Value)} {oc_does_fit kV_does_fit dc_does_fit pm_does_fit cd_does_fit ct_does_fit : Value}
    {f_longer_plans : Addr} {od_longer_plans an_longer_plans : Option Addr} {sl_longer_plans : Array (Option Value)} {oc_longer_plans kV_longer_plans dc_longer_plans pm_longer_plans cd_longer_plans ct_longer_plans : Value}
    {f_feasible_plans : Addr} {od_feasible_plans an_feasible_plans : Option Addr} {sl_feasible_plans : Array (Option Value)} {oc_feasible_plans kV_feasible_plans dc_feasible_plans pm_feasible_plans cd_feasible_plans ct_feasible_plans : Value}
    {f_first_from : Addr} {od_first_from an_first_from : Option Addr} {sl_first_from : Array (Option Value)} {oc_first_from kV_first_from dc_first_from pm_first_from cd_first_from ct_first_from : Value}
    {f_first_or_none : Addr} {od_first_or_none an_first_or_none : Option Addr} {sl_first_or_none : Array (Option Value)} {oc_first_or_none kV_first_or_none dc_first_or_none pm_first_or_none cd_first_or_none ct_first_or_none : Value}
    {f_first_plan : Addr} {od_first_plan an_first_plan : Option Addr} {sl_first_plan : Array (Option Value)} {oc_first_plan kV_first_plan dc_first_plan pm_first_plan cd_first_plan ct_first_plan : Value}
    {f_has_plan : Addr} {od_has_plan an_has_plan : Option Addr} {sl_has_plan : Array (Option Value)} {oc_has_plan kV_has_plan dc_has_plan pm_has_plan cd_has_plan ct_has_plan : Value}
    {f_feasible_periods : Addr} {od_feasible_periods an_feasible_periods : Option Addr} {sl_feasible_periods : Array (Option Value)} {oc_feasible_periods kV_feasible_periods dc_feasible_periods pm_feasible_periods cd_feasible_periods ct_feasible_periods : Value}
    {f_shortest_period : Addr} {od_shortest_period an_shortest_period : Option Addr} {sl_shortest_period : Array (Option Value)} {oc_shortest_period kV_shortest_period dc_shortest_period pm_shortest_period cd_shortest_period ct_shortest_period : Value}
    {f_throughput_time : Addr} {od_throughput_time an_throughput_time : Option Addr} {sl_throughput_time : Array (Option Value)} {oc_throughput_time kV_throughput_time dc_throughput_time pm_throughput_time cd_throughput_time ct_throughput_time : Value}
    {f_completion_time : Addr} {od_completion_time an_completion_time : Option Addr} {sl_completion_time : Array (Option Value)} {oc_completion_time kV_completion_time dc_completion_time pm_completion_time cd_completion_time ct_completion_time : Value}
    {f_is_occupied : Addr} {od_is_occupied an_is_occupied : Option Addr} {sl_is_occupied : Array (Option Value)} {oc_is_occupied kV_is_occupied dc_is_occupied pm_is_occupied cd_is_occupied ct_is_occupied : Value}
    {f_occupied_pits : Addr} {od_occupied_pits an_occupied_pits : Option Addr} {sl_occupied_pits : Array (Option Value)} {oc_occupied_pits kV_occupied_pits dc_occupied_pits pm_occupied_pits cd_occupied_pits ct_occupied_pits : Value}
    {f_most_occupied : Addr} {od_most_occupied an_most_occupied : Option Addr} {sl_most_occupied : Array (Option Value)} {oc_most_occupied kV_most_occupied dc_most_occupied pm_most_occupied cd_most_occupied ct_most_occupied : Value}
    {f_create : Addr} {od_create an_create : Option Addr} {sl_create : Array (Option Value)} {oc_create kV_create dc_create pm_create cd_create ct_create : Value}
    {f_add_pit : Addr} {od_add_pit an_add_pit : Option Addr} {sl_add_pit : Array (Option Value)} {oc_add_pit kV_add_pit dc_add_pit pm_add_pit cd_add_pit ct_add_pit : Value}
    {f_remove_pit : Addr} {od_remove_pit an_remove_pit : Option Addr} {sl_remove_pit : Array (Option Value)} {oc_remove_pit kV_remove_pit dc_remove_pit pm_remove_pit cd_remove_pit ct_remove_pit : Value}
    {f_set_window : Addr} {od_set_window an_set_window : Option Addr} {sl_set_window : Array (Option Value)} {oc_set_window kV_set_window dc_set_window pm_set_window cd_set_window ct_set_window : Value}
    {f_set_speed : Addr} {od_set_speed an_set_speed : Option Addr} {sl_set_speed : Array (Option Value)} {oc_set_speed kV_set_speed dc_set_speed pm_set_speed cd_set_speed ct_set_speed : Value}
    {f_get_pit : Addr} {od_get_pit an_get_pit : Option Addr} {sl_get_pit : Array (Option Value)} {oc_get_pit kV_get_pit dc_get_pit pm_get_pit cd_get_pit ct_get_pit : Value}
    {f_tell_shortest : Addr} {od_tell_shortest an_tell_shortest : Option Addr} {sl_tell_shortest : Array (Option Value)} {oc_tell_shortest kV_tell_shortest dc_tell_shortest pm_tell_shortest cd_tell_shortest ct_tell_shortest : Value}
    {f_checked_plan : Addr} {od_checked_plan an_checked_plan : Option Addr} {sl_checked_plan : Array (Option Value)} {oc_checked_plan kV_checked_plan dc_checked_plan pm_checked_plan cd_checked_plan ct_checked_plan : Value}
    {f_tell_plan : Addr} {od_tell_plan an_tell_plan : Option Addr} {sl_tell_plan : Array (Option Value)} {oc_tell_plan kV_tell_plan dc_tell_plan pm_tell_plan cd_tell_plan ct_tell_plan : Value}
    {f_tell_starts : Addr} {od_tell_starts an_tell_starts : Option Addr} {sl_tell_starts : Array (Option Value)} {oc_tell_starts kV_tell_starts dc_tell_starts pm_tell_starts cd_tell_starts ct_tell_starts : Value}
    {f_check_plan : Addr} {od_check_plan an_check_plan : Option Addr} {sl_check_plan : Array (Option Value)} {oc_check_plan kV_check_plan dc_check_plan pm_check_plan cd_check_plan ct_check_plan : Value}
    {f_tell_feasible : Addr} {od_tell_feasible an_tell_feasible : Option Addr} {sl_tell_feasible : Array (Option Value)} {oc_tell_feasible kV_tell_feasible dc_tell_feasible pm_tell_feasible cd_tell_feasible ct_tell_feasible : Value}
    {f_tell_conflict : Addr} {od_tell_conflict an_tell_conflict : Option Addr} {sl_tell_conflict : Array (Option Value)} {oc_tell_conflict kV_tell_conflict dc_tell_conflict pm_tell_conflict cd_tell_conflict ct_tell_conflict : Value}
    {f_tell_count : Addr} {od_tell_count an_tell_count : Option Addr} {sl_tell_count : Array (Option Value)} {oc_tell_count kV_tell_count dc_tell_count pm_tell_count cd_tell_count ct_tell_count : Value}
    {f_tell_throughput : Addr} {od_tell_throughput an_tell_throughput : Option Addr} {sl_tell_throughput : Array (Option Value)} {oc_tell_throughput kV_tell_throughput dc_tell_throughput pm_tell_throughput cd_tell_throughput ct_tell_throughput : Value}
    {f_tell_occupied : Addr} {od_tell_occupied an_tell_occupied : Option Addr} {sl_tell_occupied : Array (Option Value)} {oc_tell_occupied kV_tell_occupied dc_tell_occupied pm_tell_occupied cd_tell_occupied ct_tell_occupied : Value}
    {f_tell_completion : Addr} {od_tell_completion an_tell_completion : Option Addr} {sl_tell_completion : Array (Option Value)} {oc_tell_completion kV_tell_completion dc_tell_completion pm_tell_completion cd_tell_completion ct_tell_completion : Value}
    {f_shortest_with_window : Addr} {od_shortest_with_window an_shortest_with_window : Option Addr} {sl_shortest_with_window : Array (Option Value)} {oc_shortest_with_window kV_shortest_with_window dc_shortest_with_window pm_shortest_with_window cd_shortest_with_window ct_shortest_with_window : Value}
    {f_shortest_with_speed : Addr} {od_shortest_with_speed an_shortest_with_speed : Option Addr} {sl_shortest_with_speed : Array (Option Value)} {oc_shortest_with_speed kV_shortest_with_speed dc_shortest_with_speed pm_shortest_with_speed cd_shortest_with_speed ct_shortest_with_speed : Value}
    {f_tell_periods : Addr} {od_tell_periods an_tell_periods : Option Addr} {sl_tell_periods : Array (Option Value)} {oc_tell_periods kV_tell_periods dc_tell_periods pm_tell_periods cd_tell_periods ct_tell_periods : Value}
    {f_tell_status : Addr} {od_tell_status an_tell_status : Option Addr} {sl_tell_status : Array (Option Value)} {oc_tell_status kV_tell_status dc_tell_status pm_tell_status cd_tell_status ct_tell_status : Value}
    {f_answer : Addr} {od_answer an_answer : Option Addr} {sl_answer : Array (Option Value)} {oc_answer kV_answer dc_answer pm_answer cd_answer ct_answer : Value}
    {f_answers : Addr} {od_answers an_answers : Option Addr} {sl_answers : Array (Option Value)} {oc_answers kV_answers dc_answers pm_answers cd_answers ct_answers : Value}
    (aF : PySem.W.nsIn K mainGlobals "Refused" = some (some (.ref CF)))
    (xF : K.lookup CF = some (excClassObj nmF qF CF nF bsF [.type "ValueError", .type "Exception", .type "BaseException", .type "object"] true snF subF abF colF ddF m0 m1 m2 m3 m5 "ValueError.__new__"))
    (saF : PySem.W.findIn K (.ref CF) "__setattr__" = some (some (.builtin "object.__setattr__")))
    (gaF : PySem.W.findIn K (.ref CF) "__getattribute__" = some (some (.builtin "BaseException.__getattribute__")))
    (ggF : PySem.W.findIn K (.ref CF) "__getattr__" = some none)
    (ncF : PySem.W.findIn K (.ref CF) "code" = some none)
    (iF : PySem.W.findIn K (.ref CF) "__init__" = some (some (.ref f_refused_init)))
    (tF : PySem.W.typeIn K (.ref f_refused_init) = some (.type "function"))
    (l_refused_init : K.lookup f_refused_init = some ⟨oc_refused_init, od_refused_init, .func (PySem.W.fnOf "__init__" "Refused.__init__" (defArgs s_refused_init) (defBody s_refused_init) (defScope s_refused_init) .none kV_refused_init dc_refused_init pm_refused_init an_refused_init cd_refused_init ct_refused_init), sl_refused_init⟩)
    (c_refused_init : PySem.W.codeIn K cd_refused_init "Refused.__init__" = true)
    (k_refused_init : PySem.W.keepIn K (.ref f_refused_init) = true)
    (kF : PySem.W.keepIn K (.ref CF) = true)
    (eF : PySem.W.subIn K (.ref CF) (.type "BaseException") = some true)
    (yF : PySem.W.typeIn K (.ref CF) = some (.type "type"))
    (hF : PySem.W.hasDictIn K CF = true)
    (icF : PySem.W.isClsIn K CF = true)
    (sF : PySem.W.subIn K (.ref CF) (.ref CF) = some true)
    (vF : PySem.W.findCls K (.type "ValueError") (.type "type") "__init__" = some (.val (.builtin "ValueError.__init__")))
    (aCL : PySem.W.nsIn K mainGlobals "Line" = some (some (.ref CL)))
    (pgCL : PySem.W.plainGet K CL Str.empty = true)
    (hdCL : PySem.W.hasDictIn K CL = true)
    (poCL : PySem.W.plainOver K CL = true)
    (saCL : PySem.W.findIn K (.ref CL) "__setattr__" = some (some (.builtin "object.__setattr__")))
    (mkCL : PySem.W.makesIn K CL = true)
    (kcCL : PySem.W.keepIn K (.ref CL) = true)
    (iCL : PySem.W.findIn K (.ref CL) "__init__" = some (some (.ref f_line_init)))
    (fnCL : PySem.W.isFn K (.ref f_line_init) = true)
    (nCL_pits : PySem.W.findIn K (.ref CL) "pits" = some none)
    (nCL_move_time : PySem.W.findIn K (.ref CL) "move_time" = some none)
    (nCL_empty_time : PySem.W.findIn K (.ref CL) "empty_time" = some none)
    (l_line_init : K.lookup f_line_init = some ⟨oc_line_init, od_line_init, .func (PySem.W.fnOf "__init__" "Line.__init__" (defArgs s_line_init) (defBody s_line_init) (defScope s_line_init) .none kV_line_init dc_line_init pm_line_init an_line_init cd_line_init ct_line_init), sl_line_init⟩)
    (c_line_init : PySem.W.codeIn K cd_line_init "Line.__init__" = true)
    (k_line_init : PySem.W.keepIn K (.ref f_line_init) = true)
    (aCS : PySem.W.nsIn K mainGlobals "State" = some (some (.ref CS)))
    (pgCS : PySem.W.plainGet K CS Str.empty = true)
    (hdCS : PySem.W.hasDictIn K CS = true)
    (poCS : PySem.W.plainOver K CS = true)
    (saCS : PySem.W.findIn K (.ref CS) "__setattr__" = some (some (.builtin "object.__setattr__")))
    (mkCS : PySem.W.makesIn K CS = true)
    (kcCS : PySem.W.keepIn K (.ref CS) = true)
    (iCS : PySem.W.findIn K (.ref CS) "__init__" = some (some (.ref f_state_init)))
    (fnCS : PySem.W.isFn K (.ref f_state_init) = true)
    (nCS_line : PySem.W.findIn K (.ref CS) "line" = some none)
    (l_state_init : K.lookup f_state_init = some ⟨oc_state_init, od_state_init, .func (PySem.W.fnOf "__init__" "State.__init__" (defArgs s_state_init) (defBody s_state_init) (defScope s_state_init) .none kV_state_init dc_state_init pm_state_init an_state_init cd_state_init ct_state_init), sl_state_init⟩)
    (c_state_init : PySem.W.codeIn K cd_state_init "State.__init__" = true)
    (k_state_init : PySem.W.keepIn K (.ref f_state_init) = true)
    (z_NO_LINE : PySem.W.nsIn K mainGlobals "NO_LINE" = some (some (.int (-11) t_NO_LINE)))
    (z_NO_PIT : PySem.W.nsIn K mainGlobals "NO_PIT" = some (some (.int (-2) t_NO_PIT)))
    (z_BAD_ARGUMENT : PySem.W.nsIn K mainGlobals "BAD_ARGUMENT" = some (some (.int (-22) t_BAD_ARGUMENT)))
    (z_FULL : PySem.W.nsIn K mainGlobals "FULL" = some (some (.int (-28) t_FULL)))
    (z_NOTHING : PySem.W.nsIn K mainGlobals "NOTHING" = some (some (.int (-33) t_NOTHING)))
    (z_MOST_PITS : PySem.W.nsIn K mainGlobals "MOST_PITS" = some (some (.int (4) t_MOST_PITS)))
    (z_LONGEST_STAY : PySem.W.nsIn K mainGlobals "LONGEST_STAY" = some (some (.int (30) t_LONGEST_STAY)))
    (z_WIDEST : PySem.W.nsIn K mainGlobals "WIDEST" = some (some (.int (8) t_WIDEST)))
    (z_LONGEST_MOVE : PySem.W.nsIn K mainGlobals "LONGEST_MOVE" = some (some (.int (9) t_LONGEST_MOVE)))
    (z_LONGEST_EMPTY : PySem.W.nsIn K mainGlobals "LONGEST_EMPTY" = some (some (.int (4) t_LONGEST_EMPTY)))
    (z_LAST_PERIOD : PySem.W.nsIn K mainGlobals "LAST_PERIOD" = some (some (.int (99) t_LAST_PERIOD)))
    (z_CREATE : PySem.W.nsIn K mainGlobals "CREATE" = some (some (.int (0) t_CREATE)))
    (b_len : PySem.W.nsIn K mainGlobals "len" = some none)
    (b_abs : PySem.W.nsIn K mainGlobals "abs" = some none)
    (b_max : PySem.W.nsIn K mainGlobals "max" = some none)
    (b_any : PySem.W.nsIn K mainGlobals "any" = some none)
    (b_all : PySem.W.nsIn K mainGlobals "all" = some none)
    (b_zip : PySem.W.nsIn K mainGlobals "zip" = some none)
    (b_range : PySem.W.nsIn K mainGlobals "range" = some none)
    (b_list : PySem.W.nsIn K mainGlobals "list" = some none)
    (b_int : PySem.W.nsIn K mainGlobals "int" = some none)
    (b_ValueError : PySem.W.nsIn K mainGlobals "ValueError" = some none)
    (a_refuse : PySem.W.nsIn K mainGlobals "refuse" = some (some (.ref f_refuse)))
    (l_refuse : K.lookup f_refuse = some ⟨oc_refuse, od_refuse, .func (PySem.W.fnOf "refuse" "refuse" (defArgs s_refuse) (defBody s_refuse) (defScope s_refuse) .none kV_refuse dc_refuse pm_refuse an_refuse cd_refuse ct_refuse), sl_refuse⟩)
    (c_refuse : PySem.W.codeIn K cd_refuse "refuse" = true)
    (k_refuse : PySem.W.keepIn K (.ref f_refuse) = true)
    (a_check_speed : PySem.W.nsIn K mainGlobals "check_speed" = some (some (.ref f_check_speed)))
    (l_check_speed : K.lookup f_check_speed = some ⟨oc_check_speed, od_check_speed, .func (PySem.W.fnOf "check_speed" "check_speed" (defArgs s_check_speed) (defBody s_check_speed) (defScope s_check_speed) .none kV_check_speed dc_check_speed pm_check_speed an_check_speed cd_check_speed ct_check_speed), sl_check_speed⟩)
    (c_check_speed : PySem.W.codeIn K cd_check_speed "check_speed" = true)
    (k_check_speed : PySem.W.keepIn K (.ref f_check_speed) = true)
    (a_check_window : PySem.W.nsIn K mainGlobals "check_window" = some (some (.ref f_check_window)))
    (l_check_window : K.lookup f_check_window = some ⟨oc_check_window, od_check_window, .func (PySem.W.fnOf "check_window" "check_window" (defArgs s_check_window) (defBody s_check_window) (defScope s_check_window) .none kV_check_window dc_check_window pm_check_window an_check_window cd_check_window ct_check_window), sl_check_window⟩)
    (c_check_window : PySem.W.codeIn K cd_check_window "check_window" = true)
    (k_check_window : PySem.W.keepIn K (.ref f_check_window) = true)
    (a_check_pit : PySem.W.nsIn K mainGlobals "check_pit" = some (some (.ref f_check_pit)))
    (l_check_pit : K.lookup f_check_pit = some ⟨oc_check_pit, od_check_pit, .func (PySem.W.fnOf "check_pit" "check_pit" (defArgs s_check_pit) (defBody s_check_pit) (defScope s_check_pit) .none kV_check_pit dc_check_pit pm_check_pit an_check_pit cd_check_pit ct_check_pit), sl_check_pit⟩)
    (c_check_pit : PySem.W.codeIn K cd_check_pit "check_pit" = true)
    (k_check_pit : PySem.W.keepIn K (.ref f_check_pit) = true)
    (a_check_period : PySem.W.nsIn K mainGlobals "check_period" = some (some (.ref f_check_period)))
    (l_check_period : K.lookup f_check_period = some ⟨oc_check_period, od_check_period, .func (PySem.W.fnOf "check_period" "check_period" (defArgs s_check_period) (defBody s_check_period) (defScope s_check_period) .none kV_check_period dc_check_period pm_check_period an_check_period cd_check_period ct_check_period), sl_check_period⟩)
    (c_check_period : PySem.W.codeIn K cd_check_period "check_period" = true)
    (k_check_period : PySem.W.keepIn K (.ref f_check_period) = true)
    (a_with_pit : PySem.W.nsIn K mainGlobals "with_pit" = some (some (.ref f_with_pit)))
    (l_with_pit : K.lookup f_with_pit = some ⟨oc_with_pit, od_with_pit, .func (PySem.W.fnOf "with_pit" "with_pit" (defArgs s_with_pit) (defBody s_with_pit) (defScope s_with_pit) .none kV_with_pit dc_with_pit pm_with_pit an_with_pit cd_with_pit ct_with_pit), sl_with_pit⟩)
    (c_with_pit : PySem.W.codeIn K cd_with_pit "with_pit" = true)
    (k_with_pit : PySem.W.keepIn K (.ref f_with_pit) = true)
    (a_without_pit : PySem.W.nsIn K mainGlobals "without_pit" = some (some (.ref f_without_pit)))
    (l_without_pit : K.lookup f_without_pit = some ⟨oc_without_pit, od_without_pit, .func (PySem.W.fnOf "without_pit" "without_pit" (defArgs s_without_pit) (defBody s_without_pit) (defScope s_without_pit) .none kV_without_pit dc_without_pit pm_without_pit an_without_pit cd_without_pit ct_without_pit), sl_without_pit⟩)
    (c_without_pit : PySem.W.codeIn K cd_without_pit "without_pit" = true)
    (k_without_pit : PySem.W.keepIn K (.ref f_without_pit) = true)
    (a_with_window : PySem.W.nsIn K mainGlobals "with_window" = some (some (.ref f_with_window)))
    (l_with_window : K.lookup f_with_window = some ⟨oc_with_window, od_with_window, .func (PySem.W.fnOf "with_window" "with_window" (defArgs s_with_window) (defBody s_with_window) (defScope s_with_window) .none kV_with_window dc_with_window pm_with_window an_with_window cd_with_window ct_with_window), sl_with_window⟩)
    (c_with_window : PySem.W.codeIn K cd_with_window "with_window" = true)
    (k_with_window : PySem.W.keepIn K (.ref f_with_window) = true)
    (a_with_speed : PySem.W.nsIn K mainGlobals "with_speed" = some (some (.ref f_with_speed)))
    (l_with_speed : K.lookup f_with_speed = some ⟨oc_with_speed, od_with_speed, .func (PySem.W.fnOf "with_speed" "with_speed" (defArgs s_with_speed) (defBody s_with_speed) (defScope s_with_speed) .none kV_with_speed dc_with_speed pm_with_speed an_with_speed cd_with_speed ct_with_speed), sl_with_speed⟩)
    (c_with_speed : PySem.W.codeIn K cd_with_speed "with_speed" = true)
    (k_with_speed : PySem.W.keepIn K (.ref f_with_speed) = true)
    (a_bound_of : PySem.W.nsIn K mainGlobals "bound_of" = some (some (.ref f_bound_of)))
    (l_bound_of : K.lookup f_bound_of = some ⟨oc_bound_of, od_bound_of, .func (PySem.W.fnOf "bound_of" "bound_of" (defArgs s_bound_of) (defBody s_bound_of) (defScope s_bound_of) .none kV_bound_of dc_bound_of pm_bound_of an_bound_of cd_bound_of ct_bound_of), sl_bound_of⟩)
    (c_bound_of : PySem.W.codeIn K cd_bound_of "bound_of" = true)
    (k_bound_of : PySem.W.keepIn K (.ref f_bound_of) = true)
    (a_starts_of : PySem.W.nsIn K mainGlobals "starts_of" = some (some (.ref f_starts_of)))
    (l_starts_of : K.lookup f_starts_of = some ⟨oc_starts_of, od_starts_of, .func (PySem.W.fnOf "starts_of" "starts_of" (defArgs s_starts_of) (defBody s_starts_of) (defScope s_starts_of) .none kV_starts_of dc_starts_of pm_starts_of an_starts_of cd_starts_of ct_starts_of), sl_starts_of⟩)
    (c_starts_of : PySem.W.codeIn K cd_starts_of "starts_of" = true)
    (k_starts_of : PySem.W.keepIn K (.ref f_starts_of) = true)
    (a_needed_time : PySem.W.nsIn K mainGlobals "needed_time" = some (some (.ref f_needed_time)))
    (l_needed_time : K.lookup f_needed_time = some ⟨oc_needed_time, od_needed_time, .func (PySem.W.fnOf "needed_time" "needed_time" (defArgs s_needed_time) (defBody s_needed_time) (defScope s_needed_time) .none kV_needed_time dc_needed_time pm_needed_time an_needed_time cd_needed_time ct_needed_time), sl_needed_time⟩)
    (c_needed_time : PySem.W.codeIn K cd_needed_time "needed_time" = true)
    (k_needed_time : PySem.W.keepIn K (.ref f_needed_time) = true)
    (a_is_too_early : PySem.W.nsIn K mainGlobals "is_too_early" = some (some (.ref f_is_too_early)))
    (l_is_too_early : K.lookup f_is_too_early = some ⟨oc_is_too_early, od_is_too_early, .func (PySem.W.fnOf "is_too_early" "is_too_early" (defArgs s_is_too_early) (defBody s_is_too_early) (defScope s_is_too_early) .none kV_is_too_early dc_is_too_early pm_is_too_early an_is_too_early cd_is_too_early ct_is_too_early), sl_is_too_early⟩)
    (c_is_too_early : PySem.W.codeIn K cd_is_too_early "is_too_early" = true)
    (k_is_too_early : PySem.W.keepIn K (.ref f_is_too_early) = true)
    (a_do_conflict : PySem.W.nsIn K mainGlobals "do_conflict" = some (some (.ref f_do_conflict)))
    (l_do_conflict : K.lookup f_do_conflict = some ⟨oc_do_conflict, od_do_conflict, .func (PySem.W.fnOf "do_conflict" "do_conflict" (defArgs s_do_conflict) (defBody s_do_conflict) (defScope s_do_conflict) .none kV_do_conflict dc_do_conflict pm_do_conflict an_do_conflict cd_do_conflict ct_do_conflict), sl_do_conflict⟩)
    (c_do_conflict : PySem.W.codeIn K cd_do_conflict "do_conflict" = true)
    (k_do_conflict : PySem.W.keepIn K (.ref f_do_conflict) = true)
    (a_conflicts : PySem.W.nsIn K mainGlobals "conflicts" = some (some (.ref f_conflicts)))
    (l_conflicts : K.lookup f_conflicts = some ⟨oc_conflicts, od_conflicts, .func (PySem.W.fnOf "conflicts" "conflicts" (defArgs s_conflicts) (defBody s_conflicts) (defScope s_conflicts) .none kV_conflicts dc_conflicts pm_conflicts an_conflicts cd_conflicts ct_conflicts), sl_conflicts⟩)
    (c_conflicts : PySem.W.codeIn K cd_conflicts "conflicts" = true)
    (k_conflicts : PySem.W.keepIn K (.ref f_conflicts) = true)
    (a_is_within : PySem.W.nsIn K mainGlobals "is_within" = some (some (.ref f_is_within)))
    (l_is_within : K.lookup f_is_within = some ⟨oc_is_within, od_is_within, .func (PySem.W.fnOf "is_within" "is_within" (defArgs s_is_within) (defBody s_is_within) (defScope s_is_within) .none kV_is_within dc_is_within pm_is_within an_is_within cd_is_within ct_is_within), sl_is_within⟩)
    (c_is_within : PySem.W.codeIn K cd_is_within "is_within" = true)
    (k_is_within : PySem.W.keepIn K (.ref f_is_within) = true)
    (a_may_repeat : PySem.W.nsIn K mainGlobals "may_repeat" = some (some (.ref f_may_repeat)))
    (l_may_repeat : K.lookup f_may_repeat = some ⟨oc_may_repeat, od_may_repeat, .func (PySem.W.fnOf "may_repeat" "may_repeat" (defArgs s_may_repeat) (defBody s_may_repeat) (defScope s_may_repeat) .none kV_may_repeat dc_may_repeat pm_may_repeat an_may_repeat cd_may_repeat ct_may_repeat), sl_may_repeat⟩)
    (c_may_repeat : PySem.W.codeIn K cd_may_repeat "may_repeat" = true)
    (k_may_repeat : PySem.W.keepIn K (.ref f_may_repeat) = true)
    (a_is_feasible : PySem.W.nsIn K mainGlobals "is_feasible" = some (some (.ref f_is_feasible)))
    (l_is_feasible : K.lookup f_is_feasible = some ⟨oc_is_feasible, od_is_feasible, .func (PySem.W.fnOf "is_feasible" "is_feasible" (defArgs s_is_feasible) (defBody s_is_feasible) (defScope s_is_feasible) .none kV_is_feasible dc_is_feasible pm_is_feasible an_is_feasible cd_is_feasible ct_is_feasible), sl_is_feasible⟩)
    (c_is_feasible : PySem.W.codeIn K cd_is_feasible "is_feasible" = true)
    (k_is_feasible : PySem.W.keepIn K (.ref f_is_feasible) = true)
    (a_does_fit : PySem.W.nsIn K mainGlobals "does_fit" = some (some (.ref f_does_fit)))
    (l_does_fit : K.lookup f_does_fit = some ⟨oc_does_fit, od_does_fit, .func (PySem.W.fnOf "does_fit" "does_fit" (defArgs s_does_fit) (defBody s_does_fit) (defScope s_does_fit) .none kV_does_fit dc_does_fit pm_does_fit an_does_fit cd_does_fit ct_does_fit), sl_does_fit⟩)
    (c_does_fit : PySem.W.codeIn K cd_does_fit "does_fit" = true)
    (k_does_fit : PySem.W.keepIn K (.ref f_does_fit) = true)
    (a_longer_plans : PySem.W.nsIn K mainGlobals "longer_plans" = some (some (.ref f_longer_plans)))
    (l_longer_plans : K.lookup f_longer_plans = some ⟨oc_longer_plans, od_longer_plans, .func (PySem.W.fnOf "longer_plans" "longer_plans" (defArgs s_longer_plans) (defBody s_longer_plans) (defScope s_longer_plans) .none kV_longer_plans dc_longer_plans pm_longer_plans an_longer_plans cd_longer_plans ct_longer_plans), sl_longer_plans⟩)
    (c_longer_plans : PySem.W.codeIn K cd_longer_plans "longer_plans" = true)
    (k_longer_plans : PySem.W.keepIn K (.ref f_longer_plans) = true)
    (a_feasible_plans : PySem.W.nsIn K mainGlobals "feasible_plans" = some (some (.ref f_feasible_plans)))
    (l_feasible_plans : K.lookup f_feasible_plans = some ⟨oc_feasible_plans, od_feasible_plans, .func (PySem.W.fnOf "feasible_plans" "feasible_plans" (defArgs s_feasible_plans) (defBody s_feasible_plans) (defScope s_feasible_plans) .none kV_feasible_plans dc_feasible_plans pm_feasible_plans an_feasible_plans cd_feasible_plans ct_feasible_plans), sl_feasible_plans⟩)
    (c_feasible_plans : PySem.W.codeIn K cd_feasible_plans "feasible_plans" = true)
    (k_feasible_plans : PySem.W.keepIn K (.ref f_feasible_plans) = true)
    (a_first_from : PySem.W.nsIn K mainGlobals "first_from" = some (some (.ref f_first_from)))
    (l_first_from : K.lookup f_first_from = some ⟨oc_first_from, od_first_from, .func (PySem.W.fnOf "first_from" "first_from" (defArgs s_first_from) (defBody s_first_from) (defScope s_first_from) .none kV_first_from dc_first_from pm_first_from an_first_from cd_first_from ct_first_from), sl_first_from⟩)
    (c_first_from : PySem.W.codeIn K cd_first_from "first_from" = true)
    (k_first_from : PySem.W.keepIn K (.ref f_first_from) = true)
    (a_first_or_none : PySem.W.nsIn K mainGlobals "first_or_none" = some (some (.ref f_first_or_none)))
    (l_first_or_none : K.lookup f_first_or_none = some ⟨oc_first_or_none, od_first_or_none, .func (PySem.W.fnOf "first_or_none" "first_or_none" (defArgs s_first_or_none) (defBody s_first_or_none) (defScope s_first_or_none) .none kV_first_or_none dc_first_or_none pm_first_or_none an_first_or_none cd_first_or_none ct_first_or_none), sl_first_or_none⟩)
    (c_first_or_none : PySem.W.codeIn K cd_first_or_none "first_or_none" = true)
    (k_first_or_none : PySem.W.keepIn K (.ref f_first_or_none) = true)
    (a_first_plan : PySem.W.nsIn K mainGlobals "first_plan" = some (some (.ref f_first_plan)))
    (l_first_plan : K.lookup f_first_plan = some ⟨oc_first_plan, od_first_plan, .func (PySem.W.fnOf "first_plan" "first_plan" (defArgs s_first_plan) (defBody s_first_plan) (defScope s_first_plan) .none kV_first_plan dc_first_plan pm_first_plan an_first_plan cd_first_plan ct_first_plan), sl_first_plan⟩)
    (c_first_plan : PySem.W.codeIn K cd_first_plan "first_plan" = true)
    (k_first_plan : PySem.W.keepIn K (.ref f_first_plan) = true)
    (a_has_plan : PySem.W.nsIn K mainGlobals "has_plan" = some (some (.ref f_has_plan)))
    (l_has_plan : K.lookup f_has_plan = some ⟨oc_has_plan, od_has_plan, .func (PySem.W.fnOf "has_plan" "has_plan" (defArgs s_has_plan) (defBody s_has_plan) (defScope s_has_plan) .none kV_has_plan dc_has_plan pm_has_plan an_has_plan cd_has_plan ct_has_plan), sl_has_plan⟩)
    (c_has_plan : PySem.W.codeIn K cd_has_plan "has_plan" = true)
    (k_has_plan : PySem.W.keepIn K (.ref f_has_plan) = true)
    (a_feasible_periods : PySem.W.nsIn K mainGlobals "feasible_periods" = some (some (.ref f_feasible_periods)))
    (l_feasible_periods : K.lookup f_feasible_periods = some ⟨oc_feasible_periods, od_feasible_periods, .func (PySem.W.fnOf "feasible_periods" "feasible_periods" (defArgs s_feasible_periods) (defBody s_feasible_periods) (defScope s_feasible_periods) .none kV_feasible_periods dc_feasible_periods pm_feasible_periods an_feasible_periods cd_feasible_periods ct_feasible_periods), sl_feasible_periods⟩)
    (c_feasible_periods : PySem.W.codeIn K cd_feasible_periods "feasible_periods" = true)
    (k_feasible_periods : PySem.W.keepIn K (.ref f_feasible_periods) = true)
    (a_shortest_period : PySem.W.nsIn K mainGlobals "shortest_period" = some (some (.ref f_shortest_period)))
    (l_shortest_period : K.lookup f_shortest_period = some ⟨oc_shortest_period, od_shortest_period, .func (PySem.W.fnOf "shortest_period" "shortest_period" (defArgs s_shortest_period) (defBody s_shortest_period) (defScope s_shortest_period) .none kV_shortest_period dc_shortest_period pm_shortest_period an_shortest_period cd_shortest_period ct_shortest_period), sl_shortest_period⟩)
    (c_shortest_period : PySem.W.codeIn K cd_shortest_period "shortest_period" = true)
    (k_shortest_period : PySem.W.keepIn K (.ref f_shortest_period) = true)
    (a_throughput_time : PySem.W.nsIn K mainGlobals "throughput_time" = some (some (.ref f_throughput_time)))
    (l_throughput_time : K.lookup f_throughput_time = some ⟨oc_throughput_time, od_throughput_time, .func (PySem.W.fnOf "throughput_time" "throughput_time" (defArgs s_throughput_time) (defBody s_throughput_time) (defScope s_throughput_time) .none kV_throughput_time dc_throughput_time pm_throughput_time an_throughput_time cd_throughput_time ct_throughput_time), sl_throughput_time⟩)
    (c_throughput_time : PySem.W.codeIn K cd_throughput_time "throughput_time" = true)
    (k_throughput_time : PySem.W.keepIn K (.ref f_throughput_time) = true)
    (a_completion_time : PySem.W.nsIn K mainGlobals "completion_time" = some (some (.ref f_completion_time)))
    (l_completion_time : K.lookup f_completion_time = some ⟨oc_completion_time, od_completion_time, .func (PySem.W.fnOf "completion_time" "completion_time" (defArgs s_completion_time) (defBody s_completion_time) (defScope s_completion_time) .none kV_completion_time dc_completion_time pm_completion_time an_completion_time cd_completion_time ct_completion_time), sl_completion_time⟩)
    (c_completion_time : PySem.W.codeIn K cd_completion_time "completion_time" = true)
    (k_completion_time : PySem.W.keepIn K (.ref f_completion_time) = true)
    (a_is_occupied : PySem.W.nsIn K mainGlobals "is_occupied" = some (some (.ref f_is_occupied)))
    (l_is_occupied : K.lookup f_is_occupied = some ⟨oc_is_occupied, od_is_occupied, .func (PySem.W.fnOf "is_occupied" "is_occupied" (defArgs s_is_occupied) (defBody s_is_occupied) (defScope s_is_occupied) .none kV_is_occupied dc_is_occupied pm_is_occupied an_is_occupied cd_is_occupied ct_is_occupied), sl_is_occupied⟩)
    (c_is_occupied : PySem.W.codeIn K cd_is_occupied "is_occupied" = true)
    (k_is_occupied : PySem.W.keepIn K (.ref f_is_occupied) = true)
    (a_occupied_pits : PySem.W.nsIn K mainGlobals "occupied_pits" = some (some (.ref f_occupied_pits)))
    (l_occupied_pits : K.lookup f_occupied_pits = some ⟨oc_occupied_pits, od_occupied_pits, .func (PySem.W.fnOf "occupied_pits" "occupied_pits" (defArgs s_occupied_pits) (defBody s_occupied_pits) (defScope s_occupied_pits) .none kV_occupied_pits dc_occupied_pits pm_occupied_pits an_occupied_pits cd_occupied_pits ct_occupied_pits), sl_occupied_pits⟩)
    (c_occupied_pits : PySem.W.codeIn K cd_occupied_pits "occupied_pits" = true)
    (k_occupied_pits : PySem.W.keepIn K (.ref f_occupied_pits) = true)
    (a_most_occupied : PySem.W.nsIn K mainGlobals "most_occupied" = some (some (.ref f_most_occupied)))
    (l_most_occupied : K.lookup f_most_occupied = some ⟨oc_most_occupied, od_most_occupied, .func (PySem.W.fnOf "most_occupied" "most_occupied" (defArgs s_most_occupied) (defBody s_most_occupied) (defScope s_most_occupied) .none kV_most_occupied dc_most_occupied pm_most_occupied an_most_occupied cd_most_occupied ct_most_occupied), sl_most_occupied⟩)
    (c_most_occupied : PySem.W.codeIn K cd_most_occupied "most_occupied" = true)
    (k_most_occupied : PySem.W.keepIn K (.ref f_most_occupied) = true)
    (a_create : PySem.W.nsIn K mainGlobals "create" = some (some (.ref f_create)))
    (l_create : K.lookup f_create = some ⟨oc_create, od_create, .func (PySem.W.fnOf "create" "create" (defArgs s_create) (defBody s_create) (defScope s_create) .none kV_create dc_create pm_create an_create cd_create ct_create), sl_create⟩)
    (c_create : PySem.W.codeIn K cd_create "create" = true)
    (k_create : PySem.W.keepIn K (.ref f_create) = true)
    (a_add_pit : PySem.W.nsIn K mainGlobals "add_pit" = some (some (.ref f_add_pit)))
    (l_add_pit : K.lookup f_add_pit = some ⟨oc_add_pit, od_add_pit, .func (PySem.W.fnOf "add_pit" "add_pit" (defArgs s_add_pit) (defBody s_add_pit) (defScope s_add_pit) .none kV_add_pit dc_add_pit pm_add_pit an_add_pit cd_add_pit ct_add_pit), sl_add_pit⟩)
    (c_add_pit : PySem.W.codeIn K cd_add_pit "add_pit" = true)
    (k_add_pit : PySem.W.keepIn K (.ref f_add_pit) = true)
    (a_remove_pit : PySem.W.nsIn K mainGlobals "remove_pit" = some (some (.ref f_remove_pit)))
    (l_remove_pit : K.lookup f_remove_pit = some ⟨oc_remove_pit, od_remove_pit, .func (PySem.W.fnOf "remove_pit" "remove_pit" (defArgs s_remove_pit) (defBody s_remove_pit) (defScope s_remove_pit) .none kV_remove_pit dc_remove_pit pm_remove_pit an_remove_pit cd_remove_pit ct_remove_pit), sl_remove_pit⟩)
    (c_remove_pit : PySem.W.codeIn K cd_remove_pit "remove_pit" = true)
    (k_remove_pit : PySem.W.keepIn K (.ref f_remove_pit) = true)
    (a_set_window : PySem.W.nsIn K mainGlobals "set_window" = some (some (.ref f_set_window)))
    (l_set_window : K.lookup f_set_window = some ⟨oc_set_window, od_set_window, .func (PySem.W.fnOf "set_window" "set_window" (defArgs s_set_window) (defBody s_set_window) (defScope s_set_window) .none kV_set_window dc_set_window pm_set_window an_set_window cd_set_window ct_set_window), sl_set_window⟩)
    (c_set_window : PySem.W.codeIn K cd_set_window "set_window" = true)
    (k_set_window : PySem.W.keepIn K (.ref f_set_window) = true)
    (a_set_speed : PySem.W.nsIn K mainGlobals "set_speed" = some (some (.ref f_set_speed)))
    (l_set_speed : K.lookup f_set_speed = some ⟨oc_set_speed, od_set_speed, .func (PySem.W.fnOf "set_speed" "set_speed" (defArgs s_set_speed) (defBody s_set_speed) (defScope s_set_speed) .none kV_set_speed dc_set_speed pm_set_speed an_set_speed cd_set_speed ct_set_speed), sl_set_speed⟩)
    (c_set_speed : PySem.W.codeIn K cd_set_speed "set_speed" = true)
    (k_set_speed : PySem.W.keepIn K (.ref f_set_speed) = true)
    (a_get_pit : PySem.W.nsIn K mainGlobals "get_pit" = some (some (.ref f_get_pit)))
    (l_get_pit : K.lookup f_get_pit = some ⟨oc_get_pit, od_get_pit, .func (PySem.W.fnOf "get_pit" "get_pit" (defArgs s_get_pit) (defBody s_get_pit) (defScope s_get_pit) .none kV_get_pit dc_get_pit pm_get_pit an_get_pit cd_get_pit ct_get_pit), sl_get_pit⟩)
    (c_get_pit : PySem.W.codeIn K cd_get_pit "get_pit" = true)
    (k_get_pit : PySem.W.keepIn K (.ref f_get_pit) = true)
    (a_tell_shortest : PySem.W.nsIn K mainGlobals "tell_shortest" = some (some (.ref f_tell_shortest)))
    (l_tell_shortest : K.lookup f_tell_shortest = some ⟨oc_tell_shortest, od_tell_shortest, .func (PySem.W.fnOf "tell_shortest" "tell_shortest" (defArgs s_tell_shortest) (defBody s_tell_shortest) (defScope s_tell_shortest) .none kV_tell_shortest dc_tell_shortest pm_tell_shortest an_tell_shortest cd_tell_shortest ct_tell_shortest), sl_tell_shortest⟩)
    (c_tell_shortest : PySem.W.codeIn K cd_tell_shortest "tell_shortest" = true)
    (k_tell_shortest : PySem.W.keepIn K (.ref f_tell_shortest) = true)
    (a_checked_plan : PySem.W.nsIn K mainGlobals "checked_plan" = some (some (.ref f_checked_plan)))
    (l_checked_plan : K.lookup f_checked_plan = some ⟨oc_checked_plan, od_checked_plan, .func (PySem.W.fnOf "checked_plan" "checked_plan" (defArgs s_checked_plan) (defBody s_checked_plan) (defScope s_checked_plan) .none kV_checked_plan dc_checked_plan pm_checked_plan an_checked_plan cd_checked_plan ct_checked_plan), sl_checked_plan⟩)
    (c_checked_plan : PySem.W.codeIn K cd_checked_plan "checked_plan" = true)
    (k_checked_plan : PySem.W.keepIn K (.ref f_checked_plan) = true)
    (a_tell_plan : PySem.W.nsIn K mainGlobals "tell_plan" = some (some (.ref f_tell_plan)))
    (l_tell_plan : K.lookup f_tell_plan = some ⟨oc_tell_plan, od_tell_plan, .func (PySem.W.fnOf "tell_plan" "tell_plan" (defArgs s_tell_plan) (defBody s_tell_plan) (defScope s_tell_plan) .none kV_tell_plan dc_tell_plan pm_tell_plan an_tell_plan cd_tell_plan ct_tell_plan), sl_tell_plan⟩)
    (c_tell_plan : PySem.W.codeIn K cd_tell_plan "tell_plan" = true)
    (k_tell_plan : PySem.W.keepIn K (.ref f_tell_plan) = true)
    (a_tell_starts : PySem.W.nsIn K mainGlobals "tell_starts" = some (some (.ref f_tell_starts)))
    (l_tell_starts : K.lookup f_tell_starts = some ⟨oc_tell_starts, od_tell_starts, .func (PySem.W.fnOf "tell_starts" "tell_starts" (defArgs s_tell_starts) (defBody s_tell_starts) (defScope s_tell_starts) .none kV_tell_starts dc_tell_starts pm_tell_starts an_tell_starts cd_tell_starts ct_tell_starts), sl_tell_starts⟩)
    (c_tell_starts : PySem.W.codeIn K cd_tell_starts "tell_starts" = true)
    (k_tell_starts : PySem.W.keepIn K (.ref f_tell_starts) = true)
    (a_check_plan : PySem.W.nsIn K mainGlobals "check_plan" = some (some (.ref f_check_plan)))
    (l_check_plan : K.lookup f_check_plan = some ⟨oc_check_plan, od_check_plan, .func (PySem.W.fnOf "check_plan" "check_plan" (defArgs s_check_plan) (defBody s_check_plan) (defScope s_check_plan) .none kV_check_plan dc_check_plan pm_check_plan an_check_plan cd_check_plan ct_check_plan), sl_check_plan⟩)
    (c_check_plan : PySem.W.codeIn K cd_check_plan "check_plan" = true)
    (k_check_plan : PySem.W.keepIn K (.ref f_check_plan) = true)
    (a_tell_feasible : PySem.W.nsIn K mainGlobals "tell_feasible" = some (some (.ref f_tell_feasible)))
    (l_tell_feasible : K.lookup f_tell_feasible = some ⟨oc_tell_feasible, od_tell_feasible, .func (PySem.W.fnOf "tell_feasible" "tell_feasible" (defArgs s_tell_feasible) (defBody s_tell_feasible) (defScope s_tell_feasible) .none kV_tell_feasible dc_tell_feasible pm_tell_feasible an_tell_feasible cd_tell_feasible ct_tell_feasible), sl_tell_feasible⟩)
    (c_tell_feasible : PySem.W.codeIn K cd_tell_feasible "tell_feasible" = true)
    (k_tell_feasible : PySem.W.keepIn K (.ref f_tell_feasible) = true)
    (a_tell_conflict : PySem.W.nsIn K mainGlobals "tell_conflict" = some (some (.ref f_tell_conflict)))
    (l_tell_conflict : K.lookup f_tell_conflict = some ⟨oc_tell_conflict, od_tell_conflict, .func (PySem.W.fnOf "tell_conflict" "tell_conflict" (defArgs s_tell_conflict) (defBody s_tell_conflict) (defScope s_tell_conflict) .none kV_tell_conflict dc_tell_conflict pm_tell_conflict an_tell_conflict cd_tell_conflict ct_tell_conflict), sl_tell_conflict⟩)
    (c_tell_conflict : PySem.W.codeIn K cd_tell_conflict "tell_conflict" = true)
    (k_tell_conflict : PySem.W.keepIn K (.ref f_tell_conflict) = true)
    (a_tell_count : PySem.W.nsIn K mainGlobals "tell_count" = some (some (.ref f_tell_count)))
    (l_tell_count : K.lookup f_tell_count = some ⟨oc_tell_count, od_tell_count, .func (PySem.W.fnOf "tell_count" "tell_count" (defArgs s_tell_count) (defBody s_tell_count) (defScope s_tell_count) .none kV_tell_count dc_tell_count pm_tell_count an_tell_count cd_tell_count ct_tell_count), sl_tell_count⟩)
    (c_tell_count : PySem.W.codeIn K cd_tell_count "tell_count" = true)
    (k_tell_count : PySem.W.keepIn K (.ref f_tell_count) = true)
    (a_tell_throughput : PySem.W.nsIn K mainGlobals "tell_throughput" = some (some (.ref f_tell_throughput)))
    (l_tell_throughput : K.lookup f_tell_throughput = some ⟨oc_tell_throughput, od_tell_throughput, .func (PySem.W.fnOf "tell_throughput" "tell_throughput" (defArgs s_tell_throughput) (defBody s_tell_throughput) (defScope s_tell_throughput) .none kV_tell_throughput dc_tell_throughput pm_tell_throughput an_tell_throughput cd_tell_throughput ct_tell_throughput), sl_tell_throughput⟩)
    (c_tell_throughput : PySem.W.codeIn K cd_tell_throughput "tell_throughput" = true)
    (k_tell_throughput : PySem.W.keepIn K (.ref f_tell_throughput) = true)
    (a_tell_occupied : PySem.W.nsIn K mainGlobals "tell_occupied" = some (some (.ref f_tell_occupied)))
    (l_tell_occupied : K.lookup f_tell_occupied = some ⟨oc_tell_occupied, od_tell_occupied, .func (PySem.W.fnOf "tell_occupied" "tell_occupied" (defArgs s_tell_occupied) (defBody s_tell_occupied) (defScope s_tell_occupied) .none kV_tell_occupied dc_tell_occupied pm_tell_occupied an_tell_occupied cd_tell_occupied ct_tell_occupied), sl_tell_occupied⟩)
    (c_tell_occupied : PySem.W.codeIn K cd_tell_occupied "tell_occupied" = true)
    (k_tell_occupied : PySem.W.keepIn K (.ref f_tell_occupied) = true)
    (a_tell_completion : PySem.W.nsIn K mainGlobals "tell_completion" = some (some (.ref f_tell_completion)))
    (l_tell_completion : K.lookup f_tell_completion = some ⟨oc_tell_completion, od_tell_completion, .func (PySem.W.fnOf "tell_completion" "tell_completion" (defArgs s_tell_completion) (defBody s_tell_completion) (defScope s_tell_completion) .none kV_tell_completion dc_tell_completion pm_tell_completion an_tell_completion cd_tell_completion ct_tell_completion), sl_tell_completion⟩)
    (c_tell_completion : PySem.W.codeIn K cd_tell_completion "tell_completion" = true)
    (k_tell_completion : PySem.W.keepIn K (.ref f_tell_completion) = true)
    (a_shortest_with_window : PySem.W.nsIn K mainGlobals "shortest_with_window" = some (some (.ref f_shortest_with_window)))
    (l_shortest_with_window : K.lookup f_shortest_with_window = some ⟨oc_shortest_with_window, od_shortest_with_window, .func (PySem.W.fnOf "shortest_with_window" "shortest_with_window" (defArgs s_shortest_with_window) (defBody s_shortest_with_window) (defScope s_shortest_with_window) .none kV_shortest_with_window dc_shortest_with_window pm_shortest_with_window an_shortest_with_window cd_shortest_with_window ct_shortest_with_window), sl_shortest_with_window⟩)
    (c_shortest_with_window : PySem.W.codeIn K cd_shortest_with_window "shortest_with_window" = true)
    (k_shortest_with_window : PySem.W.keepIn K (.ref f_shortest_with_window) = true)
    (a_shortest_with_speed : PySem.W.nsIn K mainGlobals "shortest_with_speed" = some (some (.ref f_shortest_with_speed)))
    (l_shortest_with_speed : K.lookup f_shortest_with_speed = some ⟨oc_shortest_with_speed, od_shortest_with_speed, .func (PySem.W.fnOf "shortest_with_speed" "shortest_with_speed" (defArgs s_shortest_with_speed) (defBody s_shortest_with_speed) (defScope s_shortest_with_speed) .none kV_shortest_with_speed dc_shortest_with_speed pm_shortest_with_speed an_shortest_with_speed cd_shortest_with_speed ct_shortest_with_speed), sl_shortest_with_speed⟩)
    (c_shortest_with_speed : PySem.W.codeIn K cd_shortest_with_speed "shortest_with_speed" = true)
    (k_shortest_with_speed : PySem.W.keepIn K (.ref f_shortest_with_speed) = true)
    (a_tell_periods : PySem.W.nsIn K mainGlobals "tell_periods" = some (some (.ref f_tell_periods)))
    (l_tell_periods : K.lookup f_tell_periods = some ⟨oc_tell_periods, od_tell_periods, .func (PySem.W.fnOf "tell_periods" "tell_periods" (defArgs s_tell_periods) (defBody s_tell_periods) (defScope s_tell_periods) .none kV_tell_periods dc_tell_periods pm_tell_periods an_tell_periods cd_tell_periods ct_tell_periods), sl_tell_periods⟩)
    (c_tell_periods : PySem.W.codeIn K cd_tell_periods "tell_periods" = true)
    (k_tell_periods : PySem.W.keepIn K (.ref f_tell_periods) = true)
    (a_tell_status : PySem.W.nsIn K mainGlobals "tell_status" = some (some (.ref f_tell_status)))
    (l_tell_status : K.lookup f_tell_status = some ⟨oc_tell_status, od_tell_status, .func (PySem.W.fnOf "tell_status" "tell_status" (defArgs s_tell_status) (defBody s_tell_status) (defScope s_tell_status) .none kV_tell_status dc_tell_status pm_tell_status an_tell_status cd_tell_status ct_tell_status), sl_tell_status⟩)
    (c_tell_status : PySem.W.codeIn K cd_tell_status "tell_status" = true)
    (k_tell_status : PySem.W.keepIn K (.ref f_tell_status) = true)
    (a_answer : PySem.W.nsIn K mainGlobals "answer" = some (some (.ref f_answer)))
    (l_answer : K.lookup f_answer = some ⟨oc_answer, od_answer, .func (PySem.W.fnOf "answer" "answer" (defArgs s_answer) (defBody s_answer) (defScope s_answer) .none kV_answer dc_answer pm_answer an_answer cd_answer ct_answer), sl_answer⟩)
    (c_answer : PySem.W.codeIn K cd_answer "answer" = true)
    (k_answer : PySem.W.keepIn K (.ref f_answer) = true)
    (a_answers : PySem.W.nsIn K mainGlobals "answers" = some (some (.ref f_answers)))
    (l_answers : K.lookup f_answers = some ⟨oc_answers, od_answers, .func (PySem.W.fnOf "answers" "answers" (defArgs s_answers) (defBody s_answers) (defScope s_answers) .none kV_answers dc_answers pm_answers an_answers cd_answers ct_answers), sl_answers⟩)
    (c_answers : PySem.W.codeIn K cd_answers "answers" = true)
    (k_answers : PySem.W.keepIn K (.ref f_answers) = true)
    (aO : PySem.W.nsIn K mainGlobals "OPERATIONS" = some (some (.ref ops)))
    (lO : K.lookup ops = some ⟨.type "tuple", odO, .seq #[.ref f_create, .ref f_add_pit, .ref f_remove_pit, .ref f_set_window, .ref f_set_speed, .ref f_get_pit, .ref f_tell_shortest, .ref f_tell_plan, .ref f_tell_starts, .ref f_tell_feasible, .ref f_tell_conflict, .ref f_tell_count, .ref f_tell_throughput, .ref f_tell_occupied, .ref f_tell_completion, .ref f_shortest_with_window, .ref f_shortest_with_speed, .ref f_tell_periods, .ref f_tell_status] nO, slO⟩)
    : ∃ fd : FuncData, (∀ (s : Shared) (us : List Value), us.length = (["calls"] : List Str).length → BindsTo s fd ⟨us, []⟩ ((["calls"] : List Str).zip us)) ∧ ∀ base : Heap, K.In base → base.Ns mainGlobals mg → FnOk P w K mg base CX0 22 fa fd ["calls"] (spAns K) := by
  have e := hfa.symm.trans (PySem.W.mg_of X G a_answers)
  cases e
  have T : Nonempty { T : Txt K mg // T.d_answers.f = fa ∧ T.d_answers.fd = PySem.W.fnOf "answers" "answers" (defArgs s_answers) (defBody s_answers) (defScope s_answers) .none kV_answers dc_answers pm_answers an_answers cd_answers ct_answers } := ⟨⟨{
    CF := CF,
    gF := PySem.W.mg_of X G aF,
    oex := ⟨⟨nmF, qF, nF, bsF, _, snF, subF, abF, colF, ddF, m0, m1, m2, m3, m5, xF, by decide +kernel⟩, saF, eF, yF, kF⟩,
    fI := f_refused_init,
    fdI := _,
    iF := iF,
    tI := tF,
    FI := fun_mk l_refused_init c_refused_init k_refused_init,
    bI := (fun_mk l_refused_init c_refused_init k_refused_init).binds (fun _ _ _ _ _ _ us hl => match us, hl with | [_, _], _ => rfl),
    noCode := ncF,
    xf := ⟨gaF, ggF, eF, hF⟩,
    te := met eF icF yF sF,
    veI := vF,
    CL := CL,
    gL := PySem.W.mg_of X G aCL,
    cl := ⟨pgCL, hdCL, poCL, saCL⟩,
    nPits := nCL_pits,
    nMove := nCL_move_time,
    nEmpty := nCL_empty_time,
    fL := f_line_init,
    fdL := _,
    mkL := ⟨mkCL, iCL, fnCL, kcCL⟩,
    FL := fun_mk l_line_init c_line_init k_line_init,
    bL := (fun_mk l_line_init c_line_init k_line_init).binds (fun _ _ _ _ _ _ us hl => match us, hl with | [_, _, _, _], _ => rfl),
    CS := CS,
    gS := PySem.W.mg_of X G aCS,
    cs := ⟨pgCS, hdCS, poCS, saCS⟩,
    nLine := nCS_line,
    fS := f_state_init,
    fdS := _,
    mkS := ⟨mkCS, iCS, fnCS, kcCS⟩,
    FS := fun_mk l_state_init c_state_init k_state_init,
    bS := (fun_mk l_state_init c_state_init k_state_init).binds (fun _ _ _ _ _ _ us hl => match us, hl with | [_], _ => rfl),
    c_NO_LINE := ⟨_, PySem.W.mg_of X G z_NO_LINE⟩,
    c_NO_PIT := ⟨_, PySem.W.mg_of X G z_NO_PIT⟩,
    c_BAD_ARGUMENT := ⟨_, PySem.W.mg_of X G z_BAD_ARGUMENT⟩,
    c_FULL := ⟨_, PySem.W.mg_of X G z_FULL⟩,
    c_NOTHING := ⟨_, PySem.W.mg_of X G z_NOTHING⟩,
    c_MOST_PITS := ⟨_, PySem.W.mg_of X G z_MOST_PITS⟩,
    c_LONGEST_STAY := ⟨_, PySem.W.mg_of X G z_LONGEST_STAY⟩,
    c_WIDEST := ⟨_, PySem.W.mg_of X G z_WIDEST⟩,
    c_LONGEST_MOVE := ⟨_, PySem.W.mg_of X G z_LONGEST_MOVE⟩,
    c_LONGEST_EMPTY := ⟨_, PySem.W.mg_of X G z_LONGEST_EMPTY⟩,
    c_LAST_PERIOD := ⟨_, PySem.W.mg_of X G z_LAST_PERIOD⟩,
    c_CREATE := ⟨_, PySem.W.mg_of X G z_CREATE⟩,
    n_len := PySem.W.mg_none_of X G b_len,
    n_abs := PySem.W.mg_none_of X G b_abs,
    n_max := PySem.W.mg_none_of X G b_max,
    n_any := PySem.W.mg_none_of X G b_any,
    n_all := PySem.W.mg_none_of X G b_all,
    n_zip := PySem.W.mg_none_of X G b_zip,
    n_range := PySem.W.mg_none_of X G b_range,
    n_list := PySem.W.mg_none_of X G b_list,
    n_int := PySem.W.mg_none_of X G b_int,
    n_ValueError := PySem.W.mg_none_of X G b_ValueError,
    d_refuse := dMk X G a_refuse l_refuse c_refuse k_refuse (fun _ _ _ _ _ _ us hl => match us, hl with | [_, _], _ => rfl),
    d_check_speed := dMk X G a_check_speed l_check_speed c_check_speed k_check_speed (fun _ _ _ _ _ _ us hl => match us, hl with | [_, _], _ => rfl),
    d_check_window := dMk X G a_check_window l_check_window c_check_window k_check_window (fun _ _ _ _ _ _ us hl => match us, hl with | [_, _], _ => rfl),
    d_check_pit := dMk X G a_check_pit l_check_pit c_check_pit k_check_pit (fun _ _ _ _ _ _ us hl => match us, hl with | [_, _], _ => rfl),
    d_check_period := dMk X G a_check_period l_check_period c_check_period k_check_period (fun _ _ _ _ _ _ us hl => match us, hl with | [_], _ => rfl),
    d_with_pit := dMk X G a_with_pit l_with_pit c_with_pit k_with_pit (fun _ _ _ _ _ _ us hl => match us, hl with | [_, _, _], _ => rfl),
    d_without_pit := dMk X G a_without_pit l_without_pit c_without_pit k_without_pit (fun _ _ _ _ _ _ us hl => match us, hl with | [_, _], _ => rfl),
    d_with_window := dMk X G a_with_window l_with_window c_with_window k_with_window (fun _ _ _ _ _ _ us hl => match us, hl with | [_, _, _, _], _ => rfl),
    d_with_speed := dMk X G a_with_speed l_with_speed c_with_speed k_with_speed (fun _ _ _ _ _ _ us hl => match us, hl with | [_, _, _], _ => rfl),
    d_bound_of := dMk X G a_bound_of l_bound_of c_bound_of k_bound_of (fun _ _ _ _ _ _ us hl => match us, hl with | [_], _ => rfl),
    d_starts_of := dMk X G a_starts_of l_starts_of c_starts_of k_starts_of (fun _ _ _ _ _ _ us hl => match us, hl with | [_, _], _ => rfl),
    d_needed_time := dMk X G a_needed_time l_needed_time c_needed_time k_needed_time (fun _ _ _ _ _ _ us hl => match us, hl with | [_, _, _], _ => rfl),
    d_is_too_early := dMk X G a_is_too_early l_is_too_early c_is_too_early k_is_too_early (fun _ _ _ _ _ _ us hl => match us, hl with | [_, _, _, _, _], _ => rfl),
    d_do_conflict := dMk X G a_do_conflict l_do_conflict c_do_conflict k_do_conflict (fun _ _ _ _ _ _ us hl => match us, hl with | [_, _, _, _, _], _ => rfl),
    d_conflicts := dMk X G a_conflicts l_conflicts c_conflicts k_conflicts (fun _ _ _ _ _ _ us hl => match us, hl with | [_, _, _], _ => rfl),
    d_is_within := dMk X G a_is_within l_is_within c_is_within k_is_within (fun _ _ _ _ _ _ us hl => match us, hl with | [_, _, _], _ => rfl),
    d_may_repeat := dMk X G a_may_repeat l_may_repeat c_may_repeat k_may_repeat (fun _ _ _ _ _ _ us hl => match us, hl with | [_, _], _ => rfl),
    d_is_feasible := dMk X G a_is_feasible l_is_feasible c_is_feasible k_is_feasible (fun _ _ _ _ _ _ us hl => match us, hl with | [_, _, _], _ => rfl),
    d_does_fit := dMk X G a_does_fit l_does_fit c_does_fit k_does_fit (fun _ _ _ _ _ _ us hl => match us, hl with | [_, _, _], _ => rfl),
    d_longer_plans := dMk X G a_longer_plans l_longer_plans c_longer_plans k_longer_plans (fun _ _ _ _ _ _ us hl => match us, hl with | [_, _, _], _ => rfl),
    d_feasible_plans := dMk X G a_feasible_plans l_feasible_plans c_feasible_plans k_feasible_plans (fun _ _ _ _ _ _ us hl => match us, hl with | [_, _], _ => rfl),
    d_first_from := dMk X G a_first_from l_first_from c_first_from k_first_from (fun _ _ _ _ _ _ us hl => match us, hl with | [_, _, _], _ => rfl),
    d_first_or_none := dMk X G a_first_or_none l_first_or_none c_first_or_none k_first_or_none (fun _ _ _ _ _ _ us hl => match us, hl with | [_, _], _ => rfl),
    d_first_plan := dMk X G a_first_plan l_first_plan c_first_plan k_first_plan (fun _ _ _ _ _ _ us hl => match us, hl with | [_, _], _ => rfl),
    d_has_plan := dMk X G a_has_plan l_has_plan c_has_plan k_has_plan (fun _ _ _ _ _ _ us hl => match us, hl with | [_, _], _ => rfl),
    d_feasible_periods := dMk X G a_feasible_periods l_feasible_periods c_feasible_periods k_feasible_periods (fun _ _ _ _ _ _ us hl => match us, hl with | [_], _ => rfl),
    d_shortest_period := dMk X G a_shortest_period l_shortest_period c_shortest_period k_shortest_period (fun _ _ _ _ _ _ us hl => match us, hl with | [_], _ => rfl),
    d_throughput_time := dMk X G a_throughput_time l_throughput_time c_throughput_time k_throughput_time (fun _ _ _ _ _ _ us hl => match us, hl with | [_, _], _ => rfl),
    d_completion_time := dMk X G a_completion_time l_completion_time c_completion_time k_completion_time (fun _ _ _ _ _ _ us hl => match us, hl with | [_, _, _, _], _ => rfl),
    d_is_occupied := dMk X G a_is_occupied l_is_occupied c_is_occupied k_is_occupied (fun _ _ _ _ _ _ us hl => match us, hl with | [_, _, _, _, _], _ => rfl),
    d_occupied_pits := dMk X G a_occupied_pits l_occupied_pits c_occupied_pits k_occupied_pits (fun _ _ _ _ _ _ us hl => match us, hl with | [_, _, _, _], _ => rfl),
    d_most_occupied := dMk X G a_most_occupied l_most_occupied c_most_occupied k_most_occupied (fun _ _ _ _ _ _ us hl => match us, hl with | [_, _, _], _ => rfl),
    d_create := dMk X G a_create l_create c_create k_create (fun _ _ _ _ _ _ us hl => match us, hl with | [_, _], _ => rfl),
    d_add_pit := dMk X G a_add_pit l_add_pit c_add_pit k_add_pit (fun _ _ _ _ _ _ us hl => match us, hl with | [_, _], _ => rfl),
    d_remove_pit := dMk X G a_remove_pit l_remove_pit c_remove_pit k_remove_pit (fun _ _ _ _ _ _ us hl => match us, hl with | [_, _], _ => rfl),
    d_set_window := dMk X G a_set_window l_set_window c_set_window k_set_window (fun _ _ _ _ _ _ us hl => match us, hl with | [_, _], _ => rfl),
    d_set_speed := dMk X G a_set_speed l_set_speed c_set_speed k_set_speed (fun _ _ _ _ _ _ us hl => match us, hl with | [_, _], _ => rfl),
    d_get_pit := dMk X G a_get_pit l_get_pit c_get_pit k_get_pit (fun _ _ _ _ _ _ us hl => match us, hl with | [_, _], _ => rfl),
    d_tell_shortest := dMk X G a_tell_shortest l_tell_shortest c_tell_shortest k_tell_shortest (fun _ _ _ _ _ _ us hl => match us, hl with | [_, _], _ => rfl),
    d_checked_plan := dMk X G a_checked_plan l_checked_plan c_checked_plan k_checked_plan (fun _ _ _ _ _ _ us hl => match us, hl with | [_, _], _ => rfl),
    d_tell_plan := dMk X G a_tell_plan l_tell_plan c_tell_plan k_tell_plan (fun _ _ _ _ _ _ us hl => match us, hl with | [_, _], _ => rfl),
    d_tell_starts := dMk X G a_tell_starts l_tell_starts c_tell_starts k_tell_starts (fun _ _ _ _ _ _ us hl => match us, hl with | [_, _], _ => rfl),
    d_check_plan := dMk X G a_check_plan l_check_plan c_check_plan k_check_plan (fun _ _ _ _ _ _ us hl => match us, hl with | [_, _], _ => rfl),
    d_tell_feasible := dMk X G a_tell_feasible l_tell_feasible c_tell_feasible k_tell_feasible (fun _ _ _ _ _ _ us hl => match us, hl with | [_, _], _ => rfl),
    d_tell_conflict := dMk X G a_tell_conflict l_tell_conflict c_tell_conflict k_tell_conflict (fun _ _ _ _ _ _ us hl => match us, hl with | [_, _], _ => rfl),
    d_tell_count := dMk X G a_tell_count l_tell_count c_tell_count k_tell_count (fun _ _ _ _ _ _ us hl => match us, hl with | [_, _], _ => rfl),
    d_tell_throughput := dMk X G a_tell_throughput l_tell_throughput c_tell_throughput k_tell_throughput (fun _ _ _ _ _ _ us hl => match us, hl with | [_, _], _ => rfl),
    d_tell_occupied := dMk X G a_tell_occupied l_tell_occupied c_tell_occupied k_tell_occupied (fun _ _ _ _ _ _ us hl => match us, hl with | [_, _], _ => rfl),
    d_tell_completion := dMk X G a_tell_completion l_tell_completion c_tell_completion k_tell_completion (fun _ _ _ _ _ _ us hl => match us, hl with | [_, _], _ => rfl),
    d_shortest_with_window := dMk X G a_shortest_with_window l_shortest_with_window c_shortest_with_window k_shortest_with_window (fun _ _ _ _ _ _ us hl => match us, hl with | [_, _], _ => rfl),
    d_shortest_with_speed := dMk X G a_shortest_with_speed l_shortest_with_speed c_shortest_with_speed k_shortest_with_speed (fun _ _ _ _ _ _ us hl => match us, hl with | [_, _], _ => rfl),
    d_tell_periods := dMk X G a_tell_periods l_tell_periods c_tell_periods k_tell_periods (fun _ _ _ _ _ _ us hl => match us, hl with | [_, _], _ => rfl),
    d_tell_status := dMk X G a_tell_status l_tell_status c_tell_status k_tell_status (fun _ _ _ _ _ _ us hl => match us, hl with | [_, _], _ => rfl),
    d_answer := dMk X G a_answer l_answer c_answer k_answer (fun _ _ _ _ _ _ us hl => match us, hl with | [_, _, _], _ => rfl),
    d_answers := dMk X G a_answers l_answers c_answers k_answers (fun _ _ _ _ _ _ us hl => match us, hl with | [_], _ => rfl),
    ops := ops,
    gOps := PySem.W.mg_of X G aO,
    tOps := fun H => .inr ⟨_, _, _, lO, rfl, rfl, (by show 19 ≤ sizeLine; decide), .cons rfl (.cons rfl (.cons rfl (.cons rfl (.cons rfl (.cons rfl (.cons rfl (.cons rfl (.cons rfl (.cons rfl (.cons rfl (.cons rfl (.cons rfl (.cons rfl (.cons rfl (.cons rfl (.cons rfl (.cons rfl (.cons rfl (Paired.nil)))))))))))))))))))⟩ }, rfl, rfl⟩⟩
  obtain ⟨T, e1, e2⟩ := T
  refine ⟨PySem.W.fnOf "answers" "answers" (defArgs s_answers) (defBody s_answers) (defScope s_answers) .none kV_answers dc_answers pm_answers an_answers cd_answers ct_answers, fun s us hu => match us, hu with | [_], _ => .of_eq rfl, fun base _ _ => ?_⟩
  rw [← e1, ← e2]
  exact ok_answers T
end Hm

open PySem PySem.W PyProof.Rows
set_option maxRecDepth 100000 in
set_option maxHeartbeats 0 in
theorem PySem.Challenge.cw_hoistmoves_s01_answers_holds : PySem.Challenge.rw_hoistmoves_s01_answers.Holds := by
  w_on; k_headS; (case hw => exact ⟨[.list [.int 18, .int 0, .int 0]], by decide +kernel, by decide +kernel⟩)
  k_fillS
  refine L2.walk_specK (r := PySem.Challenge.rw_hoistmoves_s01_answers) (k := 22) (CX := L2.CX0) (ps := ["calls"]) (sp := Hm.spAns) (by decide +kernel) rfl rfl ⟨rfl, by decide, by decide⟩ (fun w h Y => PySem.W.kIn_of Y) ?F ?S (fun _ _ _ _ z => z)
  case F =>
    intro w mg fa h Y KX G hmg
    refine' Hm.allMk KX G hmg ?aF ?xF ?saF ?gaF ?ggF ?ncF ?iF ?tF ?l_refused_init ?c_refused_init ?k_refused_init ?kF ?eF ?yF ?hF ?icF ?sF ?vF ?aCL ?pgCL ?hdCL ?poCL ?saCL ?mkCL ?kcCL ?iCL ?fnCL ?nCL_pits ?nCL_move_time ?nCL_empty_time ?l_line_init ?c_line_init ?k_line_init ?aCS ?pgCS ?hdCS ?poCS ?saCS ?mkCS ?kcCS ?iCS ?fnCS ?nCS_line ?l_state_init ?c_state_init ?k_state_init ?z_NO_LINE ?z_NO_PIT ?z_BAD_ARGUMENT ?z_FULL ?z_NOTHING ?z_MOST_PITS ?z_LONGEST_STAY ?z_WIDEST ?z_LONGEST_MOVE ?z_LONGEST_EMPTY ?z_LAST_PERIOD ?z_CREATE ?b_len ?b_abs ?b_max ?b_any ?b_all ?b_zip ?b_range ?b_list ?b_int ?b_ValueError ?a_refuse ?l_refuse ?c_refuse ?k_refuse ?a_check_speed ?l_check_speed ?c_check_speed ?k_check_speed ?a_check_window ?l_check_window ?c_check_window ?k_check_window ?a_check_pit ?l_check_pit ?c_check_pit ?k_check_pit ?a_check_period ?l_check_period ?c_check_period ?k_check_period ?a_with_pit ?l_with_pit ?c_with_pit ?k_with_pit ?a_without_pit ?l_without_pit ?c_without_pit ?k_without_pit ?a_with_window ?l_with_window ?c_with_window ?k_with_window ?a_with_speed ?l_with_speed ?c_with_speed ?k_with_speed ?a_bound_of ?l_bound_of ?c_bound_of ?k_bound_of ?a_starts_of ?l_starts_of ?c_starts_of ?k_starts_of ?a_needed_time ?l_needed_time ?c_needed_time ?k_needed_time ?a_is_too_early ?l_is_too_early ?c_is_too_early ?k_is_too_early ?a_do_conflict ?l_do_conflict ?c_do_conflict ?k_do_conflict ?a_conflicts ?l_conflicts ?c_conflicts ?k_conflicts ?a_is_within ?l_is_within ?c_is_within ?k_is_within ?a_may_repeat ?l_may_repeat ?c_may_repeat ?k_may_repeat ?a_is_feasible ?l_is_feasible ?c_is_feasible ?k_is_feasible ?a_does_fit ?l_does_fit ?c_does_fit ?k_does_fit ?a_longer_plans ?l_longer_plans ?c_longer_plans ?k_longer_plans ?a_feasible_plans ?l_feasible_plans ?c_feasible_plans ?k_feasible_plans ?a_first_from ?l_first_from ?c_first_from ?k_first_from ?a_first_or_none ?l_first_or_none ?c_first_or_none ?k_first_or_none ?a_first_plan ?l_first_plan ?c_first_plan ?k_first_plan ?a_has_plan ?l_has_plan ?c_has_plan ?k_has_plan ?a_feasible_periods ?l_feasible_periods ?c_feasible_periods ?k_feasible_periods ?a_shortest_period ?l_shortest_period ?c_shortest_period ?k_shortest_period ?a_throughput_time ?l_throughput_time ?c_throughput_time ?k_throughput_time ?a_completion_time ?l_completion_time ?c_completion_time ?k_completion_time ?a_is_occupied ?l_is_occupied ?c_is_occupied ?k_is_occupied ?a_occupied_pits ?l_occupied_pits ?c_occupied_pits ?k_occupied_pits ?a_most_occupied ?l_most_occupied ?c_most_occupied ?k_most_occupied ?a_create ?l_create ?c_create ?k_create ?a_add_pit ?l_add_pit ?c_add_pit ?k_add_pit ?a_remove_pit ?l_remove_pit ?c_remove_pit ?k_remove_pit ?a_set_window ?l_set_window ?c_set_window ?k_set_window ?a_set_speed ?l_set_speed ?c_set_speed ?k_set_speed ?a_get_pit ?l_get_pit ?c_get_pit ?k_get_pit ?a_tell_shortest ?l_tell_shortest ?c_tell_shortest ?k_tell_shortest ?a_checked_plan ?l_checked_plan ?c_checked_plan ?k_checked_plan ?a_tell_plan ?l_tell_plan ?c_tell_plan ?k_tell_plan ?a_tell_starts ?l_tell_starts ?c_tell_starts ?k_tell_starts ?a_check_plan ?l_check_plan ?c_check_plan ?k_check_plan ?a_tell_feasible ?l_tell_feasible ?c_tell_feasible ?k_tell_feasible ?a_tell_conflict ?l_tell_conflict ?c_tell_conflict ?k_tell_conflict ?a_tell_count ?l_tell_count ?c_tell_count ?k_tell_count ?a_tell_throughput ?l_tell_throughput ?c_tell_throughput ?k_tell_throughput ?a_tell_occupied ?l_tell_occupied ?c_tell_occupied ?k_tell_occupied ?a_tell_completion ?l_tell_completion ?c_tell_completion ?k_tell_completion ?a_shortest_with_window ?l_shortest_with_window ?c_shortest_with_window ?k_shortest_with_window ?a_shortest_with_speed ?l_shortest_with_speed ?c_shortest_with_speed ?k_shortest_with_speed ?a_tell_periods ?l_tell_periods ?c_tell_periods ?k_tell_periods ?a_tell_status ?l_tell_status ?c_tell_status ?k_tell_status ?a_answer ?l_answer ?c_answer ?k_answer ?a_answers ?l_answers ?c_answers ?k_answers ?aO ?lO
    (case aF => k_is)
    (case xF => k_is)
    (case saF => k_is)
    (case gaF => k_is)
    (case ggF => k_is)
    (case ncF => k_is)
    (case iF => k_is)
    (case tF => k_is)
    (case l_refused_init => k_is)
    (case c_refused_init => k_is)
    (case k_refused_init => k_is)
    (case kF => k_is)
    (case eF => k_is)
    (case yF => k_is)
    (case hF => k_is)
    (case icF => k_is)
    (case sF => first | rfl | k_is)
    (case vF => first | k_is | rfl | decide +kernel)
    (case aCL => k_is)
    (case pgCL => k_is)
    (case hdCL => k_is)
    (case poCL => k_is)
    (case saCL => k_is)
    (case mkCL => k_is)
    (case kcCL => k_is)
    (case iCL => k_is)
    (case fnCL => k_is)
    (case nCL_pits => k_is)
    (case nCL_move_time => k_is)
    (case nCL_empty_time => k_is)
    (case l_line_init => k_is)
    (case c_line_init => k_is)
    (case k_line_init => k_is)
    (case aCS => k_is)
    (case pgCS => k_is)
    (case hdCS => k_is)
    (case poCS => k_is)
    (case saCS => k_is)
    (case mkCS => k_is)
    (case kcCS => k_is)
    (case iCS => k_is)
    (case fnCS => k_is)
    (case nCS_line => k_is)
    (case l_state_init => k_is)
    (case c_state_init => k_is)
    (case k_state_init => k_is)
    (case z_NO_LINE => k_is)
    (case z_NO_PIT => k_is)
    (case z_BAD_ARGUMENT => k_is)
    (case z_FULL => k_is)
    (case z_NOTHING => k_is)
    (case z_MOST_PITS => k_is)
    (case z_LONGEST_STAY => k_is)
    (case z_WIDEST => k_is)
    (case z_LONGEST_MOVE => k_is)
    (case z_LONGEST_EMPTY => k_is)
    (case z_LAST_PERIOD => k_is)
    (case z_CREATE => k_is)
    (case b_len => k_is)
    (case b_abs => k_is)
    (case b_max => k_is)
    (case b_any => k_is)
    (case b_all => k_is)
    (case b_zip => k_is)
    (case b_range => k_is)
    (case b_list => k_is)
    (case b_int => k_is)
    (case b_ValueError => k_is)
    (case a_refuse => k_is)
    (case l_refuse => k_is)
    (case c_refuse => k_is)
    (case k_refuse => k_is)
    (case a_check_speed => k_is)
    (case l_check_speed => k_is)
    (case c_check_speed => k_is)
    (case k_check_speed => k_is)
    (case a_check_window => k_is)
    (case l_check_window => k_is)
    (case c_check_window => k_is)
    (case k_check_window => k_is)
    (case a_check_pit => k_is)
    (case l_check_pit => k_is)
    (case c_check_pit => k_is)
    (case k_check_pit => k_is)
    (case a_check_period => k_is)
    (case l_check_period => k_is)
    (case c_check_period => k_is)
    (case k_check_period => k_is)
    (case a_with_pit => k_is)
    (case l_with_pit => k_is)
    (case c_with_pit => k_is)
    (case k_with_pit => k_is)
    (case a_without_pit => k_is)
    (case l_without_pit => k_is)
    (case c_without_pit => k_is)
    (case k_without_pit => k_is)
    (case a_with_window => k_is)
    (case l_with_window => k_is)
    (case c_with_window => k_is)
    (case k_with_window => k_is)
    (case a_with_speed => k_is)
    (case l_with_speed => k_is)
    (case c_with_speed => k_is)
    (case k_with_speed => k_is)
    (case a_bound_of => k_is)
    (case l_bound_of => k_is)
    (case c_bound_of => k_is)
    (case k_bound_of => k_is)
    (case a_starts_of => k_is)
    (case l_starts_of => k_is)
    (case c_starts_of => k_is)
    (case k_starts_of => k_is)
    (case a_needed_time => k_is)
    (case l_needed_time => k_is)
    (case c_needed_time => k_is)
    (case k_needed_time => k_is)
    (case a_is_too_early => k_is)
    (case l_is_too_early => k_is)
    (case c_is_too_early => k_is)
    (case k_is_too_early => k_is)
    (case a_do_conflict => k_is)
    (case l_do_conflict => k_is)
    (case c_do_conflict => k_is)
    (case k_do_conflict => k_is)
    (case a_conflicts => k_is)
    (case l_conflicts => k_is)
    (case c_conflicts => k_is)
    (case k_conflicts => k_is)
    (case a_is_within => k_is)
    (case l_is_within => k_is)
    (case c_is_within => k_is)
    (case k_is_within => k_is)
    (case a_may_repeat => k_is)
    (case l_may_repeat => k_is)
    (case c_may_repeat => k_is)
    (case k_may_repeat => k_is)
    (case a_is_feasible => k_is)
    (case l_is_feasible => k_is)
    (case c_is_feasible => k_is)
    (case k_is_feasible => k_is)
    (case a_does_fit => k_is)
    (case l_does_fit => k_is)
    (case c_does_fit => k_is)
    (case k_does_fit => k_is)
    (case a_longer_plans => k_is)
    (case l_longer_plans => k_is)
    (case c_longer_plans => k_is)
    (case k_longer_plans => k_is)
    (case a_feasible_plans => k_is)
    (case l_feasible_plans => k_is)
    (case c_feasible_plans => k_is)
    (case k_feasible_plans => k_is)
    (case a_first_from => k_is)
    (case l_first_from => k_is)
    (case c_first_from => k_is)
    (case k_first_from => k_is)
    (case a_first_or_none => k_is)
    (case l_first_or_none => k_is)
    (case c_first_or_none => k_is)
    (case k_first_or_none => k_is)
    (case a_first_plan => k_is)
    (case l_first_plan => k_is)
    (case c_first_plan => k_is)
    (case k_first_plan => k_is)
    (case a_has_plan => k_is)
    (case l_has_plan => k_is)
    (case c_has_plan => k_is)
    (case k_has_plan => k_is)
    (case a_feasible_periods => k_is)
    (case l_feasible_periods => k_is)
    (case c_feasible_periods => k_is)
    (case k_feasible_periods => k_is)
    (case a_shortest_period => k_is)
    (case l_shortest_period => k_is)
    (case c_shortest_period => k_is)
    (case k_shortest_period => k_is)
    (case a_throughput_time => k_is)
    (case l_throughput_time => k_is)
    (case c_throughput_time => k_is)
    (case k_throughput_time => k_is)
    (case a_completion_time => k_is)
    (case l_completion_time => k_is)
    (case c_completion_time => k_is)
    (case k_completion_time => k_is)
    (case a_is_occupied => k_is)
    (case l_is_occupied => k_is)
    (case c_is_occupied => k_is)
    (case k_is_occupied => k_is)
    (case a_occupied_pits => k_is)
    (case l_occupied_pits => k_is)
    (case c_occupied_pits => k_is)
    (case k_occupied_pits => k_is)
    (case a_most_occupied => k_is)
    (case l_most_occupied => k_is)
    (case c_most_occupied => k_is)
    (case k_most_occupied => k_is)
    (case a_create => k_is)
    (case l_create => k_is)
    (case c_create => k_is)
    (case k_create => k_is)
    (case a_add_pit => k_is)
    (case l_add_pit => k_is)
    (case c_add_pit => k_is)
    (case k_add_pit => k_is)
    (case a_remove_pit => k_is)
    (case l_remove_pit => k_is)
    (case c_remove_pit => k_is)
    (case k_remove_pit => k_is)
    (case a_set_window => k_is)
    (case l_set_window => k_is)
    (case c_set_window => k_is)
    (case k_set_window => k_is)
    (case a_set_speed => k_is)
    (case l_set_speed => k_is)
    (case c_set_speed => k_is)
    (case k_set_speed => k_is)
    (case a_get_pit => k_is)
    (case l_get_pit => k_is)
    (case c_get_pit => k_is)
    (case k_get_pit => k_is)
    (case a_tell_shortest => k_is)
    (case l_tell_shortest => k_is)
    (case c_tell_shortest => k_is)
    (case k_tell_shortest => k_is)
    (case a_checked_plan => k_is)
    (case l_checked_plan => k_is)
    (case c_checked_plan => k_is)
    (case k_checked_plan => k_is)
    (case a_tell_plan => k_is)
    (case l_tell_plan => k_is)
    (case c_tell_plan => k_is)
    (case k_tell_plan => k_is)
    (case a_tell_starts => k_is)
    (case l_tell_starts => k_is)
    (case c_tell_starts => k_is)
    (case k_tell_starts => k_is)
    (case a_check_plan => k_is)
    (case l_check_plan => k_is)
    (case c_check_plan => k_is)
    (case k_check_plan => k_is)
    (case a_tell_feasible => k_is)
    (case l_tell_feasible => k_is)
    (case c_tell_feasible => k_is)
    (case k_tell_feasible => k_is)
    (case a_tell_conflict => k_is)
    (case l_tell_conflict => k_is)
    (case c_tell_conflict => k_is)
    (case k_tell_conflict => k_is)
    (case a_tell_count => k_is)
    (case l_tell_count => k_is)
    (case c_tell_count => k_is)
    (case k_tell_count => k_is)
    (case a_tell_throughput => k_is)
    (case l_tell_throughput => k_is)
    (case c_tell_throughput => k_is)
    (case k_tell_throughput => k_is)
    (case a_tell_occupied => k_is)
    (case l_tell_occupied => k_is)
    (case c_tell_occupied => k_is)
    (case k_tell_occupied => k_is)
    (case a_tell_completion => k_is)
    (case l_tell_completion => k_is)
    (case c_tell_completion => k_is)
    (case k_tell_completion => k_is)
    (case a_shortest_with_window => k_is)
    (case l_shortest_with_window => k_is)
    (case c_shortest_with_window => k_is)
    (case k_shortest_with_window => k_is)
    (case a_shortest_with_speed => k_is)
    (case l_shortest_with_speed => k_is)
    (case c_shortest_with_speed => k_is)
    (case k_shortest_with_speed => k_is)
    (case a_tell_periods => k_is)
    (case l_tell_periods => k_is)
    (case c_tell_periods => k_is)
    (case k_tell_periods => k_is)
    (case a_tell_status => k_is)
    (case l_tell_status => k_is)
    (case c_tell_status => k_is)
    (case k_tell_status => k_is)
    (case a_answer => k_is)
    (case l_answer => k_is)
    (case c_answer => k_is)
    (case k_answer => k_is)
    (case a_answers => k_is)
    (case l_answers => k_is)
    (case c_answers => k_is)
    (case k_answers => k_is)
    (case aO => k_is)
    (case lO => k_is)
  case S =>
    intro K H xs a hO hwi hask hx
    cases hx with
    | cons h1 h2 =>
      cases h2
      cases h1 with
      | lst hs ha =>
        have e := L2.ints_dw a.1 _ ha
        subst e
        exact ⟨_, a.1, rfl, hs, hask, fun H' p hp => .lst (L2.SqL.of hp) (L2.dw_ints _)⟩
#print axioms PySem.Challenge.cw_hoistmoves_s01_answers_holds
